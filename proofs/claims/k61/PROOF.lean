import PyProof.Rows.All
import Wide.All
import OpenK.AllK
import Wide.FinOn
import HandS.ForMost
import HandS.Wide
import HandS.TupAny
import HandS.TupMul
import HandS.IsInst
import HandS.Style
import HandS.Conv
import KE.KDictKeyed
import KE.KDictWalk
import KE.GoesDict
import KE.SortData
import HandS.WideBits
import HandS.Flow
import HandS.More
import HandS.SortInts
import HandS.EndBits
import KE.LtData
import PySem.Challenge.RW_wayguess_k61_whole_none_is_better
set_option Elab.async false
set_option linter.all false
set_option maxRecDepth 100000
set_option maxHeartbeats 1000000
/-! PV: tuples by value. -/
namespace PV
open PySem PySem.Spec PyProof.Rows L2

/-- a value: tuples by value, mutable things by address -/
inductive W where
  | non | bl (b : Bool) | int (i : Int) | str (x : Str) | tup (xs : List W) | ref (a : Addr)
  | cl (xs : List W)
/-- what stands at a live address -/
inductive Ob where
  | lst (xs : List W)
  | dK (kvs : List (Key × W))
  | dN (kvs : List (W × W))
  | lkK (kvs : List (Key × W))
  | lkN (kvs : List (W × W))
  | ins (C : Addr) (fs : List (Str × W))
  | set (S : Int → Bool) (n : Nat)
abbrev Me := Addr → Option Ob
abbrev En := List (Option W)
def put (M : Me) (a : Addr) (o : Ob) : Me := fun b => if b = a then some o else M b
theorem put_same {M : Me} {a : Addr} {o : Ob} : put M a o a = some o := by unfold put; rw [if_pos rfl]
theorem put_ne {M : Me} {a b : Addr} {o : Ob} (h : b ≠ a) : put M a o b = M b := by unfold put; rw [if_neg h]
theorem put_old {M : Me} {a b : Addr} {o u : Ob} (h : M b = some u) (n : M a = none) : put M a o b = some u := by
  rw [put_ne (fun e => by rw [e, n] at h; cases h)]; exact h
theorem put_put {M : Me} {a : Addr} {o u : Ob} : put (put M a o) a u = put M a u := by
  funext b; unfold put; split <;> rfl
theorem put_comm {M : Me} {a b : Addr} {o u : Ob} (h : a ≠ b) : put (put M a o) b u = put (put M b u) a o := by
  funext c; unfold put
  by_cases h1 : c = b
  · rw [if_pos h1, if_neg (by rw [h1]; exact Ne.symm h), if_pos h1]
  · rw [if_neg h1, if_neg h1]
theorem put_self {M : Me} {a : Addr} {o : Ob} (h : M a = some o) : put M a o = M := by
  funext b; unfold put; split
  · rename_i e; rw [e, h]
  · rfl
/-- fewer live things -/
def Sub (M M' : Me) : Prop := ∀ a o, M a = some o → M' a = some o
theorem Sub.refl (M : Me) : Sub M M := fun _ _ h => h
theorem Sub.trans {M M1 M2 : Me} (a : Sub M M1) (b : Sub M1 M2) : Sub M M2 := fun c o h => b c o (a c o h)
theorem Sub.put {M M' : Me} {a : Addr} {o : Ob} (s : Sub M M') (h : M a = none) : Sub M (PV.put M' a o) := fun b u e => by
  rw [put_ne (fun z => by rw [z, h] at e; cases e)]; exact s b u e
theorem Sub.new {M : Me} {a : Addr} {o : Ob} (h : M a = none) : Sub M (PV.put M a o) := (Sub.refl M).put h
theorem Sub.both {M M' : Me} {a : Addr} {o : Ob} (s : Sub M M') : Sub (PV.put M a o) (PV.put M' a o) := fun b u e => by
  by_cases z : b = a
  · subst z; rw [put_same] at e ⊢; exact e
  · rw [put_ne z] at e ⊢; exact s b u e

/-! ### what a value is at an abstract heap -/
/-- a list that nobody can change -/
def Cl (K : PySem.W.Frag) (H : Hp) (a : Addr) (vs : List V) : Prop := (∃ o, H a = some (.frz o (.lst vs))) ∨
  ∃ (o : Obj) (its : Array Value) (n : Nat), K.lookup a = some o ∧ o.cls = .type "list" ∧ o.dict = none ∧ o.data = .seq its n ∧ its.size ≤ sizeLine ∧ Vals vs its.toList
theorem Cl.sq {K : PySem.W.Frag} {H : Hp} {a : Addr} {vs : List V} (h : Cl K H a vs) : SqL K H a vs := h.elim (fun h => .inl (.inr h)) .inr
mutual
def Rep (K : PySem.W.Frag) (H : Hp) : W → V → Prop
  | .non, v => v = .non
  | .bl b, v => v = .bl b
  | .int i, v => v = .int i
  | .str x, v => v = .str x
  | .ref a, v => v = .ref a
  | .tup ws, v => ∃ a vs, v = .ref a ∧ SqT K H a vs ∧ Reps K H ws vs
  | .cl ws, v => ∃ a vs, v = .ref a ∧ Cl K H a vs ∧ Reps K H ws vs
def Reps (K : PySem.W.Frag) (H : Hp) : List W → List V → Prop
  | [], vs => vs = []
  | w :: ws, vs => ∃ v r, vs = v :: r ∧ Rep K H w v ∧ Reps K H ws r
end
/-- the abstract heap goes on: tuples and locked things stay -/
structure GoH (H H' : Hp) : Prop where
  tup : ∀ a xs, H a = some (.tup xs) → H' a = some (.tup xs)
  frz : ∀ a o u, H a = some (.frz o u) → H' a = some (.frz o u)
  dom : ∀ a, H a ≠ none → H' a ≠ none
theorem GoH.refl (H : Hp) : GoH H H := ⟨fun _ _ h => h, fun _ _ _ h => h, fun _ h => h⟩
theorem GoH.trans {H H1 H2 : Hp} (a : GoH H H1) (b : GoH H1 H2) : GoH H H2 := ⟨fun c x h => b.tup c x (a.tup c x h), fun c o u h => b.frz c o u (a.frz c o u h), fun c h => b.dom c (a.dom c h)⟩
theorem GoH.new {H : Hp} {p : Addr} {o : HO} (h : H p = none) : GoH H (upd H p o) :=
  ⟨fun a xs e => by rw [upd_ne (ne_of_none e h)]; exact e, fun a ob u e => by rw [upd_ne (ne_of_none e h)]; exact e, fun a e => by
    by_cases z : a = p
    · subst z; exact absurd h e
    · rw [upd_ne z]; exact e⟩
/-- a thing that is no tuple and not locked is written -/
theorem GoH.write {H : Hp} {p : Addr} {o o' : HO} (h : H p = some o) (h1 : ∀ xs, o ≠ .tup xs) (h2 : ∀ ob u, o ≠ .frz ob u) : GoH H (upd H p o') :=
  ⟨fun a xs e => by rw [upd_ne (ne_of e h (Ne.symm (h1 xs)))]; exact e, fun a ob u e => by rw [upd_ne (ne_of e h (Ne.symm (h2 ob u)))]; exact e, fun a e => by
    by_cases z : a = p
    · subst z; rw [upd_same]; intro q; cases q
    · rw [upd_ne z]; exact e⟩
theorem GoH.sqT {K : PySem.W.Frag} {H H' : Hp} {a : Addr} {xs : List V} (g : GoH H H') (h : SqT K H a xs) : SqT K H' a xs := by
  rcases h with (h | ⟨o, h⟩) | h
  · exact .inl (.inl (g.tup _ _ h))
  · exact .inl (.inr ⟨o, g.frz _ _ _ h⟩)
  · exact .inr h
theorem GoH.cl {K : PySem.W.Frag} {H H' : Hp} {a : Addr} {xs : List V} (g : GoH H H') (h : Cl K H a xs) : Cl K H' a xs := h.elim (fun ⟨o, h⟩ => .inl ⟨o, g.frz _ _ _ h⟩) .inr
mutual
theorem Rep.go {K : PySem.W.Frag} {H H' : Hp} (g : GoH H H') : ∀ {w : W} {v : V}, Rep K H w v → Rep K H' w v
  | .non, _, h => h
  | .bl _, _, h => h
  | .int _, _, h => h
  | .str _, _, h => h
  | .ref _, _, h => h
  | .tup _, _, ⟨a, vs, e, s, r⟩ => ⟨a, vs, e, g.sqT s, Reps.go g r⟩
  | .cl _, _, ⟨a, vs, e, s, r⟩ => ⟨a, vs, e, g.cl s, Reps.go g r⟩
theorem Reps.go {K : PySem.W.Frag} {H H' : Hp} (g : GoH H H') : ∀ {ws : List W} {vs : List V}, Reps K H ws vs → Reps K H' ws vs
  | [], _, h => h
  | _ :: _, _, ⟨v, r, e, h, t⟩ => ⟨v, r, e, Rep.go g h, Reps.go g t⟩
end
section
variable {K : PySem.W.Frag} {H : Hp}
theorem Reps.nil : Reps K H [] [] := by unfold Reps; rfl
theorem Reps.cons {w : W} {ws : List W} {v : V} {vs : List V} (h : Rep K H w v) (t : Reps K H ws vs) : Reps K H (w :: ws) (v :: vs) := by unfold Reps; exact ⟨v, vs, rfl, h, t⟩
theorem Reps.uncons {w : W} {ws : List W} {vs : List V} (h : Reps K H (w :: ws) vs) : ∃ v r, vs = v :: r ∧ Rep K H w v ∧ Reps K H ws r := by unfold Reps at h; exact h
theorem Reps.unnil {vs : List V} (h : Reps K H [] vs) : vs = [] := by unfold Reps at h; exact h
theorem Reps.length : ∀ {ws : List W} {vs : List V}, Reps K H ws vs → vs.length = ws.length
  | [], _, h => by rw [h.unnil]; rfl
  | w :: ws, vs, h => by
    obtain ⟨v, r, e, _, t⟩ := h.uncons
    rw [e, List.length_cons, List.length_cons, Reps.length t]
theorem Reps.get : ∀ {ws : List W} {vs : List V} {i : Nat} {w : W}, Reps K H ws vs → ws[i]? = some w → ∃ v, vs[i]? = some v ∧ Rep K H w v
  | [], _, _, _, _, e => by simp at e
  | w :: ws, vs, 0, x, h, e => by
    obtain ⟨v, r, e1, h1, _⟩ := h.uncons
    have e2 : w = x := by simpa using e
    subst e1 e2
    exact ⟨v, rfl, h1⟩
  | w :: ws, vs, i + 1, x, h, e => by
    obtain ⟨v, r, e1, _, t⟩ := h.uncons
    subst e1
    obtain ⟨u, h1, h2⟩ := Reps.get (i := i) (w := x) t (by simpa using e)
    exact ⟨u, by simpa using h1, h2⟩
theorem Reps.append : ∀ {ws us : List W} {vs zs : List V}, Reps K H ws vs → Reps K H us zs → Reps K H (ws ++ us) (vs ++ zs)
  | [], _, _, _, h, t => by rw [h.unnil]; exact t
  | w :: ws, us, vs, zs, h, t => by
    obtain ⟨v, r, e, h1, h2⟩ := h.uncons
    subst e
    exact .cons h1 (Reps.append h2 t)
theorem Reps.take : ∀ {ws : List W} {vs : List V} (n : Nat), Reps K H ws vs → Reps K H (ws.take n) (vs.take n)
  | [], _, n, h => by rw [h.unnil]; simpa using Reps.nil
  | w :: ws, vs, 0, h => by simpa using Reps.nil
  | w :: ws, vs, n + 1, h => by
    obtain ⟨v, r, e, h1, h2⟩ := h.uncons
    subst e
    exact .cons h1 (Reps.take n h2)
theorem Reps.drop : ∀ {ws : List W} {vs : List V} (n : Nat), Reps K H ws vs → Reps K H (ws.drop n) (vs.drop n)
  | [], _, n, h => by rw [h.unnil]; simpa using Reps.nil
  | w :: ws, vs, 0, h => h
  | w :: ws, vs, n + 1, h => by
    obtain ⟨v, r, e, h1, h2⟩ := h.uncons
    subst e
    exact Reps.drop n h2
theorem Reps.set : ∀ {ws : List W} {vs : List V} (i : Nat) {w : W} {v : V}, Rep K H w v → Reps K H ws vs → Reps K H (ws.set i w) (vs.set i v)
  | [], _, i, _, _, _, h => by rw [h.unnil]; simpa using Reps.nil
  | x :: ws, vs, 0, w, v, q, h => by
    obtain ⟨y, r, e, h1, h2⟩ := h.uncons
    subst e
    exact .cons q h2
  | x :: ws, vs, i + 1, w, v, q, h => by
    obtain ⟨y, r, e, h1, h2⟩ := h.uncons
    subst e
    exact .cons h1 (Reps.set i q h2)
theorem Reps.eraseIdx : ∀ {ws : List W} {vs : List V} (i : Nat), Reps K H ws vs → Reps K H (ws.eraseIdx i) (vs.eraseIdx i)
  | [], _, i, h => by rw [h.unnil]; simpa using Reps.nil
  | x :: ws, vs, 0, h => by
    obtain ⟨y, r, e, h1, h2⟩ := h.uncons
    subst e
    exact h2
  | x :: ws, vs, i + 1, h => by
    obtain ⟨y, r, e, h1, h2⟩ := h.uncons
    subst e
    exact .cons h1 (Reps.eraseIdx i h2)
theorem Reps.dropLast {ws : List W} {vs : List V} (h : Reps K H ws vs) : Reps K H ws.dropLast vs.dropLast := by
  rw [List.dropLast_eq_take, List.dropLast_eq_take, h.length]
  exact h.take _
theorem Reps.reverse : ∀ {ws : List W} {vs : List V}, Reps K H ws vs → Reps K H ws.reverse vs.reverse
  | [], _, h => by rw [h.unnil]; exact Reps.nil
  | x :: ws, vs, h => by
    obtain ⟨y, r, e, h1, h2⟩ := h.uncons
    subst e
    rw [List.reverse_cons, List.reverse_cons]
    exact (Reps.reverse h2).append (.cons h1 .nil)
theorem Reps.rep {ws : List W} {vs : List V} (h : Reps K H ws vs) : ∀ k : Nat, Reps K H (List.replicate k ws).flatten (List.replicate k vs).flatten
  | 0 => Reps.nil
  | k + 1 => by
    rw [List.replicate_succ, List.replicate_succ, List.flatten_cons, List.flatten_cons]
    exact h.append (Reps.rep h k)
theorem Rep.tup {a : Addr} {vs : List V} {ws : List W} (s : SqT K H a vs) (r : Reps K H ws vs) : Rep K H (.tup ws) (.ref a) := by unfold Rep; exact ⟨a, vs, rfl, s, r⟩
theorem Rep.untup {v : V} {ws : List W} (h : Rep K H (.tup ws) v) : ∃ a vs, v = .ref a ∧ SqT K H a vs ∧ Reps K H ws vs := by unfold Rep at h; exact h
theorem Rep.uncl {v : V} {ws : List W} (h : Rep K H (.cl ws) v) : ∃ a vs, v = .ref a ∧ Cl K H a vs ∧ Reps K H ws vs := by unfold Rep at h; exact h
theorem rep_int {i : Int} : Rep K H (.int i) (.int i) := by unfold Rep; rfl
theorem rep_bl {b : Bool} : Rep K H (.bl b) (.bl b) := by unfold Rep; rfl
theorem rep_str {x : Str} : Rep K H (.str x) (.str x) := by unfold Rep; rfl
theorem rep_non : Rep K H .non .non := by unfold Rep; rfl
theorem rep_ref {a : Addr} : Rep K H (.ref a) (.ref a) := by unfold Rep; rfl
theorem un_int {i : Int} {v : V} (h : Rep K H (.int i) v) : v = .int i := by unfold Rep at h; exact h
theorem un_bl {b : Bool} {v : V} (h : Rep K H (.bl b) v) : v = .bl b := by unfold Rep at h; exact h
theorem un_str {x : Str} {v : V} (h : Rep K H (.str x) v) : v = .str x := by unfold Rep at h; exact h
theorem un_non {v : V} (h : Rep K H .non v) : v = .non := by unfold Rep at h; exact h
theorem un_ref {a : Addr} {v : V} (h : Rep K H (.ref a) v) : v = .ref a := by unfold Rep at h; exact h
theorem Reps.of_ints : ∀ {ns : List Int}, Reps K H (ns.map W.int) (ns.map V.int)
  | [] => Reps.nil
  | _ :: _ => .cons rep_int Reps.of_ints
theorem Reps.ints : ∀ {ns : List Int} {vs : List V}, Reps K H (ns.map W.int) vs → vs = ns.map V.int
  | [], _, h => h.unnil
  | n :: ns, vs, h => by
    obtain ⟨v, r, e, h1, h2⟩ := h.uncons
    rw [e, un_int h1, Reps.ints h2]; rfl
end

/-! ### the memory at an abstract heap -/
/-- what the laying is over -/
structure Kx where
  P : Program
  w : World
  K : PySem.W.Frag
mutual
def nk : W → NestedKey
  | .non => .none
  | .bl b => .num (if b = true then 1 else 0)
  | .int i => .num i
  | .str x => .text x
  | .ref _ => .none
  | .cl _ => .none
  | .tup ws => .tup (nks ws)
def nks : List W → List NestedKey
  | [] => []
  | w :: ws => nk w :: nks ws
end
mutual
def kr : W → Bool
  | .ref _ => false
  | .cl _ => false
  | .tup ws => krs ws
  | _ => true
def krs : List W → Bool
  | [] => true
  | w :: ws => kr w && krs ws
end
def KeyOk (w : W) : Prop := (∃ ws, w = .tup ws) ∧ kr w = true ∧ (nk w).depth ≤ 8
def DRaw (a : Addr) (es : Array DictEntry) : Heap → Prop := fun h => ∃ o ep, h.get? a = some o ∧ o.ExactDict ∧ o.data = .dict es ep
def NRow (B : Kx) (H : Hp) (p : W × W) (x : NestedKey × Addr × Value) : Prop :=
  x.1 = nk p.1 ∧ Rep B.K H p.1 (.ref x.2.1) ∧ KeyOk p.1 ∧ ∃ vv, RelV vv x.2.2 ∧ Rep B.K H p.2 vv
/-- the raw rows of such a dict -/
structure NDict (B : Kx) (H : Hp) (kvs : List (W × W)) (es : Array DictEntry) : Prop where
  sz : kvs.length ≤ sizeLine
  rows : ∃ xs : List (NestedKey × Addr × Value), Paired (NRow B H) kvs xs ∧ es.toList = xs.map (entryOfKey (nestedKind B.P B.w)) ∧ (xs.map (·.1)).Nodup
def KRow (B : Kx) (H : Hp) (p : Key × W) (x : Key × V) : Prop := p.1 = x.1 ∧ Rep B.K H p.2 x.2
def FRow (B : Kx) (H : Hp) (p : Str × W) (x : Str × V) : Prop := p.1 = x.1 ∧ Rep B.K H p.2 x.2
def ObR (B : Kx) (H : Hp) (a : Addr) : Ob → Prop
  | .lst ws => ∃ vs, H a = some (.lst vs) ∧ Reps B.K H ws vs
  | .dK kvs => ∃ xs, H a = some (.dK xs) ∧ Paired (KRow B H) kvs xs
  | .dN kvs => ∃ es, H a = some (.ext (DRaw a es)) ∧ (a == sysModules) = false ∧ NDict B H kvs es
  | .lkK kvs => ∃ o xs, H a = some (.frz o (.dK xs)) ∧ Paired (KRow B H) kvs xs
  | .lkN kvs => ∃ o es, H a = some (.frz o (.ext (DRaw a es))) ∧ (a == sysModules) = false ∧ NDict B H kvs es
  | .ins C fs => ∃ dx xs, H a = some (.ins C dx xs) ∧ Paired (FRow B H) fs xs
  | .set S n => H a = some (.set S n)
def Mo (B : Kx) (H : Hp) (M : Me) : Prop := ∀ a o, M a = some o → ObR B H a o
theorem NDict.go {B : Kx} {H H' : Hp} (g : GoH H H') {kvs : List (W × W)} {es : Array DictEntry} (h : NDict B H kvs es) : NDict B H' kvs es := by
  obtain ⟨sz, xs, p, e, n⟩ := h
  exact ⟨sz, xs, Paired.mapP p fun _ _ ⟨e1, r, k, vv, rv, r2⟩ => ⟨e1, r.go g, k, vv, rv, r2.go g⟩, e, n⟩
/-- a thing stays: its own place and the tuples stay -/
theorem ObR.go {B : Kx} {H H' : Hp} {a : Addr} {o : Ob} (g : GoH H H') (e : H' a = H a) (h : ObR B H a o) : ObR B H' a o := by
  cases o with
  | lst ws => obtain ⟨vs, h1, h2⟩ := h; exact ⟨vs, e.trans h1, h2.go g⟩
  | dK kvs => obtain ⟨xs, h1, h2⟩ := h; exact ⟨xs, e.trans h1, Paired.mapP h2 fun _ _ ⟨e1, r⟩ => ⟨e1, r.go g⟩⟩
  | dN kvs => obtain ⟨es, h1, h2, h3⟩ := h; exact ⟨es, e.trans h1, h2, h3.go g⟩
  | lkK kvs => obtain ⟨o, xs, h1, h2⟩ := h; exact ⟨o, xs, e.trans h1, Paired.mapP h2 fun _ _ ⟨e1, r⟩ => ⟨e1, r.go g⟩⟩
  | lkN kvs => obtain ⟨o, es, h1, h2, h3⟩ := h; exact ⟨o, es, e.trans h1, h2, h3.go g⟩
  | ins C fs => obtain ⟨dx, xs, h1, h2⟩ := h; exact ⟨dx, xs, e.trans h1, Paired.mapP h2 fun _ _ ⟨e1, r⟩ => ⟨e1, r.go g⟩⟩
  | set S n => exact e.trans h
theorem ObR.there {B : Kx} {H : Hp} {a : Addr} {o : Ob} (h : ObR B H a o) : ∃ u, H a = some u ∧ ∀ xs, u ≠ .tup xs := by
  cases o with
  | lst ws => obtain ⟨vs, h1, _⟩ := h; exact ⟨_, h1, fun _ z => nomatch z⟩
  | dK kvs => obtain ⟨xs, h1, _⟩ := h; exact ⟨_, h1, fun _ z => nomatch z⟩
  | dN kvs => obtain ⟨es, h1, _⟩ := h; exact ⟨_, h1, fun _ z => nomatch z⟩
  | lkK kvs => obtain ⟨o, xs, h1, _⟩ := h; exact ⟨_, h1, fun _ z => nomatch z⟩
  | lkN kvs => obtain ⟨o, es, h1, _⟩ := h; exact ⟨_, h1, fun _ z => nomatch z⟩
  | ins C fs => obtain ⟨dx, xs, h1, _⟩ := h; exact ⟨_, h1, fun _ z => nomatch z⟩
  | set S n => exact ⟨_, h, fun _ z => nomatch z⟩
section
variable {B : Kx} {H H' : Hp} {M M' : Me}
theorem Mo.free (m : Mo B H M) {a : Addr} (h : H a = none) : M a = none := by
  cases e : M a with
  | none => rfl
  | some o =>
    obtain ⟨u, h1, _⟩ := (m a o e).there
    rw [h] at h1; cases h1
theorem Mo.sub (m : Mo B H M) (s : Sub M' M) : Mo B H M' := fun a o e => m a o (s a o e)
/-- a new thing that is not live -/
theorem Mo.new (m : Mo B H M) {p : Addr} {o : HO} (h : H p = none) : Mo B (upd H p o) M := fun a u e =>
  (m a u e).go (GoH.new h) (upd_ne (by
    obtain ⟨x, h1, _⟩ := (m a u e).there
    exact ne_of_none h1 h))
/-- a live thing is changed | a new one is live -/
theorem Mo.put (m : Mo B H M) {p : Addr} {o : HO} {u : Ob} (g : GoH H (upd H p o)) (h : ObR B (upd H p o) p u) : Mo B (upd H p o) (PV.put M p u) := fun a x e => by
  by_cases z : a = p
  · subst z; rw [put_same] at e; cases e; exact h
  · rw [put_ne z] at e
    exact (m a x e).go g (upd_ne z)
end
theorem sameNew {H : Hp} {p : Addr} {o : HO} (h : H p = none) : Same H (upd H p o) := fun b u e => by
  rw [upd_ne (ne_of_none e h)]; exact e
theorem GoH.same {H H' : Hp} (s : Same H H') : GoH H H' := ⟨fun a _ e => s a _ e, fun a _ _ e => s a _ e, fun a e => by
  cases q : H a with
  | none => exact absurd q e
  | some o => rw [s a o q]; intro z; cases z⟩
theorem Mo.same {B : Kx} {H H' : Hp} {M : Me} (m : Mo B H M) (s : Same H H') : Mo B H' M := fun a u e =>
  (m a u e).go (GoH.same s) (by
    obtain ⟨x, h1, _⟩ := (m a u e).there
    rw [h1]; exact s a x h1)
/-- the state goes on: what is not live stays as it is, and does not come to life -/
structure Go (H : Hp) (M : Me) (H' : Hp) (M' : Me) : Prop where
  h : GoH H H'
  fr : ∀ a, H a ≠ none → M a = none → M' a = none
  fm : ∀ a o, H a = some o → M a = none → H' a = some o
section
variable {H H1 H2 : Hp} {M M1 M2 : Me}
theorem Go.refl (H : Hp) (M : Me) : Go H M H M := ⟨GoH.refl H, fun _ _ h => h, fun _ _ e _ => e⟩
theorem Go.trans (a : Go H M H1 M1) (b : Go H1 M1 H2 M2) : Go H M H2 M2 :=
  ⟨a.h.trans b.h, fun c h n => b.fr c (a.h.dom c h) (a.fr c h n), fun c o e n => b.fm c o (a.fm c o e n) (a.fr c (by rw [e]; intro z; cases z) n)⟩
theorem Go.same (s : Same H H1) : Go H M H1 M := ⟨GoH.same s, fun _ _ n => n, fun c o e _ => s c o e⟩
theorem Go.sub (a : Go H M H1 M1) (s : Sub M2 M1) : Go H M H1 M2 := ⟨a.h, fun c h n => by
  cases e : M2 c with
  | none => rfl
  | some o =>
    have z := s c o e
    rw [a.fr c h n] at z
    exact (nomatch z), a.fm⟩
/-- a new live thing -/
theorem Go.new {p : Addr} {o : HO} {u : Ob} (h : H p = none) : Go H M (upd H p o) (put M p u) := ⟨GoH.new h, fun c hc n => by
  rw [put_ne (fun z => by rw [z] at hc; exact hc h)]; exact n, fun c x e _ => sameNew h c x e⟩
/-- a live thing changed -/
theorem Go.put {p : Addr} {o : HO} {u x : Ob} (g : GoH H (upd H p o)) (h : M p = some x) : Go H M (upd H p o) (put M p u) := ⟨g, fun c hc n => by
  rw [put_ne (fun z => by rw [z, h] at n; cases n)]; exact n, fun c y e n => by
  rw [upd_ne (fun z => by rw [z, h] at n; cases n)]; exact e⟩
end

/-! ### judgements -/
abbrev _root_.L2.Cx.kx (X : Cx) : Kx := ⟨X.prog, X.w, X.K⟩
/-- what the lifting is over: the laying, the entry -/
structure Cb where
  B : Kx
  H0 : Hp
  M0 : Me
structure Cy where
  X : Cx
  H0 : Hp
  M0 : Me
abbrev Cy.b (Y : Cy) : Cb := ⟨Y.X.kx, Y.H0, Y.M0⟩
structure StOk (c : Cb) (ρ : En) (M : Me) (σ : L2.St) (H : Hp) : Prop where
  env : ∀ (i : Nat) (w : W), ρ[i]? = some (some w) → ∃ v, σ[i]? = some (some v) ∧ Rep c.B.K H w v
  len : ρ.length = σ.length
  mo : Mo c.B H M
  go : Go c.H0 c.M0 H M
section
variable {c : Cb} {ρ : En} {M M' : Me} {σ : L2.St} {H H' : Hp}
theorem StOk.step (st : StOk c ρ M σ H) (g : Go H M H' M') (m : Mo c.B H' M') : StOk c ρ M' σ H' :=
  ⟨fun i w e => by
    obtain ⟨v, h1, h2⟩ := st.env i w e
    exact ⟨v, h1, h2.go g.h⟩, st.len, m, st.go.trans g⟩
theorem StOk.sub (st : StOk c ρ M σ H) (s : Sub M' M) : StOk c ρ M' σ H := ⟨st.env, st.len, st.mo.sub s, st.go.sub s⟩
theorem StOk.set {i : Nat} {w : W} {v : V} (st : StOk c ρ M σ H) (r : Rep c.B.K H w v) : StOk c (ρ.set i (some w)) M (σ.set i (some v)) H :=
  ⟨fun j x e => by
    by_cases z : i = j
    · subst z
      have hl : i < ρ.length := by
        have := (List.getElem?_eq_some_iff.mp e).1
        simpa using this
      rw [List.getElem?_set_self hl] at e
      have e' : w = x := by simpa using e
      subst e'
      exact ⟨v, List.getElem?_set_self (by rw [← st.len]; exact hl), r⟩
    · rw [List.getElem?_set_ne z] at e ⊢
      exact st.env j x e, by rw [List.length_set, List.length_set]; exact st.len, st.mo, st.go⟩
end
abbrev WK := W → Me → Prop
abbrev WE := En → Me → WK → Prop
abbrev WT := En → Me → (Bool → Me → Prop) → Prop
abbrev WA := En → Me → (List W → Me → Prop) → Prop
structure Eds where
  nx : En → Me → Prop
  rt : WK
  bk : En → Me → Prop := fun _ _ => False
  ct : En → Me → Prop := fun _ _ => False
abbrev WS := Eds → En → Me → Prop
def upE (c : Cb) (te : WE) : TE := fun σ H Q => ∃ ρ M Qw, StOk c ρ M σ H ∧ te ρ M Qw ∧ ∀ w M' v H', Qw w M' → Go H M H' M' → Rep c.B.K H' w v → Mo c.B H' M' → Q v H'
def upT (c : Cb) (t : WT) : TT := fun σ H Q => ∃ ρ M Qw, StOk c ρ M σ H ∧ t ρ M Qw ∧ ∀ b M' H', Qw b M' → Go H M H' M' → Mo c.B H' M' → Q b H'
def upA (c : Cb) (t : WA) : TA := fun σ H Q => ∃ ρ M Qw, StOk c ρ M σ H ∧ t ρ M Qw ∧ ∀ ws M' vs H', Qw ws M' → Go H M H' M' → Reps c.B.K H' ws vs → Mo c.B H' M' → Q vs H'
def upS (c : Cb) (t : WS) : TS := fun D σ H => ∃ ρ M DW, StOk c ρ M σ H ∧ t DW ρ M ∧
  (∀ ρ' M' σ' H', DW.nx ρ' M' → Go H M H' M' → StOk c ρ' M' σ' H' → D.nx σ' H') ∧
  (∀ w M' v H', DW.rt w M' → Go H M H' M' → Rep c.B.K H' w v → Mo c.B H' M' → D.rt v H') ∧
  (∀ ρ' M' σ' H', DW.bk ρ' M' → Go H M H' M' → StOk c ρ' M' σ' H' → D.bk σ' H') ∧
  (∀ ρ' M' σ' H', DW.ct ρ' M' → Go H M H' M' → StOk c ρ' M' σ' H' → D.ct σ' H')
def QE (Y : Cy) (e : Expr) (t : WE) : Prop := PE Y.X e (upE Y.b t)
def QT (Y : Cy) (e : Expr) (t : WT) : Prop := PT Y.X e (upT Y.b t)
def QA (Y : Cy) (es : List Expr) (t : WA) : Prop := PA Y.X es (upA Y.b t)
def QS (Y : Cy) (st : Stmt) (t : WS) : Prop := PS Y.X st (upS Y.b t)
def QSs (Y : Cy) (st : List Stmt) (t : WS) : Prop := PSs Y.X st (upS Y.b t)
section
variable {X : Cx} {e : Expr} {es : List Expr} {st : Stmt} {sts : List Stmt}
theorem PE_imp {t t' : TE} (h : PE X e t) (i : ∀ σ H Q, t' σ H Q → t σ H Q) : PE X e t' := ⟨fun pins s σ H Q I q => h.run pins s σ H Q I (i σ H Q q)⟩
theorem PT_imp {t t' : TT} (h : PT X e t) (i : ∀ σ H Q, t' σ H Q → t σ H Q) : PT X e t' := ⟨fun pins s σ H Q I q => h.run pins s σ H Q I (i σ H Q q)⟩
theorem PA_imp {t t' : TA} (h : PA X es t) (i : ∀ σ H Q, t' σ H Q → t σ H Q) : PA X es t' := ⟨fun pos pins s σ H Q I q => h.run pos pins s σ H Q I (i σ H Q q)⟩
theorem PS_imp {t t' : TS} (h : PS X st t) (i : ∀ D σ H, t' D σ H → t D σ H) : PS X st t' := ⟨fun pins s σ H D I q => h.run pins s σ H D I (i D σ H q)⟩
theorem PSs_imp {t t' : TS} (h : PSs X sts t) (i : ∀ D σ H, t' D σ H → t D σ H) : PSs X sts t' := ⟨fun pins s σ H D I q => h.run pins s σ H D I (i D σ H q)⟩
end

/-! ### names, constants -/
section
variable {Y : Cy} {e a b c : Expr} {pos : Pos}
def wVar (i : Nat) : WE := fun ρ M Q => match ρ[i]? with
  | some (some w) => Q w M
  | _ => False
def wC (w : W) : WE := fun _ M Q => Q w M
theorem q_var (i : Nat) {x : Str} {pos : Pos} (hN : Y.X.N[i]? = some x := by rfl) (hv : Vis Y.X.env.scope x := by first | exact Or.inl rfl | exact Or.inr (Or.inl rfl) | exact Or.inr (Or.inr rfl)) (hd : (x == ("__debug__" : Str)) = false := by decide)
    (hcd : (x == ("__classdict__" : Str)) = false := by decide) : QE Y (.Name x pos) (wVar i) := by
  refine PE_imp (pe_var hN hv hd hcd) fun σ H Q ⟨ρ, M, Qw, st, h, k⟩ => ?_
  unfold wVar at h
  split at h
  · rename_i w e
    obtain ⟨v, h1, h2⟩ := st.env i w e
    exact ⟨v, h1, k w M v H h (Go.refl _ _) h2 st.mo⟩
  · exact h.elim
theorem q_const {v : V} {w : W} (h : PE Y.X e (tC v)) (r : ∀ H, Rep Y.X.K H w v) : QE Y e (wC w) := PE_imp h fun _ H _ ⟨_, M, _, st, h, k⟩ => k w M v H h (Go.refl _ _) (r H) st.mo
theorem q_int {i j pos} : QE Y (.Constant (.int i) j pos) (wC (.int i)) := q_const pe_int fun _ => rep_int
theorem q_bl {i j pos} : QE Y (.Constant (.bool i) j pos) (wC (.bl i)) := q_const pe_bl fun _ => rep_bl
theorem q_non {j pos} : QE Y (.Constant .none j pos) (wC .non) := q_const pe_non fun _ => rep_non
theorem q_str {x j pos} : QE Y (.Constant (.str x) j pos) (wC (.str x)) := q_const pe_str fun _ => rep_str
/-- garbage is forgotten -/
def wF (t : WE) : WE := fun ρ M Q => t ρ M fun w M1 => ∃ M0, Sub M0 M1 ∧ Q w M0
theorem q_F {t : WE} (h : QE Y e t) : QE Y e (wF t) := PE_imp h fun _ H _ ⟨ρ, M, Qw, st, h, k⟩ =>
  ⟨ρ, M, _, st, h, fun w M1 v H1 ⟨M0, s, q⟩ g r m => k w M0 v H1 q (g.sub s) r (m.sub s)⟩

/-! ### operators, by values -/
abbrev R2W := W → W → Me → WK → Prop
abbrev R1W := W → Me → WK → Prop
abbrev RLW := List W → Me → WK → Prop
def up2 (B : Kx) (r : R2W) : R2 := fun x y H Q => ∃ wx wy M Qw, Rep B.K H wx x ∧ Rep B.K H wy y ∧ Mo B H M ∧ r wx wy M Qw ∧ ∀ w M' v H', Qw w M' → Go H M H' M' → Rep B.K H' w v → Mo B H' M' → Q v H'
def up1 (B : Kx) (r : R1W) : V → Hp → VK → Prop := fun x H Q => ∃ wx M Qw, Rep B.K H wx x ∧ Mo B H M ∧ r wx M Qw ∧ ∀ w M' v H', Qw w M' → Go H M H' M' → Rep B.K H' w v → Mo B H' M' → Q v H'
def upL (B : Kx) (r : RLW) : List V → Hp → VK → Prop := fun xs H Q => ∃ ws M Qw, Reps B.K H ws xs ∧ Mo B H M ∧ r ws M Qw ∧ ∀ w M' v H', Qw w M' → Go H M H' M' → Rep B.K H' w v → Mo B H' M' → Q v H'
def OpW (X : Cx) (f : Value → Value → Sem Value) (r : R2W) : Prop := OpR X f (up2 X.kx r)
def UnW (X : Cx) (f : Value → Sem Value) (r : R1W) : Prop := UnR X f (up1 X.kx r)
def CallW (X : Cx) (f : Value) (r : RLW) : Prop := CallR X f (upL X.kx r)
theorem OpR_imp {X : Cx} {f : Value → Value → Sem Value} {r r' : R2} (h : OpR X f r) (i : ∀ x y H Q, r' x y H Q → r x y H Q) : OpR X f r' :=
  fun pins s σ H x y v u Q I rx ry q => h pins s σ H x y v u Q I rx ry (i x y H Q q)
theorem UnR_imp {X : Cx} {f : Value → Sem Value} {r r' : V → Hp → VK → Prop} (h : UnR X f r) (i : ∀ x H Q, r' x H Q → r x H Q) : UnR X f r' :=
  fun pins s σ H x v Q I rx q => h pins s σ H x v Q I rx (i x H Q q)
theorem CallR_imp {X : Cx} {f : Value} {r r' : List V → Hp → VK → Prop} (h : CallR X f r) (i : ∀ x H Q, r' x H Q → r x H Q) : CallR X f r' :=
  fun pins s σ H xs us Q I rx q => h pins s σ H xs us Q I rx (i xs H Q q)
def wOp (r : R2W) (ta tb : WE) : WE := fun ρ M Q => ta ρ M fun x M1 => tb ρ M1 fun y M2 => r x y M2 Q
def wUn (r : R1W) (ta : WE) : WE := fun ρ M Q => ta ρ M fun x M1 => r x M1 Q
theorem up_op {r : R2W} {ta tb : WE} {σ : L2.St} {H : Hp} {Q : VK} (h : upE Y.b (wOp r ta tb) σ H Q) : tOp (up2 Y.X.kx r) (upE Y.b ta) (upE Y.b tb) σ H Q := by
  obtain ⟨ρ, M, Qw, st, h, k⟩ := h
  exact ⟨ρ, M, _, st, h, fun wx M1 vx H1 q1 g1 rx m1 => ⟨ρ, M1, _, st.step g1 m1, q1, fun wy M2 vy H2 q2 g2 ry m2 =>
    ⟨wx, wy, M2, Qw, rx.go g2.h, ry, m2, q2, fun w M' v H' q g r m => k w M' v H' q (g1.trans (g2.trans g)) r m⟩⟩⟩
theorem up_un {r : R1W} {ta : WE} {σ : L2.St} {H : Hp} {Q : VK} (h : upE Y.b (wUn r ta) σ H Q) : tUn (up1 Y.X.kx r) (upE Y.b ta) σ H Q := by
  obtain ⟨ρ, M, Qw, st, h, k⟩ := h
  exact ⟨ρ, M, _, st, h, fun wx M1 vx H1 q1 g1 rx m1 => ⟨wx, M1, Qw, rx, m1, q1, fun w M' v H' q g r m => k w M' v H' q (g1.trans g) r m⟩⟩
theorem q_op {op : Operator} {r : R2W} {ta tb : WE} (ho : OpW Y.X (binaryOp op) r) (ha : QE Y a ta) (hb : QE Y b tb) : QE Y (.BinOp a op b pos) (wOp r ta tb) := PE_imp (pe_op ho ha hb) fun _ _ _ h => up_op h
theorem q_un {op : UnaryOp} {r : R1W} {ta : WE} (ho : UnW Y.X (unaryOp op) r) (ha : QE Y a ta) : QE Y (.UnaryOp op a pos) (wUn r ta) := PE_imp (pe_un ho ha) fun _ _ _ h => up_un h
theorem q_cmp {op : CmpOp} {r : R2W} {ta tb : WE} (ho : OpW Y.X (compareOp op) r) (ha : QE Y a ta) (hb : QE Y b tb) (hm : behindInMarks op b = false := by first | exact nomark _ (by decide) (by decide) | rfl) : QE Y (.Compare a [op] [b] pos) (wOp r ta tb) :=
  PE_imp (pe_cmpR ho ha hb hm) fun _ _ _ h => up_op h
/-- a value as a test: bools alone -/
def wB (t : WE) : WT := fun ρ M Q => t ρ M fun x M1 => match x with
  | .bl b => Q b M1
  | _ => False
theorem up_B {t : WE} {σ : L2.St} {H : Hp} {Q : Bool → Hp → Prop} (h : upT Y.b (wB t) σ H Q) : upE Y.b t σ H fun x H1 => ∃ k, x = .bl k ∧ Q k H1 := by
  obtain ⟨ρ, M, Qw, st, h, k⟩ := h
  refine ⟨ρ, M, _, st, h, fun w M1 v H1 q g r m => ?_⟩
  split at q
  · exact ⟨_, un_bl r, k _ M1 H1 q g m⟩
  · exact q.elim
theorem qt_cmp {op : CmpOp} {r : R2W} {ta tb : WE} (ho : OpW Y.X (compareOp op) r) (ha : QE Y a ta) (hb : QE Y b tb) (hm : behindInMarks op b = false := by first | exact nomark _ (by decide) (by decide) | rfl) : QT Y (.Compare a [op] [b] pos) (wB (wOp r ta tb)) :=
  PT_imp (pt_cmpR ho ha hb hm) fun _ _ _ h => by
    obtain ⟨ρ, M, Qw, st, h, k⟩ := h
    refine up_op ⟨ρ, M, _, st, h, fun w M1 v H1 q g r m => ?_⟩
    split at q
    · exact ⟨_, un_bl r, k _ M1 H1 q g m⟩
    · exact q.elim
theorem qt_val {t : WE} (h : QE Y e t) (he : ∀ whole, isTrue e Y.X.env whole = (do let v ← whole; standAt e.pos; holding [v] (truthy v)) := by intro _; rfl) : QT Y e (wB t) :=
  PT_imp (pt_val h he) fun _ _ _ h => up_B h
/-- a chain -/
def wChain (r r' : R2W) (ta tb tc : WE) : WE := fun ρ M Q => ta ρ M fun x M1 => tb ρ M1 fun y M2 => r x y M2 fun z M3 => match z with
  | .bl true => tc ρ M3 fun u M4 => r' y u M4 Q
  | .bl false => Q (.bl false) M3
  | _ => False
theorem up_chain {r r' : R2W} {ta tb tc : WE} {σ : L2.St} {H : Hp} {Q : VK} (h : upE Y.b (wChain r r' ta tb tc) σ H Q) : tChain (up2 Y.X.kx r) (up2 Y.X.kx r') (upE Y.b ta) (upE Y.b tb) (upE Y.b tc) σ H Q := by
  obtain ⟨ρ, M, Qw, st, h, k⟩ := h
  refine ⟨ρ, M, _, st, h, fun wx M1 vx H1 q1 g1 rx m1 => ⟨ρ, M1, _, st.step g1 m1, q1, fun wy M2 vy H2 q2 g2 ry m2 =>
    ⟨wx, wy, M2, _, rx.go g2.h, ry, m2, q2, fun w M3 v H3 q g3 r3 m3 => ?_⟩⟩⟩
  have g12 := g1.trans g2
  have g13 := g12.trans g3
  split at q
  · refine ⟨true, un_bl r3, ?_⟩
    show upE Y.b tc σ H3 _
    exact ⟨ρ, M3, _, st.step g13 m3, q, fun wu M4 vu H4 q4 g4 ru m4 => ⟨wy, wu, M4, Qw, ry.go (g3.trans g4).h, ru, m4, q4, fun w M' v H' q g r m => k w M' v H' q (g13.trans (g4.trans g)) r m⟩⟩
  · refine ⟨false, un_bl r3, ?_⟩
    exact k _ M3 _ H3 q g13 rep_bl m3
  · exact q.elim
end
end PV
set_option maxHeartbeats 1000000
/-! PV: tests, arguments, statements, loops, defs. -/
namespace PV
open PySem PySem.Spec PyProof.Rows L2

section
variable {Y : Cy} {e a b c : Expr} {es rest : List Expr} {pos : Pos}
/-! ### and, or, not, if -/
def wAnd (t u : WT) : WT := fun ρ M Q => t ρ M fun x M1 => match x with
  | true => u ρ M1 Q
  | false => Q false M1
def wOr (t u : WT) : WT := fun ρ M Q => t ρ M fun x M1 => match x with
  | true => Q true M1
  | false => u ρ M1 Q
def wNot (t : WT) : WT := fun ρ M Q => t ρ M fun x M1 => Q (!x) M1
def QW (Y : Cy) (e : Expr) (t : WT) : Prop := PW Y.X e (upT Y.b t)
theorem PW_imp {X : Cx} {e : Expr} {t t' : TT} (h : PW X e t) (i : ∀ σ H Q, t' σ H Q → t σ H Q) : PW X e t' := ⟨fun wh pins s σ H Q I q => h.run wh pins s σ H Q I (i σ H Q q)⟩
theorem qw_and1 {t : WT} (h : QT Y a t) : QW Y (.BoolOp .And [a] pos) t := pw_and1 h
theorem qw_or1 {t : WT} (h : QT Y a t) : QW Y (.BoolOp .Or [a] pos) t := pw_or1 h
theorem qw_and {t u : WT} (h : QT Y a t) (h' : QW Y (.BoolOp .And (b :: rest) pos) u) : QW Y (.BoolOp .And (a :: b :: rest) pos) (wAnd t u) :=
  PW_imp (pw_and h h') fun σ H Q ⟨ρ, M, Qw, st, q, k⟩ => ⟨ρ, M, _, st, q, fun x M1 H1 q1 g m => by
    cases x with
    | true => exact ⟨ρ, M1, Qw, st.step g m, q1, fun y M2 H2 q2 g2 m2 => k y M2 H2 q2 (g.trans g2) m2⟩
    | false => exact k false M1 H1 q1 g m⟩
theorem qw_or {t u : WT} (h : QT Y a t) (h' : QW Y (.BoolOp .Or (b :: rest) pos) u) : QW Y (.BoolOp .Or (a :: b :: rest) pos) (wOr t u) :=
  PW_imp (pw_or h h') fun σ H Q ⟨ρ, M, Qw, st, q, k⟩ => ⟨ρ, M, _, st, q, fun x M1 H1 q1 g m => by
    cases x with
    | true => exact k true M1 H1 q1 g m
    | false => exact ⟨ρ, M1, Qw, st.step g m, q1, fun y M2 H2 q2 g2 m2 => k y M2 H2 q2 (g.trans g2) m2⟩⟩
theorem QW.pt {t : WT} (h : QW Y e t) : QT Y e t := PW.pt h
theorem qt_not {t : WT} (h : QT Y a t) : QT Y (.UnaryOp .Not a pos) (wNot t) :=
  PT_imp (pt_not h) fun σ H Q ⟨ρ, M, Qw, st, q, k⟩ => ⟨ρ, M, _, st, q, fun x M1 H1 q1 g m => k _ M1 H1 q1 g m⟩
/-- as values -/
def wAndV (ta tb : WE) : WE := fun ρ M Q => ta ρ M fun x M1 => match x with
  | .bl true => tb ρ M1 Q
  | .bl false => Q (.bl false) M1
  | _ => False
def wOrV (ta tb : WE) : WE := fun ρ M Q => ta ρ M fun x M1 => match x with
  | .bl true => Q (.bl true) M1
  | .bl false => tb ρ M1 Q
  | _ => False
def wNotV (ta : WE) : WE := fun ρ M Q => ta ρ M fun x M1 => match x with
  | .bl k => Q (.bl (!k)) M1
  | _ => False
theorem q_one {op} {t : WE} (h : QE Y a t) : QE Y (.BoolOp op [a] pos) t := pe_one h
theorem q_and {ta tb : WE} (h : QE Y a ta) (h' : QE Y (.BoolOp .And (b :: rest) pos) tb) : QE Y (.BoolOp .And (a :: b :: rest) pos) (wAndV ta tb) :=
  PE_imp (pe_and h h') fun σ H Q ⟨ρ, M, Qw, st, q, k⟩ => ⟨ρ, M, _, st, q, fun x M1 v H1 q1 g r m => by
    split at q1
    · exact ⟨true, un_bl r, ρ, M1, Qw, st.step g m, q1, fun y M2 v2 H2 q2 g2 r2 m2 => k y M2 v2 H2 q2 (g.trans g2) r2 m2⟩
    · exact ⟨false, un_bl r, k _ M1 _ H1 q1 g rep_bl m⟩
    · exact q1.elim⟩
theorem q_or {ta tb : WE} (h : QE Y a ta) (h' : QE Y (.BoolOp .Or (b :: rest) pos) tb) : QE Y (.BoolOp .Or (a :: b :: rest) pos) (wOrV ta tb) :=
  PE_imp (pe_or h h') fun σ H Q ⟨ρ, M, Qw, st, q, k⟩ => ⟨ρ, M, _, st, q, fun x M1 v H1 q1 g r m => by
    split at q1
    · exact ⟨true, un_bl r, k _ M1 _ H1 q1 g rep_bl m⟩
    · exact ⟨false, un_bl r, ρ, M1, Qw, st.step g m, q1, fun y M2 v2 H2 q2 g2 r2 m2 => k y M2 v2 H2 q2 (g.trans g2) r2 m2⟩
    · exact q1.elim⟩
theorem q_not {ta : WE} (h : QE Y a ta) : QE Y (.UnaryOp .Not a pos) (wNotV ta) :=
  PE_imp (pe_not h) fun σ H Q ⟨ρ, M, Qw, st, q, k⟩ => ⟨ρ, M, _, st, q, fun x M1 v H1 q1 g r m => by
    split at q1
    · exact ⟨_, un_bl r, k _ M1 _ H1 q1 g rep_bl m⟩
    · exact q1.elim⟩
def wIf (t : WT) (ta tb : WE) : WE := fun ρ M Q => t ρ M fun x M1 => match x with
  | true => ta ρ M1 Q
  | false => tb ρ M1 Q
theorem q_if {t : WT} {ta tb : WE} (hc : QT Y c t) (ha : QE Y a ta) (hb : QE Y b tb) : QE Y (.IfExp c a b pos) (wIf t ta tb) :=
  PE_imp (pe_ifExp hc ha hb) fun σ H Q ⟨ρ, M, Qw, st, q, k⟩ => ⟨ρ, M, _, st, q, fun x M1 H1 q1 g m => by
    cases x with
    | true => exact ⟨ρ, M1, Qw, st.step g m, q1, fun y M2 v2 H2 q2 g2 r2 m2 => k y M2 v2 H2 q2 (g.trans g2) r2 m2⟩
    | false => exact ⟨ρ, M1, Qw, st.step g m, q1, fun y M2 v2 H2 q2 g2 r2 m2 => k y M2 v2 H2 q2 (g.trans g2) r2 m2⟩⟩

/-! ### arguments, displays -/
def wNil : WA := fun _ M Q => Q [] M
def wCons (ta : WE) (tr : WA) : WA := fun ρ M Q => ta ρ M fun x M1 => tr ρ M1 fun xs M2 => Q (x :: xs) M2
theorem qa_nil : QA Y [] wNil := PA_imp pa_nil fun σ H Q ⟨ρ, M, Qw, st, q, k⟩ => k [] M [] H q (Go.refl _ _) Reps.nil st.mo
theorem qa_cons {t : WE} {u : WA} (h : QE Y e t) (hr : QA Y es u) (hs : starEach (e :: es) Y.X.env = (false, eval e Y.X.env) :: starEach es Y.X.env := by rfl) : QA Y (e :: es) (wCons t u) :=
  PA_imp (pa_cons h hr hs) fun σ H Q ⟨ρ, M, Qw, st, q, k⟩ => ⟨ρ, M, _, st, q, fun x M1 v H1 q1 g r m =>
    ⟨ρ, M1, _, st.step g m, q1, fun xs M2 vs H2 q2 g2 rs m2 => k _ M2 _ H2 q2 (g.trans g2) (.cons (r.go g2.h) rs) m2⟩⟩
def wTup (t : WA) : WE := fun ρ M Q => t ρ M fun ws M1 => ws.length ≤ sizeLine ∧ Q (.tup ws) M1
def wLst (t : WA) : WE := fun ρ M Q => t ρ M fun ws M1 => ws.length ≤ sizeLine ∧ ∀ p, M1 p = none → Q (.ref p) (put M1 p (.lst ws))
theorem q_tup {x1} {t : WA} (h : QA Y es t) : QE Y (.Tuple es x1 pos) (wTup t) :=
  PE_imp (pe_tup h) fun σ H Q ⟨ρ, M, Qw, st, q, k⟩ => ⟨ρ, M, _, st, q, fun ws M1 vs H1 q1 g rs m =>
    ⟨by rw [rs.length]; exact q1.1, fun p hp => k (.tup ws) M1 _ _ q1.2 (g.trans (Go.same (sameNew hp))) (Rep.tup (SqT.of upd_same) (rs.go (GoH.new hp))) (m.new hp)⟩⟩
theorem q_lst {t : WA} (h : QA Y es t) : QE Y (.List es pos) (wLst t) :=
  PE_imp (pe_lst h) fun σ H Q ⟨ρ, M, Qw, st, q, k⟩ => ⟨ρ, M, _, st, q, fun ws M1 vs H1 q1 g rs m =>
    ⟨by rw [rs.length]; exact q1.1, fun p hp => k (.ref p) _ _ _ (q1.2 p (m.free hp)) (g.trans (Go.new hp)) rep_ref (m.put (GoH.new hp) ⟨vs, upd_same, rs.go (GoH.new hp)⟩)⟩⟩
/-- the empty display has a rule of its own: no part -/
def wCall (r : RLW) (t : WA) : WE := fun ρ M Q => t ρ M fun ws M1 => r ws M1 Q
/-- a built-in by its name -/
theorem q_callB {x : Str} {id : String} {r : RLW} {t : WA} {p : Pos} (hc : CallW Y.X (.builtin id) r) (hg : Gl Y.X x) (hm : Y.X.mg x = none) (hv : bootBuiltins x = some (.builtin id)) (ha : QA Y (e :: es) t)
    (hn : x ≠ "__name__" := by decide) (hdb : (x == ("__debug__" : Str)) = false := by decide) (he : starEach (e :: es) Y.X.env = (false, eval e Y.X.env) :: starEach es Y.X.env := by rfl) (hpl : (backTo pos (starEach es Y.X.env)).any (·.1) = false := by rfl) :
    QE Y (.Call (.Name x p) (e :: es) [] pos) (wCall r t) :=
  PE_imp (pe_callB hc hg hm hv ha hn hdb he hpl) fun σ H Q ⟨ρ, M, Qw, st, q, k⟩ => ⟨ρ, M, _, st, q, fun ws M1 vs H1 q1 g rs m =>
    ⟨ws, M1, Qw, rs, m, q1, fun w M2 v H2 q2 g2 r2 m2 => k w M2 v H2 q2 (g.trans g2) r2 m2⟩⟩
theorem q_callT {x : Str} {T : String} {r : RLW} {t : WA} {p : Pos} (hc : CallW Y.X (.type T) r) (hg : Gl Y.X x) (hm : Y.X.mg x = none) (hv : bootBuiltins x = some (.type T)) (ha : QA Y (e :: es) t)
    (hn : x ≠ "__name__" := by decide) (hdb : (x == ("__debug__" : Str)) = false := by decide) (he : starEach (e :: es) Y.X.env = (false, eval e Y.X.env) :: starEach es Y.X.env := by rfl) (hpl : (backTo pos (starEach es Y.X.env)).any (·.1) = false := by rfl) :
    QE Y (.Call (.Name x p) (e :: es) [] pos) (wCall r t) :=
  PE_imp (pe_callTy hc hg hm hv ha hn hdb he hpl) fun σ H Q ⟨ρ, M, Qw, st, q, k⟩ => ⟨ρ, M, _, st, q, fun ws M1 vs H1 q1 g rs m =>
    ⟨ws, M1, Qw, rs, m, q1, fun w M2 v H2 q2 g2 r2 m2 => k w M2 v H2 q2 (g.trans g2) r2 m2⟩⟩
end

/-! ### statements -/
section
variable {Y : Cy} {st : Stmt} {rest body a b : List Stmt} {e c : Expr} {pos : Pos}
def wNext : WS := fun D ρ M => D.nx ρ M
def wSeq (t u : WS) : WS := fun D ρ M => t { D with nx := u D } ρ M
def wRet (t : WE) : WS := fun D ρ M => t ρ M D.rt
def wRetN : WS := fun D _ M => D.rt .non M
def wDrop (t : WE) : WS := fun D ρ M => t ρ M fun _ M1 => D.nx ρ M1
def wSet (i : Nat) (t : WE) : WS := fun D ρ M => t ρ M fun w M1 => D.nx (ρ.set i (some w)) M1
def wIfS (t : WT) (u v : WS) : WS := fun D ρ M => t ρ M fun x M1 => match x with
  | true => u D ρ M1
  | false => v D ρ M1
def wNever : WS := fun _ _ _ => False
theorem qss_nil : QSs Y [] wNext := PSs_imp pss_nil fun D σ H ⟨ρ, M, DW, so, q, k, _⟩ => k ρ M σ H q (Go.refl _ _) so
theorem qss_one {t : WS} (h : QS Y st t) : QSs Y [st] t := pss_one h
theorem qss_cons {t u : WS} (h : QS Y st t) (h' : QSs Y rest u) : QSs Y (st :: rest) (wSeq t u) :=
  PSs_imp (pss_cons h h') fun D σ H ⟨ρ, M, DW, so, q, k1, k2, k3, k4⟩ => ⟨ρ, M, { DW with nx := u DW }, so, q, fun ρ' M' σ' H' q' g so' =>
    ⟨ρ', M', DW, so', q', fun ρ2 M2 σ2 H2 q2 g2 so2 => k1 ρ2 M2 σ2 H2 q2 (g.trans g2) so2, fun w M2 v H2 q2 g2 r m => k2 w M2 v H2 q2 (g.trans g2) r m,
      fun ρ2 M2 σ2 H2 q2 g2 so2 => k3 ρ2 M2 σ2 H2 q2 (g.trans g2) so2, fun ρ2 M2 σ2 H2 q2 g2 so2 => k4 ρ2 M2 σ2 H2 q2 (g.trans g2) so2⟩, k2, k3, k4⟩
theorem qs_ret {t : WE} (h : QE Y e t) : QS Y (.Return (some e) pos) (wRet t) :=
  PS_imp (ps_ret h) fun D σ H ⟨ρ, M, DW, so, q, k1, k2, _⟩ => ⟨ρ, M, _, so, q, fun w M1 v H1 q1 g r m => k2 w M1 v H1 q1 g r m⟩
theorem qs_retN : QS Y (.Return none pos) wRetN := PS_imp ps_retN fun D σ H ⟨ρ, M, DW, so, q, k1, k2, _⟩ => k2 .non M .non H q (Go.refl _ _) rep_non so.mo
theorem qs_expr {t : WE} (h : QE Y e t) (hs : swapsWith e none pos.line Y.X.env = pure false := by rfl) : QS Y (.Expr e pos) (wDrop t) :=
  PS_imp (ps_expr h hs) fun D σ H ⟨ρ, M, DW, so, q, k1, _⟩ => ⟨ρ, M, _, so, q, fun w M1 v H1 q1 g r m => k1 ρ M1 σ H1 q1 g (so.step g m)⟩
theorem qs_set {i : Nat} {x : Str} {t : WE} {pos' : Pos} (hN : Y.X.N.Nodup) (h : QE Y e t) (hi : Y.X.N[i]? = some x := by rfl) (hx : Loc Y.X.env.scope x := by first | exact Or.inl rfl | exact Or.inr rfl) (hs : swapsWith e (some (.Name x pos')) pos.line Y.X.env = pure false := by rfl)
    (hf : Y.X.fn x = true ∨ Y.X.env.scope.names.lookup x = some .local := by first | exact .inl rfl | exact .inr rfl) : QS Y (.Assign [.Name x pos'] e pos) (wSet i t) :=
  PS_imp (ps_set hN hi hx h hs hf) fun D σ H ⟨ρ, M, DW, so, q, k1, _⟩ => ⟨ρ, M, _, so, q, fun w M1 v H1 q1 g r m => k1 _ M1 _ H1 q1 g ((so.step g m).set r)⟩
theorem qs_if {t : WT} {u v : WS} (hc : QT Y c t) (ha : QSs Y a u) (hb : QSs Y b v) : QS Y (.If c a b pos) (wIfS t u v) :=
  PS_imp (ps_if hc ha hb) fun D σ H ⟨ρ, M, DW, so, q, k1, k2, k3, k4⟩ => ⟨ρ, M, _, so, q, fun x M1 H1 q1 g m => by
    have go : ∀ {t : WS}, t DW ρ M1 → upS Y.b t D σ H1 := fun {t} q => ⟨ρ, M1, DW, so.step g m, q, fun ρ2 M2 σ2 H2 q2 g2 so2 => k1 ρ2 M2 σ2 H2 q2 (g.trans g2) so2, fun w M2 v H2 q2 g2 r m => k2 w M2 v H2 q2 (g.trans g2) r m,
      fun ρ2 M2 σ2 H2 q2 g2 so2 => k3 ρ2 M2 σ2 H2 q2 (g.trans g2) so2, fun ρ2 M2 σ2 H2 q2 g2 so2 => k4 ρ2 M2 σ2 H2 q2 (g.trans g2) so2⟩
    cases x with
    | true => exact go q1
    | false => exact go q1⟩
theorem qs_pass : QS Y (.Pass pos) wNext := PS_imp ps_pass fun D σ H ⟨ρ, M, DW, so, q, k, _⟩ => k ρ M σ H q (Go.refl _ _) so
theorem qs_never : QS Y st wNever := PS_imp ps_never fun D σ H ⟨ρ, M, DW, so, q, k, _⟩ => q.elim
theorem qss_never : QSs Y rest wNever := PSs_imp pss_never fun D σ H ⟨ρ, M, DW, so, q, k, _⟩ => q.elim

/-! ### targets -/
abbrev WG := W → En → Me → (En → Me → Prop) → Prop
abbrev WGs := List W → En → Me → (En → Me → Prop) → Prop
def upG (c : Cb) (g : WG) : TG := fun v σ H Q => ∃ w ρ M Qw, Rep c.B.K H w v ∧ StOk c ρ M σ H ∧ g w ρ M Qw ∧ ∀ ρ' M' σ' H', Qw ρ' M' → Go H M H' M' → StOk c ρ' M' σ' H' → Q σ' H'
def upGs (c : Cb) (g : WGs) : TGs := fun vs σ H Q => ∃ ws ρ M Qw, Reps c.B.K H ws vs ∧ StOk c ρ M σ H ∧ g ws ρ M Qw ∧ ∀ ρ' M' σ' H', Qw ρ' M' → Go H M H' M' → StOk c ρ' M' σ' H' → Q σ' H'
def QG (Y : Cy) (tg : Expr) (g : WG) : Prop := PG Y.X tg (upG Y.b g)
def QGs (Y : Cy) (tgs : List Expr) (g : WGs) : Prop := PGs Y.X tgs (upGs Y.b g)
theorem PG_imp {X : Cx} {e : Expr} {t t' : TG} (h : PG X e t) (i : ∀ v σ H Q, t' v σ H Q → t v σ H Q) : PG X e t' := ⟨fun pins s σ H v u Q I r q => h.run pins s σ H v u Q I r (i v σ H Q q)⟩
theorem PGs_imp {X : Cx} {e : List Expr} {t t' : TGs} (h : PGs X e t) (i : ∀ v σ H Q, t' v σ H Q → t v σ H Q) : PGs X e t' := ⟨fun pins s σ H v u Q I r q => h.run pins s σ H v u Q I r (i v σ H Q q)⟩
def wgName (i : Nat) : WG := fun w ρ M Q => Q (ρ.set i (some w)) M
theorem qg_name {i : Nat} {x : Str} (hN : Y.X.N.Nodup) (hi : Y.X.N[i]? = some x := by rfl) (hx : Loc Y.X.env.scope x := by first | exact Or.inl rfl | exact Or.inr rfl) (hf : Y.X.fn x = true ∨ Y.X.env.scope.names.lookup x = some .local := by first | exact .inl rfl | exact .inr rfl) :
    QG Y (.Name x pos) (wgName i) := PG_imp (pg_name hN hi hx hf) fun v σ H Q ⟨w, ρ, M, Qw, r, so, q, k⟩ => k _ M _ H q (Go.refl _ _) (so.set r)
def wgNil : WGs := fun ws ρ M Q => match ws with
  | [] => Q ρ M
  | _ => False
def wgCons (t : WG) (u : WGs) : WGs := fun ws ρ M Q => match ws with
  | w :: r => t w ρ M fun ρ' M' => u r ρ' M' Q
  | [] => False
theorem qgs_nil : QGs Y [] wgNil := PGs_imp pgs_nil fun v σ H Q ⟨ws, ρ, M, Qw, r, so, q, k⟩ => by
  unfold wgNil at q
  split at q
  · exact ⟨r.unnil, k ρ M σ H q (Go.refl _ _) so⟩
  · exact q.elim
theorem qgs_cons {e : Expr} {es : List Expr} {t : WG} {u : WGs} (h : QG Y e t) (h' : QGs Y es u) (hs : (assignEach (e :: es) Y.X.env).map (·.2) = assign e Y.X.env :: (assignEach es Y.X.env).map (·.2) := by rfl) : QGs Y (e :: es) (wgCons t u) :=
  PGs_imp (pgs_cons h h' hs) fun v σ H Q ⟨ws, ρ, M, Qw, r, so, q, k⟩ => by
    unfold wgCons at q
    split at q
    · rename_i w r'
      obtain ⟨v1, vr, e1, h1, h2⟩ := r.uncons
      exact ⟨v1, vr, e1, w, ρ, M, _, h1, so, q, fun ρ' M' σ' H' q' g so' => ⟨r', ρ', M', Qw, h2.go g.h, so', q', fun ρ2 M2 σ2 H2 q2 g2 so2 => k ρ2 M2 σ2 H2 q2 (g.trans g2) so2⟩⟩
    · exact q.elim
def wgTup (n : Nat) (t : WGs) : WG := fun w ρ M Q => match w with
  | .tup ws => ws.length = n ∧ t ws ρ M Q
  | _ => False
theorem qg_tup {es : List Expr} {k : Nat} {t : WGs} {n : Nat} (hc : Y.X.calm = true) (h : QGs Y es t) (hn : (assignEach es Y.X.env).length = n := by rfl) (hst : (assignEach es Y.X.env).findIdx? (·.1) = none := by rfl) : QG Y (.Tuple es k pos) (wgTup n t) :=
  PG_imp (pg_tup hc h hn hst) fun v σ H Q ⟨w, ρ, M, Qw, r, so, q, k⟩ => by
    unfold wgTup at q
    split at q
    · obtain ⟨a, vs, e1, s, rs⟩ := r.untup
      exact ⟨a, vs, e1, s, rs.length.trans q.1, _, ρ, M, Qw, rs, so, q.2, k⟩
    · exact q.elim
/-- o[i] = w, by values -/
abbrev R3W := W → W → W → Me → (Me → Prop) → Prop
def up3 (B : Kx) (r : R3W) : TSet := fun o i v H Q => ∃ wo wi wv M Qw, Rep B.K H wo o ∧ Rep B.K H wi i ∧ Rep B.K H wv v ∧ Mo B H M ∧ r wo wi wv M Qw ∧ ∀ M' H', Qw M' → Go H M H' M' → Mo B H' M' → Q H'
def SetW (X : Cx) (r : R3W) : Prop := PSet X (up3 X.kx r)
theorem PSet_imp {X : Cx} {r r' : TSet} (h : PSet X r) (i : ∀ o j v H Q, r' o j v H Q → r o j v H Q) : PSet X r' := fun pins s σ H o j v ov iv u Q I r1 r2 r3 q => h pins s σ H o j v ov iv u Q I r1 r2 r3 (i o j v H Q q)
def wgSub (to ti : WE) (r : R3W) : WG := fun w ρ M Q => to ρ M fun o M1 => ti ρ M1 fun i M2 => r o i w M2 fun M3 => Q ρ M3
theorem qg_sub {o i : Expr} {to ti : WE} {r : R3W} (ho : QE Y o to) (hi : QE Y i ti) (hr : SetW Y.X r)
    (ha : ∀ v, assign (.Subscript o i pos) Y.X.env v = (do
      let ov ← holding [v] (eval o Y.X.env)
      let iv ← holding [v, ov] (eval i Y.X.env)
      standAt pos
      holding [v, ov, iv] (setItem ov iv v)
      release [v, ov, iv] []) := by intro _; rfl) : QG Y (.Subscript o i pos) (wgSub to ti r) :=
  PG_imp (pg_sub ho hi hr ha) fun v σ H Q ⟨w, ρ, M, Qw, r, so, q, k⟩ => ⟨ρ, M, _, so, q, fun wo M1 vo H1 q1 g1 r1 m1 => ⟨ρ, M1, _, so.step g1 m1, q1, fun wi M2 vi H2 q2 g2 r2 m2 =>
    ⟨wo, wi, w, M2, _, r1.go g2.h, r2, r.go (g1.trans g2).h, m2, q2, fun M3 H3 q3 g3 m3 => k ρ M3 σ H3 q3 ((g1.trans g2).trans g3) (so.step ((g1.trans g2).trans g3) m3)⟩⟩⟩
def wAsg (t : WE) (g : WG) : WS := fun D ρ M => t ρ M fun w M1 => g w ρ M1 D.nx
theorem qs_asg {tg : Expr} {t : WE} {g : WG} (he : QE Y e t) (hg : QG Y tg g) (hs : swapsWithSole [tg] e pos.line Y.X.env = pure false := by rfl) (hw : swappedStores [tg] e Y.X.env = pure none := by rfl)
    (h1 : (assignEach [tg] Y.X.env).map (·.2) = [assign tg Y.X.env] := by rfl) : QS Y (.Assign [tg] e pos) (wAsg t g) :=
  PS_imp (ps_asg he hg hs hw h1) fun D σ H ⟨ρ, M, DW, so, q, k1, _⟩ => ⟨ρ, M, _, so, q, fun w M1 v H1 q1 g r m => ⟨w, ρ, M1, _, r, so.step g m, q1, fun ρ' M' σ' H' q' g' so' => k1 ρ' M' σ' H' q' (g.trans g') so'⟩⟩
/-- a, b = x, y -/
def wPar (i j : Nat) (t : WA) : WS := fun D ρ M => t ρ M fun ws M1 => match ws with
  | [x, y] => D.nx ((ρ.set i (some x)).set j (some y)) M1
  | _ => False
theorem qs_par {i j : Nat} {x y : Str} {ea eb : Expr} {t : WA} {px py pt : Pos} {kt k2 pt2} (hc : Y.X.calm = true) (hN : Y.X.N.Nodup) (ha : QA Y [ea, eb] t) (hi : Y.X.N[i]? = some x := by rfl) (hj : Y.X.N[j]? = some y := by rfl) (hij : i ≠ j := by decide)
    (hx : Y.X.env.scope.names.lookup x = some .local := by rfl) (hy : Y.X.env.scope.names.lookup y = some .local := by rfl)
    (hw : swappedStores [.Tuple [.Name x px, .Name y py] kt pt] (.Tuple [ea, eb] k2 pt2) Y.X.env = pure (some [x, y]) := by rfl)
    (hs : swapsWithSole [.Tuple [.Name x px, .Name y py] kt pt] (.Tuple [ea, eb] k2 pt2) pos.line Y.X.env = pure false := by rfl) :
    QS Y (.Assign [.Tuple [.Name x px, .Name y py] kt pt] (.Tuple [ea, eb] k2 pt2) pos) (wPar i j t) :=
  PS_imp (ps_par hc hN hi hj hij hx hy ha hw hs) fun D σ H ⟨ρ, M, DW, so, q, k1, _⟩ => ⟨ρ, M, _, so, q, fun ws M1 vs H1 q1 g rs m => by
    split at q1
    · obtain ⟨v1, vr, e1, h1, h2⟩ := rs.uncons
      obtain ⟨v2, vr2, e2, h3, h4⟩ := h2.uncons
      have e3 := h4.unnil
      subst e1 e2 e3
      exact ⟨v1, v2, rfl, k1 _ M1 _ H1 q1 g (((so.step g m).set h1).set h3)⟩
    · exact q1.elim⟩
/-- name op= e -/
def wAug (i : Nat) (t : WE) (r : R2W) : WS := fun D ρ M => match ρ[i]? with
  | some (some x) => t ρ M fun y M1 => r x y M1 fun z M2 => D.nx (ρ.set i (some z)) M2
  | _ => False
theorem qs_aug {i : Nat} {x : Str} {t : WE} {op : Operator} {r : R2W} {pos' : Pos} (hN : Y.X.N.Nodup) (ho : OpW Y.X (inplaceOp op) r) (he : QE Y e t) (hi : Y.X.N[i]? = some x := by rfl) (hx : Loc Y.X.env.scope x := by first | exact Or.inl rfl | exact Or.inr rfl)
    (hf : Y.X.fn x = true ∨ Y.X.env.scope.names.lookup x = some .local := by first | exact .inl rfl | exact .inr rfl) :
    QS Y (.AugAssign (.Name x pos') op e pos) (wAug i t r) :=
  PS_imp (ps_aug (ti := up2 Y.X.kx r) hN hi hx he (fun pins s σ H x y v u Q I rx ry h => ho pins s σ H x y v u Q I rx ry h) hf) fun D σ H ⟨ρ, M, DW, so, q, k1, _⟩ => by
    unfold wAug at q
    split at q
    · rename_i w e1
      obtain ⟨v, h1, h2⟩ := so.env i w e1
      exact ⟨v, h1, ρ, M, _, so, q, fun y M1 vy H1 q1 g r1 m => ⟨w, y, M1, _, h2.go g.h, r1, m, q1, fun z M2 vz H2 q2 g2 r2 m2 => k1 _ M2 _ H2 q2 (g.trans g2) ((so.step (g.trans g2) m2).set r2)⟩⟩
    · exact q.elim

/-! ### while -/
def wWhile (c : WT) (tb : WS) : WS := fun D ρ M => ∃ I : Nat → En → Me → Prop, (∃ m, I m ρ M) ∧ ∀ m ρ M, I m ρ M → c ρ M fun x M1 => match x with
  | true => tb { D with nx := fun ρ' M' => ∃ M0, Sub M0 M' ∧ ∃ m', m' < m ∧ I m' ρ' M0, ct := fun ρ' M' => ∃ M0, Sub M0 M' ∧ ∃ m', m' < m ∧ I m' ρ' M0, bk := D.nx } ρ M1
  | false => D.nx ρ M1
theorem qs_while {t : WT} {u : WS} (hp : PassesOwn (model Y.X.prog Y.X.w) Y.X.A Y.X.env Y.X.xe) (hc : QT Y c t) (hb : QSs Y body u) : QS Y (.While c body [] pos) (wWhile t u) :=
  PS_imp (ps_while hp hc hb) fun D σ H ⟨ρ, M, DW, so, ⟨I, ⟨m0, i0⟩, turn⟩, k1, k2, k3, k4⟩ => by
    refine ⟨fun m σ' H' => ∃ ρ' M', I m ρ' M' ∧ Go H M H' M' ∧ StOk Y.b ρ' M' σ' H', ⟨m0, ρ, M, i0, Go.refl _ _, so⟩, ?_⟩
    rintro m σ1 H1 ⟨ρ1, M1, i1, g1, so1⟩
    refine ⟨ρ1, M1, _, so1, turn m ρ1 M1 i1, fun x M2 H2 q2 g2 m2 => ?_⟩
    have g12 := g1.trans g2
    cases x with
    | true =>
      refine (if_pos rfl).mpr ?_
      refine ⟨fun σ' H' => ∃ m', m' < m ∧ ∃ ρ' M', I m' ρ' M' ∧ Go H M H' M' ∧ StOk Y.b ρ' M' σ' H', fun σ' H' z => z, ?_⟩
      have nx : ∀ ρ' M' σ' H', (∃ M0, Sub M0 M' ∧ ∃ m', m' < m ∧ I m' ρ' M0) → Go H2 M2 H' M' → StOk Y.b ρ' M' σ' H' → ∃ m', m' < m ∧ ∃ ρ' M', I m' ρ' M' ∧ Go H M H' M' ∧ StOk Y.b ρ' M' σ' H' := fun ρ' M' σ' H' ⟨M0, s, m', hm, i'⟩ g so' =>
        ⟨m', hm, ρ', M0, i', (g12.trans g).sub s, so'.sub s⟩
      exact ⟨ρ1, M2, _, so1.step g2 m2, q2, nx, fun w M' v H' q g r m => k2 w M' v H' q (g12.trans g) r m, fun ρ' M' σ' H' q g so' => k1 ρ' M' σ' H' q (g12.trans g) so', nx⟩
    | false =>
      refine (if_neg Bool.false_ne_true).mpr ?_
      exact k1 ρ1 M2 σ1 H2 q2 g12 (so1.step g2 m2)

/-! ### for -/
abbrev ItW := Me → Option (List W)
abbrev WI := En → Me → (ItW → Me → Prop) → Prop
def ItRel (B : Kx) (H1 : Hp) (J : It) (f : ItW) : Prop := ∀ (i : Nat) H M xs, GoH H1 H → Mo B H M → f M = some xs →
  (∀ w, xs[i]? = some w → J.go i H ∧ ∀ x H', J.yld i H x H' → Same H H' ∧ Rep B.K H' w x) ∧ (xs.length ≤ i → J.stop i H)
def upI (c : Cb) (wi : WI) : TI := fun σ H R => ∃ ρ M Rw, StOk c ρ M σ H ∧ wi ρ M Rw ∧ ∀ f M1 J H1, Rw f M1 → Go H M H1 M1 → Mo c.B H1 M1 → ItRel c.B H1 J f → R J H1
def QI (Y : Cy) (tg e : Expr) (wi : WI) : Prop := PI Y.X tg e (upI Y.b wi)
theorem PI_imp {X : Cx} {tg e : Expr} {t t' : TI} (h : PI X tg e t) (i : ∀ σ H R, t' σ H R → t σ H R) : PI X tg e t' := ⟨fun pins s σ H R I q => h.run pins s σ H R I (i σ H R q)⟩
theorem PI_or {X : Cx} {tg e : Expr} {t t' : TI} (h : PI X tg e t) (h' : PI X tg e t') : PI X tg e (fun σ H R => t σ H R ∨ t' σ H R) := ⟨fun pins s σ H R I q => q.elim (h.run pins s σ H R I) (h'.run pins s σ H R I)⟩
def wForB (f : ItW) (g : WG) (tb : WS) (D : Eds) (ρ : En) (M : Me) : Prop := ∃ (I : Nat → En → Me → Prop) (n : Nat), I 0 ρ M ∧ (∀ i ρ M, I i ρ M → i ≤ n) ∧ ∀ i ρ M, I i ρ M → ∃ xs, f M = some xs ∧
  (∀ w, xs[i]? = some w → g w ρ M fun ρ2 M2 => tb { D with nx := fun ρ' M' => ∃ M0, Sub M0 M' ∧ I (i + 1) ρ' M0, ct := fun ρ' M' => ∃ M0, Sub M0 M' ∧ I (i + 1) ρ' M0, bk := D.nx } ρ2 M2) ∧ (xs.length ≤ i → D.nx ρ M)
def wFor (wi : WI) (g : WG) (tb : WS) : WS := fun D ρ M => wi ρ M fun f M1 => wForB f g tb D ρ M1
theorem qs_for {tg iter : Expr} {wi : WI} {g : WG} {u : WS} (hp : PassesOwn (model Y.X.prog Y.X.w) Y.X.A Y.X.env Y.X.xe) (hc : Y.X.calm = true) (hi : QI Y tg iter wi) (hg : QG Y tg g) (hb : QSs Y body u)
    (hs : ∀ x, foldedSetIterable iter Y.X.env x = pure x := by intro _; rfl) : QS Y (.For tg iter body [] pos) (wFor wi g u) :=
  PS_imp (ps_for hp hc hi hg hb hs) fun D σ H ⟨ρ, M, DW, so, q, k1, k2, k3, k4⟩ => by
    refine ⟨ρ, M, _, so, q, fun f M1 J H1 ⟨I, n, i0, hn, turn⟩ g1 m1 rel => ?_⟩
    refine ⟨fun i m σ' H' => m = n - i ∧ ∃ ρ' M', I i ρ' M' ∧ Go H1 M1 H' M' ∧ StOk Y.b ρ' M' σ' H', ⟨n, by simp, ρ, M1, i0, Go.refl _ _, so.step g1 m1⟩, ?_⟩
    rintro i m σ2 H2 ⟨rfl, ρ2, M2, i2, g2, so2⟩
    obtain ⟨xs, hf, hgo, hst⟩ := turn i ρ2 M2 i2
    obtain ⟨r1, r2⟩ := rel i H2 M2 xs g2.h so2.mo hf
    have g12 := g1.trans g2
    by_cases hl : i < xs.length
    · have hw : xs[i]? = some xs[i] := List.getElem?_eq_getElem hl
      obtain ⟨jg, jy⟩ := r1 _ hw
      refine .inr ⟨jg, fun σ' H' => ∃ ρ' M', I (i + 1) ρ' M' ∧ Go H1 M1 H' M' ∧ StOk Y.b ρ' M' σ' H', fun σ' H' ⟨ρ', M', i', g', so'⟩ => ⟨n - (i + 1), by have := hn (i + 1) ρ' M' i'; omega, rfl, ρ', M', i', g', so'⟩, fun x H3 y => ?_⟩
      obtain ⟨g3, r3⟩ := jy x H3 y
      have m3 := so2.mo.same g3
      have g3' : Go H2 M2 H3 M2 := Go.same g3
      have gb := g12.trans g3'
      refine ⟨_, ρ2, M2, _, r3, so2.step g3' m3, hgo _ hw, fun ρ4 M4 σ4 H4 q4 g4 so4 => ?_⟩
      have nx : ∀ ρ' M' σ' H', (∃ M0, Sub M0 M' ∧ I (i + 1) ρ' M0) → Go H4 M4 H' M' → StOk Y.b ρ' M' σ' H' → ∃ ρ' M', I (i + 1) ρ' M' ∧ Go H1 M1 H' M' ∧ StOk Y.b ρ' M' σ' H' := fun ρ' M' σ' H' ⟨M0, s, i'⟩ g so' =>
        ⟨ρ', M0, i', (((g2.trans g3').trans g4).trans g).sub s, so'.sub s⟩
      exact ⟨ρ4, M4, _, so4, q4, nx, fun w M' v H' q g r m => k2 w M' v H' q ((gb.trans g4).trans g) r m, fun ρ' M' σ' H' q g so' => k1 ρ' M' σ' H' q ((gb.trans g4).trans g) so', nx⟩
    · exact .inl ⟨r2 (by omega), k1 ρ2 M2 σ2 H2 (hst (by omega)) g12 so2⟩
/-! what is walked -/
def rdl : Option Ob → Option (List W)
  | some (.lst xs) => some xs
  | _ => none
theorem rdl_sq {B : Kx} {H : Hp} {M : Me} {a : Addr} {xs : List W} (m : Mo B H M) (h : rdl (M a) = some xs) : ∃ vs, SqL B.K H a vs ∧ Reps B.K H xs vs := by
  cases e : M a with
  | none => rw [e] at h; cases h
  | some o =>
    rw [e] at h
    cases o with
    | lst ws =>
      have e2 : ws = xs := by simpa [rdl] using h
      subst e2
      obtain ⟨vs, h1, h2⟩ := m a _ e
      exact ⟨vs, SqL.of h1, h2⟩
    | _ => simp [rdl] at h
/-- a list or a tuple, by its value -/
def wiSeq (t : WE) : WI := fun ρ M R => t ρ M fun x M1 => match x with
  | .tup ws => R (fun _ => some ws) M1
  | .cl ws => R (fun _ => some ws) M1
  | .ref a => (rdl (M1 a)).isSome = true ∧ R (fun M => rdl (M a)) M1
  | _ => False
theorem it_l {X : Cx} {tg : Expr} {pins : List (Addr × Obj)} {σ : L2.St} {H : Hp} {s : Shared} {R : It → Hp → Prop} {E : Value → Shared → Prop} {a : Addr} {vs : List V} (I : Inv X pins σ H s) (hq : SqL X.K H a vs) (q : R (Itl X.K a) H) :
    wpAny (model X.prog X.w) X.A (pyIter (.ref a)) (PIE X pins σ tg R) E s := by
  obtain ⟨us, _, pl, _⟩ := I.list hq
  have nw := Nat.le_refl s.heap.objs.size
  have I2 : ∀ o, Inv X pins σ H { s with heap := s.heap.push o } := fun o => I.kept (t' := s.toks) fun _ u z => Heap.get?_push_of_some _ z
  apply wpAny_pyIter_list pl.isList
  refine ⟨_, [s.heap.objs.size], _, _, H, rfl, I2 _, turn_list a s.heap.objs.size, ⟨_, Heap.get?_push_size _ rfl, rfl, rfl⟩, ?_, q⟩
  intro b hb
  obtain rfl : b = s.heap.objs.size := by simpa using hb
  exact I.fpOk nw (I.hok.fresh nw)
theorem it_t {X : Cx} {tg : Expr} {pins : List (Addr × Obj)} {σ : L2.St} {H : Hp} {s : Shared} {R : It → Hp → Prop} {E : Value → Shared → Prop} {a : Addr} {vs : List V} (I : Inv X pins σ H s) (hq : SqT X.K H a vs) (q : R (Itt X.K a) H) :
    wpAny (model X.prog X.w) X.A (pyIter (.ref a)) (PIE X pins σ tg R) E s := by
  obtain ⟨us, _, pl, _⟩ := I.tuple hq
  have nw := Nat.le_refl s.heap.objs.size
  have I2 : ∀ o, Inv X pins σ H { s with heap := s.heap.push o } := fun o => I.kept (t' := s.toks) fun _ u z => Heap.get?_push_of_some _ z
  apply wpAny_pyIter_tuple (show s.heap.IsTuple a us.toArray from pl)
  refine ⟨_, [s.heap.objs.size], _, _, H, rfl, I2 _, turn_tuple a s.heap.objs.size, ⟨_, Heap.get?_push_size _ rfl, rfl, rfl⟩, ?_, q⟩
  intro b hb
  obtain rfl : b = s.heap.objs.size := by simpa using hb
  exact I.fpOk nw (I.hok.fresh nw)
theorem rel_list {B : Kx} {H1 : Hp} {a : Addr} : ItRel B H1 (Itl B.K a) (fun M => rdl (M a)) := fun i H M xs g m h => by
  obtain ⟨vs, s, r⟩ := rdl_sq m h
  refine ⟨fun w e => ?_, fun l => ⟨vs, s, by rw [r.length]; exact l⟩⟩
  obtain ⟨v, e2, rv⟩ := r.get e
  refine ⟨⟨vs, v, s, e2⟩, fun x H' ⟨e3, z⟩ => ?_⟩
  subst e3
  have := z vs s
  rw [e2] at this
  cases this
  exact ⟨Same.refl _, rv⟩
theorem rel_tup {X : Cx} {pins : List (Addr × Obj)} {σ : L2.St} {s0 : Shared} {H1 : Hp} {a : Addr} {vs : List V} {ws : List W} (s : SqT X.K H1 a vs) (r : Reps X.K H1 ws vs) : ItRel X.kx H1 (Itt X.K a) (fun _ => some ws) := fun i H M xs g m h => by
  cases h
  have s' := g.sqT s
  have r' := r.go g
  refine ⟨fun w e => ?_, fun l => ⟨vs, s', by rw [r'.length]; exact l⟩⟩
  obtain ⟨v, e2, rv⟩ := r'.get e
  refine ⟨⟨vs, v, s', e2⟩, fun x H' ⟨e3, z⟩ => ?_⟩
  subst e3
  have := z vs s'
  rw [e2] at this
  cases this
  exact ⟨Same.refl _, rv⟩
theorem rel_cl {X : Cx} {H1 : Hp} {a : Addr} {vs : List V} {ws : List W} (s : Cl X.K H1 a vs) (r : Reps X.K H1 ws vs) : ItRel X.kx H1 (Itl X.K a) (fun _ => some ws) := fun i H M xs g m h => by
  cases h
  have s' := (g.cl s).sq
  have r' := r.go g
  refine ⟨fun w e => ?_, fun l => ⟨vs, s', by rw [r'.length]; exact l⟩⟩
  obtain ⟨v, e2, rv⟩ := r'.get e
  refine ⟨⟨vs, v, s', e2⟩, fun x H' ⟨e3, z⟩ => ?_⟩
  subst e3
  have := z vs s'
  rw [e2] at this
  cases this
  exact ⟨Same.refl _, rv⟩
theorem qi_seq {tg : Expr} {t : WE} (h : QE Y e t) : QI Y tg e (wiSeq t) := ⟨fun pins s σ H R I ⟨ρ, M, Rw, so, q, k⟩ => by
  refine thn (h.run pins s σ H (fun v H1 => ∃ w M1, Rep Y.X.K H1 w v ∧ Mo Y.X.kx H1 M1 ∧ Go H M H1 M1 ∧ (match w with
    | .tup ws => Rw (fun _ => some ws) M1
    | .cl ws => Rw (fun _ => some ws) M1
    | .ref a => (rdl (M1 a)).isSome = true ∧ Rw (fun M => rdl (M a)) M1
    | _ => False)) I ⟨ρ, M, _, so, q, fun w M1 v H1 q1 g r m => ⟨w, M1, r, m, g, q1⟩⟩) fun u s1 ⟨v, H1, I1, rv, w, M1, r, m, g, q1⟩ => ?_
  split at q1
  · obtain ⟨a, vs, e, sq, rs⟩ := r.untup
    subst e
    cases rv
    exact it_t I1 sq (k _ M1 _ H1 q1 g m (rel_tup (pins := pins) (σ := σ) (s0 := s1) sq rs))
  · obtain ⟨a, vs, e, sq, rs⟩ := r.uncl
    subst e
    cases rv
    exact it_l I1 sq.sq (k _ M1 _ H1 q1 g m (rel_cl sq rs))
  · have e := un_ref r
    subst e
    cases rv
    obtain ⟨xs, hx⟩ := Option.isSome_iff_exists.mp q1.1
    obtain ⟨vs, sq, rs⟩ := rdl_sq m hx
    exact it_l I1 sq (k _ M1 _ H1 q1.2 g m rel_list)
  · exact q1.elim⟩
def rngW (lo hi : Int) : List W := (List.range (hi - lo).toNat).map fun (k : Nat) => W.int (lo + (k : Int))
def wiRng1 (t : WA) : WI := fun ρ M R => t ρ M fun ws M1 => match ws with
  | [.int j] => (-(2 ^ 62) ≤ j ∧ j < 2 ^ 62) ∧ R (fun _ => some (rngW 0 j)) M1
  | _ => False
def wiRng2 (t : WA) : WI := fun ρ M R => t ρ M fun ws M1 => match ws with
  | [.int i, .int j] => (-(2 ^ 62) ≤ i ∧ i < 2 ^ 62 ∧ -(2 ^ 62) ≤ j ∧ j < 2 ^ 62) ∧ R (fun _ => some (rngW i j)) M1
  | _ => False
theorem rel_rng {B : Kx} {H1 : Hp} {lo : Int} {n : Nat} : ItRel B H1 (Itr lo n) (fun _ => some ((List.range n).map fun (k : Nat) => W.int (lo + (k : Int)))) := fun i H M xs g m h => by
  cases h
  refine ⟨fun w e => ?_, fun l => show n ≤ i by simpa using l⟩
  rw [List.getElem?_map] at e
  have hi : i < n := by
    by_cases hl : i < n
    · exact hl
    · rw [List.getElem?_eq_none (by simpa using hl)] at e; cases e
  rw [List.getElem?_range hi] at e
  have e2 : W.int (lo + (i : Int)) = w := by simpa using e
  subst e2
  refine ⟨hi, fun x H' ⟨e3, e4⟩ => ?_⟩
  subst e3 e4
  exact ⟨Same.refl _, rep_int⟩
theorem qi_rng1 {tg : Expr} {t : WA} {p : Pos} (hg : Gl Y.X "range") (hm : Y.X.mg "range" = none) (h : QA Y [e] t) (hs : starEach [e] Y.X.env = [(false, eval e Y.X.env)] := by rfl) : QI Y tg (.Call (.Name "range" p) [e] [] pos) (wiRng1 t) :=
  PI_imp (pi_range1 hg hm h hs) fun σ H R ⟨ρ, M, Rw, so, q, k⟩ => ⟨ρ, M, _, so, q, fun ws M1 vs H1 q1 g rs m => by
    split at q1
    · rename_i j
      obtain ⟨v, r, e1, r1, r2⟩ := rs.uncons
      have e2 := r2.unnil
      have e3 := un_int r1
      subst e1 e2 e3
      refine ⟨j, rfl, q1.1.1, q1.1.2, k _ M1 _ H1 q1.2 g m ?_⟩
      have z := rel_rng (B := Y.X.kx) (H1 := H1) (lo := 0) (n := j.toNat)
      unfold rngW
      rw [Int.sub_zero]
      exact z
    · exact q1.elim⟩
theorem qi_rng2 {tg e2 : Expr} {t : WA} {p : Pos} (hg : Gl Y.X "range") (hm : Y.X.mg "range" = none) (h : QA Y [e, e2] t) (hs : starEach [e, e2] Y.X.env = [(false, eval e Y.X.env), (false, eval e2 Y.X.env)] := by rfl) (hs2 : starEach [e2] Y.X.env = [(false, eval e2 Y.X.env)] := by rfl) :
    QI Y tg (.Call (.Name "range" p) [e, e2] [] pos) (wiRng2 t) :=
  PI_imp (pi_range2 hg hm h hs hs2) fun σ H R ⟨ρ, M, Rw, so, q, k⟩ => ⟨ρ, M, _, so, q, fun ws M1 vs H1 q1 g rs m => by
    split at q1
    · rename_i i j
      obtain ⟨v, r, e1, r1, r2⟩ := rs.uncons
      obtain ⟨v2, r3, e2, r4, r5⟩ := r2.uncons
      have e3 := r5.unnil
      have e4 := un_int r1
      have e5 := un_int r4
      subst e1 e2 e3 e4 e5
      exact ⟨i, j, rfl, q1.1, k _ M1 _ H1 q1.2 g m rel_rng⟩
    · exact q1.elim⟩
end
end PV
set_option maxHeartbeats 1000000
/-! PV: comprehensions, calls, defs. -/
namespace PV
open PySem PySem.Spec PyProof.Rows L2

/-! ### comprehensions -/
def wWipe (ρ : En) : List Nat → En
  | [] => ρ
  | v :: vs => (wWipe ρ vs).set v none
/-- the turns: acc what is made so far -/
def wLcB (f : ItW) (g : WG) (tt : WT) (te : WE) (vs : List Nat) (ρ : En) (M : Me) (Q : WK) : Prop := ∃ (I : Nat → List W → Me → Prop) (n : Nat), I 0 [] M ∧ (∀ i acc M, I i acc M → i ≤ n) ∧ ∀ i acc M, I i acc M → acc.length < sizeLine ∧ ∃ xs, f M = some xs ∧
  (∀ w, xs[i]? = some w → g w (wWipe ρ vs) M fun ρ2 M2 => tt ρ2 M2 fun b M3 => match b with
    | true => te ρ2 M3 fun y M4 => ∃ M0, Sub M0 M4 ∧ I (i + 1) (acc ++ [y]) M0
    | false => ∃ M0, Sub M0 M3 ∧ I (i + 1) acc M0) ∧ (xs.length ≤ i → ∀ p, M p = none → Q (.ref p) (put M p (.lst acc)))
def wLc (wi : WI) (g : WG) (tt : WT) (te : WE) (vs : List Nat) : WE := fun ρ M Q => wi ρ M fun f M1 => wLcB f g tt te vs ρ M1 Q
theorem set_wipe (σ : L2.St) (x : Option V) : ∀ (vs : List Nat) (i : Nat), (L2.wipe (σ.set i x) vs).set i none = (L2.wipe σ vs).set i none
  | [], i => by
    show (σ.set i x).set i none = σ.set i none
    rw [List.set_set]
  | v :: vs, i => by
    show ((L2.wipe (σ.set i x) vs).set v none).set i none = ((L2.wipe σ vs).set v none).set i none
    by_cases z : v = i
    · subst z
      rw [List.set_set, List.set_set]
      exact set_wipe σ x vs v
    · rw [List.set_comm _ _ z, set_wipe σ x vs i, List.set_comm _ _ (Ne.symm z)]
theorem wipe_mem (σ : L2.St) (x : Option V) : ∀ (vs : List Nat) (i : Nat), i ∈ vs → L2.wipe (σ.set i x) vs = L2.wipe σ vs
  | [], i, h => by cases h
  | v :: vs, i, h => by
    show (L2.wipe (σ.set i x) vs).set v none = (L2.wipe σ vs).set v none
    by_cases z : v = i
    · subst z; exact set_wipe σ x vs v
    · rw [wipe_mem σ x vs i (by
        rcases List.mem_cons.mp h with e | e
        · exact absurd e.symm z
        · exact e)]
section
variable {c : Cb} {M : Me} {H : Hp}
theorem StOk.unset {ρ : En} {σ : L2.St} (v : Nat) (so : StOk c ρ M σ H) : StOk c (ρ.set v none) M (σ.set v none) H := by
  refine ⟨fun i w e => ?_, by rw [List.length_set, List.length_set]; exact so.len, so.mo, so.go⟩
  by_cases z : v = i
  · subst z
    have hl : v < ρ.length := by
      have := (List.getElem?_eq_some_iff.mp e).1
      simpa using this
    rw [List.getElem?_set_self hl] at e
    cases e
  · rw [List.getElem?_set_ne z] at e ⊢
    exact so.env i w e
theorem StOk.wipe {ρ : En} {σ : L2.St} (so : StOk c ρ M σ H) : ∀ vs : List Nat, StOk c (wWipe ρ vs) M (L2.wipe σ vs) H
  | [] => so
  | v :: vs => (StOk.wipe so vs).unset v
end
/-- a target in a comprehension: only the block's own names -/
def upGv (c : Cb) (vs : List Nat) (g : WG) : TG := fun v σ H Q => ∃ w ρ M Qw, Rep c.B.K H w v ∧ StOk c ρ M σ H ∧ g w ρ M Qw ∧ ∀ ρ' M' σ' H', Qw ρ' M' → Go H M H' M' → StOk c ρ' M' σ' H' → L2.wipe σ' vs = L2.wipe σ vs → Q σ' H'
def upGvs (c : Cb) (vs : List Nat) (g : WGs) : TGs := fun xs σ H Q => ∃ ws ρ M Qw, Reps c.B.K H ws xs ∧ StOk c ρ M σ H ∧ g ws ρ M Qw ∧ ∀ ρ' M' σ' H', Qw ρ' M' → Go H M H' M' → StOk c ρ' M' σ' H' → L2.wipe σ' vs = L2.wipe σ vs → Q σ' H'
def QGv (Y : Cy) (vs : List Nat) (tg : Expr) (g : WG) : Prop := PG Y.X tg (upGv Y.b vs g)
def QGvs (Y : Cy) (vs : List Nat) (tgs : List Expr) (g : WGs) : Prop := PGs Y.X tgs (upGvs Y.b vs g)
section
variable {Y : Cy} {vs : List Nat} {pos : Pos}
theorem qv_name {i : Nat} {x : Str} (hN : Y.X.N.Nodup) (hm : i ∈ vs := by decide) (hi : Y.X.N[i]? = some x := by rfl) (hx : Loc Y.X.env.scope x := by first | exact Or.inl rfl | exact Or.inr rfl)
    (hf : Y.X.fn x = true ∨ Y.X.env.scope.names.lookup x = some .local := by first | exact .inl rfl | exact .inr rfl) : QGv Y vs (.Name x pos) (wgName i) :=
  PG_imp (pg_name hN hi hx hf) fun v σ H Q ⟨w, ρ, M, Qw, r, so, q, k⟩ => k _ M _ H q (Go.refl _ _) (so.set r) (wipe_mem σ _ vs i hm)
theorem qvs_nil : QGvs Y vs [] wgNil := PGs_imp pgs_nil fun v σ H Q ⟨ws, ρ, M, Qw, r, so, q, k⟩ => by
  unfold wgNil at q
  split at q
  · exact ⟨r.unnil, k ρ M σ H q (Go.refl _ _) so rfl⟩
  · exact q.elim
theorem qvs_cons {e : Expr} {es : List Expr} {t : WG} {u : WGs} (h : QGv Y vs e t) (h' : QGvs Y vs es u) (hs : (assignEach (e :: es) Y.X.env).map (·.2) = assign e Y.X.env :: (assignEach es Y.X.env).map (·.2) := by rfl) : QGvs Y vs (e :: es) (wgCons t u) :=
  PGs_imp (pgs_cons h h' hs) fun v σ H Q ⟨ws, ρ, M, Qw, r, so, q, k⟩ => by
    unfold wgCons at q
    split at q
    · rename_i w r'
      obtain ⟨v1, vr, e1, h1, h2⟩ := r.uncons
      exact ⟨v1, vr, e1, w, ρ, M, _, h1, so, q, fun ρ' M' σ' H' q' g so' ew => ⟨r', ρ', M', Qw, h2.go g.h, so', q', fun ρ2 M2 σ2 H2 q2 g2 so2 ew2 => k ρ2 M2 σ2 H2 q2 (g.trans g2) so2 (ew2.trans ew)⟩⟩
    · exact q.elim
theorem qv_tup {es : List Expr} {k : Nat} {t : WGs} {n : Nat} (hc : Y.X.calm = true) (h : QGvs Y vs es t) (hn : (assignEach es Y.X.env).length = n := by rfl) (hst : (assignEach es Y.X.env).findIdx? (·.1) = none := by rfl) : QGv Y vs (.Tuple es k pos) (wgTup n t) :=
  PG_imp (pg_tup hc h hn hst) fun v σ H Q ⟨w, ρ, M, Qw, r, so, q, k⟩ => by
    unfold wgTup at q
    split at q
    · obtain ⟨a, vs, e1, s, rs⟩ := r.untup
      exact ⟨a, vs, e1, s, rs.length.trans q.1, _, ρ, M, Qw, rs, so, q.2, k⟩
    · exact q.elim
def QTs (Y : Cy) (ifs : List Expr) (t : WT) : Prop := PTs Y.X ifs (upT Y.b t)
theorem PTs_imp {X : Cx} {es : List Expr} {t t' : TT} (h : PTs X es t) (i : ∀ σ H Q, t' σ H Q → t σ H Q) : PTs X es t' := ⟨fun pins s σ H Q I q => h.run pins s σ H Q I (i σ H Q q)⟩
def wYes : WT := fun _ M Q => Q true M
theorem qts_nil : QTs Y [] wYes := PTs_imp pts_nil fun σ H Q ⟨ρ, M, Qw, so, q, k⟩ => k true M H q (Go.refl _ _) so.mo
theorem qts_one {c : Expr} {t : WT} (h : QT Y c t) : QTs Y [c] t := pts_one h
end
theorem up_lc {c : Cb} {σ : L2.St} {H : Hp} {Q : VK} {wi : WI} {g : WG} {tt : WT} {te : WE} {vs : List Nat} (h : upE c (wLc wi g tt te vs) σ H Q) : tLc (upI c wi) (upGv c vs g) (upT c tt) (upE c te) vs σ H Q := by
  obtain ⟨ρ, M, Qw, so, q, k⟩ := h
  refine ⟨ρ, M, _, so, q, fun f M1 J H1 ⟨I, n, i0, hn, turn⟩ g1 m1 rel D hD => ?_⟩
  refine ⟨fun i m H' => m = n - i ∧ ∃ acc M' va, I i acc M' ∧ M' D = none ∧ Go H1 M1 H' M' ∧ Mo c.B H' M' ∧ H' D = some (.lst va) ∧ Reps c.B.K H' acc va,
    ⟨n, by simp, [], M1, [], i0, m1.free hD, Go.same (sameNew hD), m1.same (sameNew hD), upd_same, Reps.nil⟩, ?_⟩
  rintro i m H2 ⟨rfl, acc, M2, va, i2, n2, g2, m2, d2, r2⟩
  obtain ⟨hlen, xs, hf, hgo, hst⟩ := turn i acc M2 i2
  obtain ⟨rl1, rl2⟩ := rel i H2 M2 xs g2.h m2 hf
  by_cases hl : i < xs.length
  · have hw : xs[i]? = some xs[i] := List.getElem?_eq_getElem hl
    obtain ⟨jg, jy⟩ := rl1 _ hw
    refine .inr ⟨jg, fun H' => ∃ acc M' va, I (i + 1) acc M' ∧ M' D = none ∧ Go H1 M1 H' M' ∧ Mo c.B H' M' ∧ H' D = some (.lst va) ∧ Reps c.B.K H' acc va,
      fun H' ⟨acc, M', va, i', z⟩ => ⟨n - (i + 1), by have := hn (i + 1) acc M' i'; omega, rfl, acc, M', va, i', z⟩, fun x H3 y => ?_⟩
    obtain ⟨s3, r3⟩ := jy x H3 y
    have g3 : Go H2 M2 H3 M2 := Go.same s3
    have so3 : StOk c ρ M2 σ H3 := so.step (((g1.trans g2)).trans g3) (m2.same s3)
    refine ⟨_, wWipe ρ vs, M2, _, r3, so3.wipe vs, hgo _ hw, fun ρ4 M4 σ4 H4 q4 g4 so4 ew => ?_⟩
    refine ⟨?_, ρ4, M4, _, so4, q4, fun b M5 H5 q5 g5 m5 => ?_⟩
    · rw [ew]
      have ww : ∀ (σ : L2.St) (us : List Nat), (∀ i ∈ us, i ∈ vs) → L2.wipe (L2.wipe σ us) vs = L2.wipe σ vs := by
        intro σ us
        induction us with
        | nil => intro _; rfl
        | cons v us ih =>
          intro hm
          show L2.wipe ((L2.wipe σ us).set v none) vs = _
          rw [wipe_mem _ _ vs v (hm v List.mem_cons_self)]
          exact ih fun i hi => hm i (List.mem_cons_of_mem _ hi)
      exact ww σ vs fun _ h => h
    · have ga : Go H1 M1 H5 M5 := ((g2.trans g3).trans g4).trans g5
      have gb : Go H2 M2 H5 M5 := (g3.trans g4).trans g5
      cases b with
      | true =>
        refine (if_pos rfl).mpr ?_
        refine ⟨ρ4, M5, _, so4.step g5 m5, q5, fun y M6 vy H6 ⟨M0, s0, i6⟩ g6 r6 m6 => ?_⟩
        have gc := gb.trans g6
        have d6 : H6 D = some (.lst va) := gc.fm D _ d2 n2
        have n6 : M6 D = none := gc.fr D (by rw [d2]; intro z; cases z) n2
        have gw : GoH H6 (upd H6 D (.lst (va ++ [vy]))) := GoH.write d6 (fun _ z => nomatch z) (fun _ _ z => nomatch z)
        have n0 : M0 D = none := by
          cases e : M0 D with
          | none => rfl
          | some o => have := s0 D o e; rw [n6] at this; cases this
        have rl : va.length = acc.length := r2.length
        refine ⟨va, d6, by rw [rl]; exact hlen, acc ++ [y], M0, va ++ [vy], i6, n0, ?_, ?_, upd_same, ((r2.go gc.h).go gw).append (.cons (r6.go gw) .nil)⟩
        · have gz := (ga.trans g6).sub s0
          refine ⟨gz.h.trans gw, gz.fr, fun a o e na => ?_⟩
          rw [upd_ne (ne_of_none e hD)]
          exact gz.fm a o e na
        · intro a o e
          have ne : a ≠ D := fun z => by rw [z, n0] at e; cases e
          exact (m6 a o (s0 a o e)).go gw (upd_ne ne)
      | false =>
        refine (if_neg Bool.false_ne_true).mpr ?_
        obtain ⟨M0, s0, i6⟩ := q5
        have d6 : H5 D = some (.lst va) := gb.fm D _ d2 n2
        have n6 : M5 D = none := gb.fr D (by rw [d2]; intro z; cases z) n2
        have n0 : M0 D = none := by
          cases e : M0 D with
          | none => rfl
          | some o => have := s0 D o e; rw [n6] at this; cases this
        exact ⟨acc, M0, va, i6, n0, ga.sub s0, m5.sub s0, d6, r2.go gb.h⟩
  · refine .inl ⟨rl2 (by omega), ?_⟩
    have q2 := hst (by omega) D n2
    have gg := g1.trans g2
    refine k _ _ _ H2 q2 ⟨gg.h, fun a ha na => ?_, gg.fm⟩ rep_ref fun a o e => ?_
    · by_cases z : a = D
      · subst z
        cases ea : H a with
        | none => exact absurd ea ha
        | some o => exact absurd hD (g1.h.dom a ha)
      · rw [put_ne z]
        exact gg.fr a ha na
    · by_cases z : a = D
      · subst z
        rw [put_same] at e
        cases e
        exact ⟨va, d2, r2⟩
      · rw [put_ne z] at e
        exact m2 a o e
section
variable {Y : Cy} {elt tg iter : Expr} {ifs : List Expr} {scope : Scope} {own : List (Str × Nat)} {pos : Pos} {wi : WI} {g : WG} {tt : WT} {te : WE}
/-- the context within a comprehension's block -/
abbrev Cy.blk (Y : Cy) (s : Shared) (H : Hp) (scope : Scope) (C : Addr) (cl : List (Str × Addr)) (fp : List Addr) : Cy := { Y with X := Y.X.blk s H scope (compEnvC scope cl C Y.X.env) fp }
theorem q_lc (own : List (Str × Nat)) (hc : Y.X.calm = true) (hN : Y.X.N.Nodup) (hi : QI Y tg iter wi) (ok : BlkOk Y.X.N Y.X.env.scope scope own)
    (hg : ∀ (s : Shared) (H : Hp) (C : Addr) (cl : List (Str × Addr)) (fp : List Addr), QGv (Y.blk s H scope C cl fp) (own.map (·.2)) tg g)
    (ht : ∀ (s : Shared) (H : Hp) (C : Addr) (cl : List (Str × Addr)) (fp : List Addr), QTs (Y.blk s H scope C cl fp) ifs tt)
    (he : ∀ (s : Shared) (H : Hp) (C : Addr) (cl : List (Str × Addr)) (fp : List Addr), QE (Y.blk s H scope C cl fp) elt te)
    (hs : ∀ x, foldedSetIterable iter Y.X.env x = pure x := by intro _; rfl) : QE Y (.ListComp elt [⟨tg, iter, ifs, 0⟩] scope pos) (wLc wi g tt te (own.map (·.2))) :=
  PE_imp (pe_lc (g := upGv Y.b (own.map fun (q : Str × Nat) => q.2) g) (tt := upT Y.b tt) (te := upE Y.b te) hc hN hi ok hg ht he hs) fun _ _ _ h => up_lc h
/-- name = [..] on one line -/
theorem qs_setLc {i : Nat} {y : Str} {py spos : Pos} (own : List (Str × Nat)) (hc : Y.X.calm = true) (hN : Y.X.N.Nodup) (hi : QI Y tg iter wi) (ok : BlkOk Y.X.N Y.X.env.scope scope own)
    (hg : ∀ (s : Shared) (H : Hp) (C : Addr) (cl : List (Str × Addr)) (fp : List Addr), QGv (Y.blk s H scope C cl fp) (own.map (·.2)) tg g)
    (ht : ∀ (s : Shared) (H : Hp) (C : Addr) (cl : List (Str × Addr)) (fp : List Addr), QTs (Y.blk s H scope C cl fp) ifs tt)
    (he : ∀ (s : Shared) (H : Hp) (C : Addr) (cl : List (Str × Addr)) (fp : List Addr), QE (Y.blk s H scope C cl fp) elt te)
    (hy : Y.X.N[i]? = some y := by rfl) (hyl : Y.X.env.scope.names.lookup y = some .local := by rfl) (hsw : swapsWith (.ListComp elt [⟨tg, iter, ifs, 0⟩] scope pos) (some (.Name y py)) spos.line Y.X.env = pure true := by exact sw_true rfl rfl rfl (by decide +kernel))
    (hs : ∀ x, foldedSetIterable iter Y.X.env x = pure x := by intro _; rfl) : QS Y (.Assign [.Name y py] (.ListComp elt [⟨tg, iter, ifs, 0⟩] scope pos) spos) (wSet i (wLc wi g tt te (own.map (·.2)))) :=
  PS_imp (ps_setLc (g := upGv Y.b (own.map fun (q : Str × Nat) => q.2) g) (tt := upT Y.b tt) (te := upE Y.b te) hc hN hy hyl hsw hi ok hg ht he hs) fun D σ H ⟨ρ, M, DW, so, q, k1, _⟩ => by
    have u : upE Y.b (wLc wi g tt te (own.map (·.2))) σ H (fun v H1 => D.nx (σ.set i (some v)) H1) := ⟨ρ, M, _, so, q, fun w M1 v H1 q1 g r m => k1 _ M1 _ H1 q1 g ((so.step g m).set r)⟩
    exact up_lc u
end

/-! ### defs -/
abbrev XKW := Value → Me → Prop
/-- a promise: the arguments, the memory, the wanted end, the wanted exception -/
abbrev PSp := List W → Me → WK → XKW → Prop
def upSp (B : Kx) (sp : PSp) : Sp := fun vs H Q E => ∃ ws M Qw Ew, Reps B.K H ws vs ∧ Mo B H M ∧ sp ws M Qw Ew ∧ (∀ w M' v H', Qw w M' → Go H M H' M' → Rep B.K H' w v → Mo B H' M' → Q v H') ∧ (∀ x M' H', Ew x M' → Go H M H' M' → Mo B H' M' → E x none H')
/-- a def of the module that keeps a promise at a level -/
structure Dk (B : Kx) (mg : Str → Option Value) (base : Heap) (k : Nat) (x : Str) (ps : List Str) (sp : PSp) : Prop where
  ok : ∃ f fd, mg x = some (.ref f) ∧ PySem.W.keepIn B.K (.ref f) = true ∧ Binds B.K fd ps [] ∧ FnOk B.P B.w B.K mg base CX0 k f fd ps (upSp B sp)
theorem Dk.mono {B : Kx} {mg : Str → Option Value} {base : Heap} {j k : Nat} {x : Str} {ps : List Str} {sp : PSp} (d : Dk B mg base j x ps sp) (h : j ≤ k) : Dk B mg base k x ps sp := by
  obtain ⟨f, fd, h1, h2, h3, h4⟩ := d.ok
  exact ⟨f, fd, h1, h2, h3, h4.mono h⟩
section
variable {Y : Cy} {k : Nat} {x : Str} {p pos : Pos} {ps : List Str} {sp : PSp} {e : Expr} {es : List Expr} {t : WA}
def noX : XKW := fun _ _ => False
def wFn (sp : PSp) (t : WA) : WE := fun ρ M Q => t ρ M fun ws M1 => sp ws M1 Q noX
theorem up_fn {E : XK} {σ : L2.St} {H : Hp} {Q : VK} (h : upE Y.b (wFn sp t) σ H Q) : tCall (upSp Y.X.kx sp) [] E (upA Y.b t) σ H Q := by
  obtain ⟨ρ, M, Qw, so, q, k⟩ := h
  refine ⟨ρ, M, _, so, q, fun ws M1 vs H1 q1 g1 rs m1 => ?_⟩
  show upSp Y.X.kx sp (vs ++ []) H1 Q E
  rw [List.append_nil]
  exact ⟨ws, M1, Qw, noX, rs, m1, q1, fun w M2 v H2 q2 g2 r m => k w M2 v H2 q2 (g1.trans g2) r m, fun _ _ _ z => z.elim⟩
theorem q_fn (d : Dk Y.X.kx Y.X.mg Y.X.base k x ps sp) (hr : Room k Y.X.A) (hg : Gl Y.X x) (ha : QA Y (e :: es) t) (hdb : (x == ("__debug__" : Str)) = false := by decide)
    (he : starEach (e :: es) Y.X.env = (false, eval e Y.X.env) :: starEach es Y.X.env := by rfl) (hpl : (backTo pos (starEach es Y.X.env)).any (·.1) = false := by rfl) : QE Y (.Call (.Name x p) (e :: es) [] pos) (wFn sp t) := by
  obtain ⟨f, fd, h1, h2, h3, h4⟩ := d.ok
  exact PE_imp (pe_call h4 hr hg h1 h2 h3 .nil pass0 ha hdb he hpl) fun _ _ _ h => up_fn h
theorem q_fn0 (d : Dk Y.X.kx Y.X.mg Y.X.base k x ps sp) (hr : Room k Y.X.A) (hg : Gl Y.X x) (hdb : (x == ("__debug__" : Str)) = false := by decide) : QE Y (.Call (.Name x p) [] [] pos) (wFn sp wNil) := by
  obtain ⟨f, fd, h1, h2, h3, h4⟩ := d.ok
  refine PE_imp (pe_call0 h4 hr hg h1 h2 h3 .nil pass0 hdb) fun σ H Q h => ?_
  have z := up_fn (E := E0) h
  show upSp Y.X.kx sp ([] ++ []) H Q E0
  obtain ⟨ρ, M, Qw, so, q, k⟩ := h
  exact ⟨[], M, Qw, noX, Reps.nil, so.mo, q, fun w M2 v H2 q2 g2 r m => k w M2 v H2 q2 g2 r m, fun _ _ _ z => z.elim⟩
end
/-- the slots at a def's start -/
def wStart (N : List Str) (ws : List W) : En := ws.map some ++ List.replicate (N.length - ws.length) none
/-- what is wanted at a body's end -/
def wEnd (Q : WK) : Eds := { nx := fun _ M' => ∃ M0, Sub M0 M' ∧ Q .non M0, rt := fun w M' => ∃ M0, Sub M0 M' ∧ Q w M0 }
section
variable {P : Program} {w : World} {K : PySem.W.Frag} {mg : Str → Option Value} {base : Heap}
/-- the context of a def's body -/
abbrev fnCy (P : Program) (w : World) (K : PySem.W.Frag) (mg : Str → Option Value) (base : Heap) (N : List Str) (qual : Str) (st : Stmt) (f : Addr) (cdv : Value) (A : Around) (outer : List Env) (s : Shared) (H : Hp) (E : XK) (M : Me) : Cy :=
  ⟨(cxOf CX0 P w K mg base N qual (defScope st) f cdv A outer s H E).nox, H, M⟩
/-- a def: its body's derivation and its reading -/
theorem fn_ok {x qual : Str} {st : Stmt} {f : Addr} {fd : FuncData} {N ps : List Str} {k : Nat} {sp : PSp} {t : WS} (F : Fun K x qual st f fd) (S : FnScope N ps (defScope st)) (len : ∀ ws M Q E, sp ws M Q E → ws.length = ps.length)
    (body : ∀ (cdv : Value) (A : Around) (outer : List Env) (s : Shared) (H : Hp) (E : XK) (M : Me), Room k (A.deeper (envOfC qual (defScope st) s.heap.objs.size f cdv)) → QSs (fnCy P w K mg base N qual st f cdv A outer s H E M) (defBody st) t)
    (rd : ∀ ws M Q E, sp ws M Q E → t (wEnd Q) (wStart N ws) M) : FnOk P w K mg base CX0 (k + 1) f fd ps (upSp ⟨P, w, K⟩ sp) := by
  refine F.ok S (fun vs H Q E ⟨ws, M, Qw, Ew, rs, _, h, _⟩ => by rw [rs.length]; exact len _ _ _ _ h) (fun cdv A outer s H vs Q E hr h => ?_)
  obtain ⟨ws, M, Qw, Ew, rs, m, h, k1, _⟩ := h
  refine ⟨_, body cdv A outer s H E M hr, wStart N ws, M, wEnd Qw, ⟨fun i y e => ?_, ?_, m, Go.refl _ _⟩, rd ws M Qw Ew h, fun ρ' M' σ' H' ⟨M0, s0, q⟩ g so => k1 .non M0 .non H' q (g.sub s0) rep_non (so.mo.sub s0),
    fun y M' v H' ⟨M0, s0, q⟩ g r m' => k1 y M0 v H' q (g.sub s0) r (m'.sub s0), fun _ _ _ _ z => z.elim, fun _ _ _ _ z => z.elim⟩
  · unfold wStart at e
    by_cases hi : i < ws.length
    · rw [List.getElem?_append_left (by simpa using hi), List.getElem?_map] at e
      cases q : ws[i]? with
      | none => rw [q] at e; cases e
      | some z =>
        rw [q] at e
        have e' : z = y := by simpa using e
        subst e'
        obtain ⟨v, h1, h2⟩ := rs.get q
        refine ⟨v, ?_, h2⟩
        unfold L2.start
        rw [List.getElem?_append_left (by rw [List.length_map]; exact (List.getElem?_eq_some_iff.mp h1).1), List.getElem?_map, h1]
        rfl
    · rw [List.getElem?_append_right (by simpa using hi)] at e
      by_cases hj : i - (ws.map some).length < N.length - ws.length
      · rw [List.getElem?_replicate] at e
        rw [if_pos hj] at e
        cases e
      · rw [List.getElem?_replicate, if_neg hj] at e
        cases e
  · unfold wStart L2.start
    rw [List.length_append, List.length_append, List.length_map, List.length_map, List.length_replicate, List.length_replicate, rs.length]
end
end PV
set_option maxHeartbeats 1000000
/-! PV: operators, comparisons, subscripts, built-ins. -/
namespace PV
open PySem PySem.Spec PyProof.Rows L2

section
variable {X : Cx} {B : Kx} {K : PySem.W.Frag} {H : Hp} {M : Me}
/-- one more alternative -/
theorem OpW.or {f : Value → Value → Sem Value} {r r' r'' : R2W} (h : OpW X f r) (h' : OpW X f r') (i : ∀ x y M Q, r'' x y M Q → r x y M Q ∨ r' x y M Q) : OpW X f r'' :=
  OpR_imp (OpR.or h h') fun x y H Q ⟨wx, wy, M, Qw, rx, ry, m, q, k⟩ => (i wx wy M Qw q).elim (fun q => .inl ⟨wx, wy, M, Qw, rx, ry, m, q, k⟩) fun q => .inr ⟨wx, wy, M, Qw, rx, ry, m, q, k⟩
theorem OpW.imp {f : Value → Value → Sem Value} {r r'' : R2W} (h : OpW X f r) (i : ∀ x y M Q, r'' x y M Q → r x y M Q) : OpW X f r'' :=
  OpR_imp h fun x y H Q ⟨wx, wy, M, Qw, rx, ry, m, q, k⟩ => ⟨wx, wy, M, Qw, rx, ry, m, i wx wy M Qw q, k⟩
theorem CallW.or {f : Value} {r r' r'' : RLW} (h : CallW X f r) (h' : CallW X f r') (i : ∀ x M Q, r'' x M Q → r x M Q ∨ r' x M Q) : CallW X f r'' :=
  CallR_imp (CallR.or h h') fun xs H Q ⟨ws, M, Qw, rx, m, q, k⟩ => (i ws M Qw q).elim (fun q => .inl ⟨ws, M, Qw, rx, m, q, k⟩) fun q => .inr ⟨ws, M, Qw, rx, m, q, k⟩
/-! ### whole numbers -/
def r2I (C : Int → Int → Prop) (g : Int → Int → W) : R2W := fun x y M Q => match x, y with
  | .int i, .int j => C i j ∧ Q (g i j) M
  | _, _ => False
theorem op2I {f : Value → Value → Sem Value} {C : Int → Int → Prop} {g : Int → Int → Int} (h : OpR X f (rI C fun i j => .int (g i j))) : OpW X f (r2I C fun i j => .int (g i j)) :=
  OpR_imp h fun x y H Q ⟨wx, wy, M, Qw, rx, ry, m, q, k⟩ => by
    unfold r2I at q
    split at q
    · rename_i i j
      exact ⟨i, j, un_int rx, un_int ry, q.1, k _ M _ H q.2 (Go.refl _ _) rep_int m⟩
    · exact q.elim
theorem op2I0 {f : Value → Value → Sem Value} {g : Int → Int → Int} (h : OpR X f (rI0 fun i j => .int (g i j))) : OpW X f (r2I (fun _ _ => True) fun i j => .int (g i j)) :=
  OpR_imp h fun x y H Q ⟨wx, wy, M, Qw, rx, ry, m, q, k⟩ => by
    unfold r2I at q
    split at q
    · rename_i i j
      exact ⟨i, j, un_int rx, un_int ry, k _ M _ H q.2 (Go.refl _ _) rep_int m⟩
    · exact q.elim
theorem op2B0 {f : Value → Value → Sem Value} {g : Int → Int → Bool} (h : OpR X f (rI0 fun i j => .bl (g i j))) : OpW X f (r2I (fun _ _ => True) fun i j => .bl (g i j)) :=
  OpR_imp h fun x y H Q ⟨wx, wy, M, Qw, rx, ry, m, q, k⟩ => by
    unfold r2I at q
    split at q
    · rename_i i j
      exact ⟨i, j, un_int rx, un_int ry, k _ M _ H q.2 (Go.refl _ _) rep_bl m⟩
    · exact q.elim
/-- a product's, a quotient's bound -/
def MulOk (i j : Int) : Prop := CMul i j ∨ CMulW i j
theorem MulOk.left {i j : Int} (h1 : -(2 ^ 64) < i) (h2 : i < 2 ^ 64) : MulOk i j := .inl (.inl ⟨h1, h2⟩)
theorem MulOk.right {i j : Int} (h1 : -(2 ^ 64) < j) (h2 : j < 2 ^ 64) : MulOk i j := .inl (.inr ⟨h1, h2⟩)
def DivOk (_ j : Int) : Prop := 0 < j ∧ j < 2 ^ 64
theorem DivOk.w {i j : Int} (h : DivOk i j) : CDivW i j := by
  obtain ⟨h1, h2⟩ := h
  exact wide_div (b := 64) h1 (by omega) (by decide) (by decide)

/-! ### + -/
def rAdd2 : R2W := fun x y M Q => match x, y with
  | .int i, .int j => Q (.int (i + j)) M
  | .str a, .str b => a.length + b.length ≤ sizeLine ∧ Q (.str (a ++ b)) M
  | .tup xs, .tup ys => xs.length + ys.length ≤ sizeLine ∧ Q (.tup (xs ++ ys)) M
  | .ref a, .ref b => match M a, M b with
    | some (.lst xs), some (.lst ys) => xs.length + ys.length ≤ sizeLine ∧ ∀ p, M p = none → Q (.ref p) (put M p (.lst (xs ++ ys)))
    | _, _ => False
  | _, _ => False
theorem wop_addS : OpW X (binaryOp .Add) fun x y M Q => ∃ a b, x = .str a ∧ y = .str b ∧ a.length + b.length ≤ sizeLine ∧ Q (.str (a ++ b)) M :=
  OpR_imp op_add_str fun x y H Q ⟨wx, wy, M, Qw, rx, ry, m, ⟨a, b, ex, ey, h, q⟩, k⟩ => by
    subst ex ey
    exact ⟨a, b, un_str rx, un_str ry, h, k _ M _ H q (Go.refl _ _) rep_str m⟩
theorem wop_addT : OpW X (binaryOp .Add) fun x y M Q => ∃ xs ys, x = .tup xs ∧ y = .tup ys ∧ xs.length + ys.length ≤ sizeLine ∧ Q (.tup (xs ++ ys)) M :=
  OpR_imp op_catA fun x y H Q ⟨wx, wy, M, Qw, rx, ry, m, ⟨xs, ys, ex, ey, h, q⟩, k⟩ => by
    subst ex ey
    obtain ⟨a, vs, e1, s1, r1⟩ := rx.untup
    obtain ⟨b, us, e2, s2, r2⟩ := ry.untup
    refine ⟨a, b, vs, us, e1, e2, s1, s2, by rw [r1.length, r2.length]; exact h, fun e => ?_, fun n e => ?_, fun n1 n2 p hp => ?_⟩
    · subst e
      have e3 : xs = [] := List.eq_nil_of_length_eq_zero (by rw [← r1.length]; rfl)
      subst e3
      exact k _ M _ H q (Go.refl _ _) (Rep.tup s2 (by simpa using r2)) m
    · subst e
      have e3 : ys = [] := List.eq_nil_of_length_eq_zero (by rw [← r2.length]; rfl)
      subst e3
      exact k _ M _ H q (Go.refl _ _) (Rep.tup s1 (by simpa using r1)) m
    · have g := GoH.new (o := .tup (vs ++ us)) hp
      exact k _ M _ _ q (Go.same (sameNew hp)) (Rep.tup (SqT.of upd_same) ((r1.go g).append (r2.go g))) (m.new hp)
theorem wop_addL : OpW X (binaryOp .Add) fun x y M Q => ∃ a b xs ys, x = .ref a ∧ y = .ref b ∧ M a = some (.lst xs) ∧ M b = some (.lst ys) ∧ xs.length + ys.length ≤ sizeLine ∧ ∀ p, M p = none → Q (.ref p) (put M p (.lst (xs ++ ys))) :=
  OpR_imp op_cat fun x y H Q ⟨wx, wy, M, Qw, rx, ry, m, ⟨a, b, xs, ys, ex, ey, ha, hb, h, q⟩, k⟩ => by
    subst ex ey
    obtain ⟨vs, h1, r1⟩ := m a _ ha
    obtain ⟨us, h2, r2⟩ := m b _ hb
    refine ⟨a, b, vs, us, un_ref rx, un_ref ry, h1, h2, by rw [r1.length, r2.length]; exact h, fun p hp => ?_⟩
    have g := GoH.new (o := .lst (vs ++ us)) hp
    exact k _ _ _ _ (q p (m.free hp)) (Go.new hp) rep_ref (m.put g ⟨_, upd_same, (r1.go g).append (r2.go g)⟩)
theorem w_add : OpW X (binaryOp .Add) rAdd2 :=
  OpW.or (op2I0 op_add) (OpW.or wop_addS (OpW.or wop_addT wop_addL (r'' := fun x y M Q => (∃ xs ys, x = .tup xs ∧ y = .tup ys ∧ xs.length + ys.length ≤ sizeLine ∧ Q (.tup (xs ++ ys)) M) ∨ _) fun _ _ _ _ h => h) (r'' := fun x y M Q => _ ∨ _) fun _ _ _ _ h => h) fun x y M Q h => by
    unfold rAdd2 at h
    split at h
    · exact .inl ⟨trivial, h⟩
    · exact .inr (.inl ⟨_, _, rfl, rfl, h.1, h.2⟩)
    · exact .inr (.inr (.inl ⟨_, _, rfl, rfl, h.1, h.2⟩))
    · split at h
      · rename_i e1 e2
        exact .inr (.inr (.inr ⟨_, _, _, _, rfl, rfl, e1, e2, h.1, h.2⟩))
      · exact h.elim
    · exact h.elim
/-! ### -, *, //, %, **, << -/
def rSub2 : R2W := fun x y M Q => match x, y with
  | .int i, .int j => Q (.int (i - j)) M
  | _, _ => False
theorem w_sub : OpW X (binaryOp .Sub) rSub2 := (op2I0 op_sub).imp fun x y M Q h => by
  unfold rSub2 at h
  split at h
  · exact ⟨trivial, h⟩
  · exact h.elim
def rMul2 : R2W := fun x y M Q => match x, y with
  | .int i, .int j => MulOk i j ∧ Q (.int (i * j)) M
  | .tup xs, .int k => (k ≤ 1000 ∧ xs.length ≤ 1000 ∧ 2 ≤ k ∧ xs ≠ []) ∧ Q (.tup (List.replicate k.toNat xs).flatten) M
  | .ref a, .int k => match M a with
    | some (.lst xs) => (-(2 ^ 63) ≤ k ∧ k < 2 ^ 63 ∧ xs.length * k.toNat ≤ sizeLine) ∧ ∀ p, M p = none → Q (.ref p) (put M p (.lst (List.replicate k.toNat xs).flatten))
    | _ => False
  | _, _ => False
theorem wop_mulI : OpW X (binaryOp .Mult) (r2I MulOk fun i j => .int (i * j)) := OpW.or (op2I op_mul) (op2I op_mulW) fun x y M Q h => by
  unfold r2I at h
  split at h
  · rcases h.1 with c | c
    · exact .inl ⟨c, h.2⟩
    · exact .inr ⟨c, h.2⟩
  · exact h.elim
theorem wop_mulT : OpW X (binaryOp .Mult) fun x y M Q => ∃ xs k, x = .tup xs ∧ y = .int k ∧ (k ≤ 1000 ∧ xs.length ≤ 1000 ∧ 2 ≤ k ∧ xs ≠ []) ∧ Q (.tup (List.replicate k.toNat xs).flatten) M :=
  OpR_imp op_repT fun x y H Q ⟨wx, wy, M, Qw, rx, ry, m, ⟨xs, n, ex, ey, ⟨h1, h2, h3, h4⟩, q⟩, k⟩ => by
    subst ex ey
    obtain ⟨a, vs, e1, s1, r1⟩ := rx.untup
    refine ⟨a, n, vs, e1, un_int ry, s1, fun e => h4 ?_, h3, h1, by rw [r1.length]; exact h2, fun p hp => ?_⟩
    · subst e
      exact List.eq_nil_of_length_eq_zero (by rw [← r1.length]; rfl)
    · exact k _ M _ _ q (Go.same (sameNew hp)) (Rep.tup (SqT.of upd_same) ((r1.go (GoH.new hp)).rep _)) (m.new hp)
theorem wop_mulL : OpW X (binaryOp .Mult) fun x y M Q => ∃ a xs k, x = .ref a ∧ y = .int k ∧ M a = some (.lst xs) ∧ (-(2 ^ 63) ≤ k ∧ k < 2 ^ 63 ∧ xs.length * k.toNat ≤ sizeLine) ∧ ∀ p, M p = none → Q (.ref p) (put M p (.lst (List.replicate k.toNat xs).flatten)) :=
  OpR_imp op_rep fun x y H Q ⟨wx, wy, M, Qw, rx, ry, m, ⟨a, xs, n, ex, ey, ha, ⟨h1, h2, h3⟩, q⟩, k⟩ => by
    subst ex ey
    obtain ⟨vs, e1, r1⟩ := m a _ ha
    refine ⟨a, n, vs, un_ref rx, un_int ry, e1, h1, h2, by rw [r1.length]; exact h3, fun p hp => ?_⟩
    have g := GoH.new (o := .lst (List.replicate n.toNat vs).flatten) hp
    exact k _ _ _ _ (q p (m.free hp)) (Go.new hp) rep_ref (m.put g ⟨_, upd_same, (r1.go g).rep _⟩)
theorem w_mul : OpW X (binaryOp .Mult) rMul2 :=
  OpW.or wop_mulI (OpW.or wop_mulT wop_mulL (r'' := fun x y M Q => _ ∨ _) fun _ _ _ _ h => h) fun x y M Q h => by
    unfold rMul2 at h
    split at h
    · exact .inl h
    · exact .inr (.inl ⟨_, _, rfl, rfl, h.1, h.2⟩)
    · split at h
      · rename_i e1
        exact .inr (.inr ⟨_, _, _, rfl, rfl, e1, h.1, h.2⟩)
      · exact h.elim
    · exact h.elim
def rDiv2 : R2W := fun x y M Q => match x, y with
  | .int i, .int j => DivOk i j ∧ Q (.int (i / j)) M
  | _, _ => False
theorem w_fdiv : OpW X (binaryOp .FloorDiv) rDiv2 := (op2I op_fdivW).imp fun x y M Q h => by
  unfold rDiv2 at h
  split at h
  · exact ⟨h.1.w, h.2⟩
  · exact h.elim
def rMod2 : R2W := fun x y M Q => match x, y with
  | .int i, .int j => 0 < j ∧ Q (.int (i % j)) M
  | _, _ => False
theorem w_mod : OpW X (binaryOp .Mod) rMod2 := (op2I op_mod).imp fun x y M Q h => by
  unfold rMod2 at h
  split at h
  · exact h
  · exact h.elim
def rPow2 : R2W := fun x y M Q => match x, y with
  | .int i, .int j => CPow i j ∧ Q (.int (i ^ j.toNat)) M
  | _, _ => False
theorem w_pow : OpW X (binaryOp .Pow) rPow2 := (op2I op_pow).imp fun x y M Q h => by
  unfold rPow2 at h
  split at h
  · exact h
  · exact h.elim
def rShl2 : R2W := fun x y M Q => match x, y with
  | .int i, .int j => CPow i j ∧ Q (.int (i * 2 ^ j.toNat)) M
  | _, _ => False
theorem w_shl : OpW X (binaryOp .LShift) rShl2 := (op2I op_shl).imp fun x y M Q h => by
  unfold rShl2 at h
  split at h
  · exact h
  · exact h.elim
def rShr2 : R2W := fun x y M Q => match x, y with
  | .int i, .int j => 0 ≤ j ∧ Q (.int (i / 2 ^ j.toNat)) M
  | _, _ => False
theorem w_shr : OpW X (binaryOp .RShift) rShr2 := (op2I op_shr).imp fun x y M Q h => by
  unfold rShr2 at h
  split at h
  · exact h
  · exact h.elim
def rNeg1 : R1W := fun x M Q => match x with
  | .int i => Q (.int (-i)) M
  | _ => False
theorem w_neg : UnW X (unaryOp .USub) rNeg1 := UnR_imp un_neg fun x H Q ⟨wx, M, Qw, rx, m, q, k⟩ => by
  unfold rNeg1 at q
  split at q
  · rename_i i
    exact ⟨i, un_int rx, k _ M _ H q (Go.refl _ _) rep_int m⟩
  · exact q.elim
def rIAdd2 : R2W := fun x y M Q => match x, y with
  | .int i, .int j => Q (.int (i + j)) M
  | .str a, .str b => a.length + b.length ≤ sizeLine ∧ Q (.str (a ++ b)) M
  | _, _ => False
theorem w_iadd : OpW X (inplaceOp .Add) rIAdd2 := OpW.or (op2I0 iop_add) (r' := fun x y M Q => ∃ a b, x = .str a ∧ y = .str b ∧ a.length + b.length ≤ sizeLine ∧ Q (.str (a ++ b)) M)
  (OpR_imp iop_add_str fun x y H Q ⟨wx, wy, M, Qw, rx, ry, m, ⟨a, b, ex, ey, h, q⟩, k⟩ => by
    subst ex ey
    exact ⟨a, b, un_str rx, un_str ry, h, k _ M _ H q (Go.refl _ _) rep_str m⟩) fun x y M Q h => by
  unfold rIAdd2 at h
  split at h
  · exact .inl ⟨trivial, h⟩
  · exact .inr ⟨_, _, rfl, rfl, h.1, h.2⟩
  · exact h.elim
theorem w_isub : OpW X (inplaceOp .Sub) rSub2 := (op2I0 iop_sub).imp fun x y M Q h => by
  unfold rSub2 at h
  split at h
  · exact ⟨trivial, h⟩
  · exact h.elim
theorem w_imul : OpW X (inplaceOp .Mult) (r2I CMul fun i j => .int (i * j)) := op2I iop_mul

/-! ### data -/
mutual
/-- a value without addresses, as data -/
def pd : W → PyData
  | .non => .none
  | .bl b => .bool b
  | .int i => .int i
  | .str x => .str x
  | .ref _ => .none
  | .cl _ => .none
  | .tup ws => .tuple (pds ws)
def pds : List W → List PyData
  | [] => []
  | w :: ws => pd w :: pds ws
end
mutual
def nr : W → Bool
  | .ref _ => false
  | .cl _ => false
  | .str x => PyData.strOk x
  | .tup ws => nrs ws
  | _ => true
def nrs : List W → Bool
  | [] => true
  | w :: ws => nr w && nrs ws
end
/-- values as data, with the lists that are live -/
def Dw (M : Me) : PyData → W → Prop
  | .none, w => w = .non
  | .bool b, w => w = .bl b
  | .int i, w => w = .int i
  | .str x, w => w = .str x
  | .tuple ds, w => ∃ ws, w = .tup ws ∧ Dws ds ws
  | .list ds, w => ∃ a ws, w = .ref a ∧ rdl (M a) = some ws ∧ Dws ds ws
  | .dict _, _ => False
where Dws : List PyData → List W → Prop
  | [], ws => ws = []
  | d :: ds, ws => ∃ w r, ws = w :: r ∧ Dw M d w ∧ Dws ds r
mutual
theorem pd_dw {M : Me} : ∀ w : W, nr w = true → Dw M (pd w) w
  | .non, _ => by unfold pd Dw; rfl
  | .bl _, _ => by unfold pd Dw; rfl
  | .int _, _ => by unfold pd Dw; rfl
  | .str _, _ => by unfold pd Dw; rfl
  | .ref _, h => by unfold nr at h; cases h
  | .cl _, h => by unfold nr at h; cases h
  | .tup ws, h => by unfold pd Dw; exact ⟨ws, rfl, pds_dw ws (by unfold nr at h; exact h)⟩
theorem pds_dw {M : Me} : ∀ ws : List W, nrs ws = true → Dw.Dws M (pds ws) ws
  | [], _ => by unfold pds Dw.Dws; rfl
  | w :: ws, h => by
    unfold nrs at h
    rw [Bool.and_eq_true] at h
    unfold pds Dw.Dws
    exact ⟨w, ws, rfl, pd_dw w h.1, pds_dw ws h.2⟩
end
mutual
theorem dw_dp {M : Me} (m : Mo B H M) : ∀ (d : PyData) (w : W) (v : V), Dw M d w → Rep B.K H w v → Dp B.K H v d
  | .none, w, v, h, r => by unfold Dw at h; subst h; rw [un_non r]; exact .non
  | .bool b, w, v, h, r => by unfold Dw at h; subst h; rw [un_bl r]; exact .bl b
  | .int i, w, v, h, r => by unfold Dw at h; subst h; rw [un_int r]; exact .int i
  | .str x, w, v, h, r => by unfold Dw at h; subst h; rw [un_str r]; exact .str x
  | .tuple ds, w, v, h, r => by
    unfold Dw at h
    obtain ⟨ws, e, hs⟩ := h
    subst e
    obtain ⟨a, vs, e, s, rs⟩ := r.untup
    subst e
    exact .tup s (dws_dp m ds ws vs hs rs)
  | .list ds, w, v, h, r => by
    unfold Dw at h
    obtain ⟨a, ws, e, hr, hs⟩ := h
    subst e
    rw [un_ref r]
    obtain ⟨vs, s, rs⟩ := rdl_sq m hr
    exact .lst s (dws_dp m ds ws vs hs rs)
  | .dict _, w, v, h, r => by unfold Dw at h; exact h.elim
theorem dws_dp {M : Me} (m : Mo B H M) : ∀ (ds : List PyData) (ws : List W) (vs : List V), Dw.Dws M ds ws → Reps B.K H ws vs → DpAll B.K H vs ds
  | [], ws, vs, h, r => by
    unfold Dw.Dws at h
    subst h
    rw [r.unnil]
    exact .nil
  | d :: ds, ws, vs, h, r => by
    unfold Dw.Dws at h
    obtain ⟨w, wr, e, h1, h2⟩ := h
    subst e
    obtain ⟨v, vr, e, r1, r2⟩ := r.uncons
    subst e
    exact .cons (dw_dp m d w v h1 r1) (dws_dp m ds wr vr h2 r2)
end
mutual
theorem nr_lay : ∀ w : W, nr w = true → (pd w).canLay0 = true
  | .non, _ => by simp [pd, PyData.canLay0]
  | .bl _, _ => by simp [pd, PyData.canLay0]
  | .int _, _ => by simp [pd, PyData.canLay0]
  | .str _, h => by
    unfold nr at h
    simpa [pd, PyData.canLay0] using h
  | .ref _, _ => by simp [pd, PyData.canLay0]
  | .cl _, _ => by simp [pd, PyData.canLay0]
  | .tup ws, h => by
    unfold nr at h
    unfold pd
    simp only [PyData.canLay0]
    exact nrs_lay ws h
theorem nrs_lay : ∀ ws : List W, nrs ws = true → PyData.canLayAll0 (pds ws) = true
  | [], _ => by simp [pds, PyData.canLayAll0]
  | w :: ws, h => by
    unfold nrs at h
    rw [Bool.and_eq_true] at h
    unfold pds
    simp only [PyData.canLayAll0, nr_lay w h.1, nrs_lay ws h.2, Bool.and_self]
end
mutual
def dp : W → Nat
  | .tup ws => dps ws + 1
  | _ => 0
def dps : List W → Nat
  | [] => 0
  | w :: ws => max (dp w) (dps ws)
end
mutual
theorem dp_depth : ∀ w : W, (pd w).depth = dp w
  | .non => by simp [pd, PyData.depth, dp]
  | .bl _ => by simp [pd, PyData.depth, dp]
  | .int _ => by simp [pd, PyData.depth, dp]
  | .str _ => by simp [pd, PyData.depth, dp]
  | .ref _ => by simp [pd, PyData.depth, dp]
  | .cl _ => by simp [pd, PyData.depth, dp]
  | .tup ws => by
    unfold pd dp
    simp only [PyData.depth, dps_depth ws]
    try omega
theorem dps_depth : ∀ ws : List W, PyData.depthAll (pds ws) = dps ws
  | [] => by simp [pds, PyData.depthAll, dps]
  | w :: ws => by
    unfold pds dps
    simp only [PyData.depthAll, dp_depth w, dps_depth ws]
end
/-- plain data: no address, not too deep -/
def flt (w : W) : Bool := nr w && decide (dp w ≤ 60)
def flts (ws : List W) : Bool := nrs ws && decide (dps ws ≤ 60)
theorem flt_shaped {w : W} (h : flt w = true) : SeqAt.shaped (pd w) = true := by
  unfold flt at h
  rw [Bool.and_eq_true, decide_eq_true_eq] at h
  show ((pd w).canLay0 && decide ((pd w).depth ≤ 64)) = true
  rw [nr_lay w h.1, dp_depth w, decide_eq_true (by omega)]
  rfl
theorem flts_shaped {ws : List W} (h : flts ws = true) : SeqAt.shaped (.list (pds ws)) = true := by
  unfold flts at h
  rw [Bool.and_eq_true, decide_eq_true_eq] at h
  show (PyData.canLay0 (.list (pds ws)) && decide (PyData.depth (.list (pds ws)) ≤ 64)) = true
  simp only [PyData.canLay0, PyData.depth, nrs_lay ws h.1, dps_depth ws, Bool.true_and, decide_eq_true_eq]
  omega
/-- == of plain data -/
def weq (x y : W) : Bool := PyData.eqv (pd x) (pd y)
def weqs (xs ys : List W) : Bool := PyData.eqvAll (pds xs) (pds ys)
/-- == -/
def rEqS (M : Me) (x y : W) (Q : Bool → Prop) : Prop := match x, y with
  | .int i, .int j => Q (decide (i = j))
  | .bl a, .bl b => Q (decide (a = b))
  | .str a, .str b => Q (decide (a = b))
  | .ref a, .ref b => match rdl (M a), rdl (M b) with
    | some xs, some [] => Q xs.isEmpty
    | some xs, some ys => (flts xs && flts ys) = true ∧ Q (weqs xs ys)
    | _, _ => False
  | x, y => (flt x && flt y) = true ∧ Q (weq x y)
def rEq2 : R2W := fun x y M Q => rEqS M x y fun b => Q (.bl b) M
def rNe2 : R2W := fun x y M Q => rEqS M x y fun b => Q (.bl (!b)) M
/-- == told by any data -/
def rEqD2 : R2W := fun x y M Q => ∃ d e, Dw M d x ∧ Dw M e y ∧ SeqAt.shaped d = true ∧ SeqAt.shaped e = true ∧ Q (.bl (PyData.eqv d e)) M
def rNeD2 : R2W := fun x y M Q => ∃ d e, Dw M d x ∧ Dw M e y ∧ SeqAt.shaped d = true ∧ SeqAt.shaped e = true ∧ Q (.bl (!PyData.eqv d e)) M
theorem w_eqD (hu : X.A.units + 64 < cLine) : OpW X (compareOp .Eq) rEqD2 := OpR_imp (op_eqD hu) fun x y H Q ⟨wx, wy, M, Qw, rx, ry, m, ⟨d, e, h1, h2, s1, s2, q⟩, k⟩ =>
  ⟨d, e, dw_dp m d wx x h1 rx, dw_dp m e wy y h2 ry, s1, s2, k _ M _ H q (Go.refl _ _) rep_bl m⟩
theorem w_neD (hu : X.A.units + 64 < cLine) : OpW X (compareOp .NotEq) rNeD2 := OpR_imp (op_neD hu) fun x y H Q ⟨wx, wy, M, Qw, rx, ry, m, ⟨d, e, h1, h2, s1, s2, q⟩, k⟩ =>
  ⟨d, e, dw_dp m d wx x h1 rx, dw_dp m e wy y h2 ry, s1, s2, k _ M _ H q (Go.refl _ _) rep_bl m⟩
theorem eqS_D {M : Me} {x y : W} {Q : Bool → Prop} (h : rEqS M x y Q) : (∃ a b, x = .str a ∧ y = .str b ∧ Q (decide (a = b))) ∨ (∃ a xs, x = .ref a ∧ rdl (M a) = some xs ∧ ∃ b, y = .ref b ∧ rdl (M b) = some [] ∧ Q xs.isEmpty) ∨
    ∃ d e, Dw M d x ∧ Dw M e y ∧ SeqAt.shaped d = true ∧ SeqAt.shaped e = true ∧ Q (PyData.eqv d e) := by
  have sc : ∀ {d e : PyData} {q : Bool}, Dw M d x → Dw M e y → SeqAt.shaped d = true → SeqAt.shaped e = true → PyData.eqv d e = q → Q q → ∃ d e, Dw M d x ∧ Dw M e y ∧ SeqAt.shaped d = true ∧ SeqAt.shaped e = true ∧ Q (PyData.eqv d e) :=
    fun {d e q} h1 h2 h3 h4 h5 h6 => ⟨d, e, h1, h2, h3, h4, by rw [h5]; exact h6⟩
  unfold rEqS at h
  split at h
  · rename_i i j
    exact .inr (.inr (sc (d := .int i) (e := .int j) (by unfold Dw; rfl) (by unfold Dw; rfl) rfl rfl (by simp [PyData.eqv, Bool.beq_eq_decide_eq]) h))
  · rename_i i j
    exact .inr (.inr (sc (d := .bool i) (e := .bool j) (by unfold Dw; rfl) (by unfold Dw; rfl) rfl rfl (by simp [PyData.eqv, Bool.beq_eq_decide_eq]) h))
  · exact .inl ⟨_, _, rfl, rfl, h⟩
  · rename_i a b
    split at h
    · rename_i xs e1 e2
      exact .inr (.inl ⟨a, xs, rfl, e1, b, rfl, e2, h⟩)
    · rename_i xs ys _ e1 e2
      obtain ⟨hf, h⟩ := h
      rw [Bool.and_eq_true] at hf
      have n1 : nrs xs = true := by have := hf.1; unfold flts at this; rw [Bool.and_eq_true] at this; exact this.1
      have n2 : nrs ys = true := by have := hf.2; unfold flts at this; rw [Bool.and_eq_true] at this; exact this.1
      exact .inr (.inr (sc (d := .list (pds xs)) (e := .list (pds ys)) (by unfold Dw; exact ⟨a, xs, rfl, e1, pds_dw xs n1⟩) (by unfold Dw; exact ⟨b, ys, rfl, e2, pds_dw ys n2⟩) (flts_shaped hf.1) (flts_shaped hf.2) (by simp only [PyData.eqv]; rfl) h))
    · exact h.elim
  · obtain ⟨hf, h⟩ := h
    rw [Bool.and_eq_true] at hf
    have n1 : nr x = true := by have := hf.1; unfold flt at this; rw [Bool.and_eq_true] at this; exact this.1
    have n2 : nr y = true := by have := hf.2; unfold flt at this; rw [Bool.and_eq_true] at this; exact this.1
    exact .inr (.inr (sc (pd_dw x n1) (pd_dw y n2) (flt_shaped hf.1) (flt_shaped hf.2) rfl h))
/-- a list against the empty one -/
theorem empty_cmp {op : CmpOp} {f : Bool → Bool} (hu : X.A.units < cLine)
    (rE : ∀ {E : Value → Shared → Prop} {s : Shared} {l b : Addr} {i1 i2 : Array Value} {e : Nat → Bool} {Q : Value → Shared → Prop}, s.heap.IsList l i1 → s.heap.IsList b i2 → i1.size = i2.size → (∀ j (h1 : j < i1.size) (h2 : j < i2.size), SeqAt.EqAt X.A.in1 s i1[j] i2[j] (e j)) → Q (.bool (f ((List.range i1.size).all e))) s → wpAny (model X.prog X.w) X.A (compareOp op (.ref l) (.ref b)) Q E s)
    (rL : ∀ {E : Value → Shared → Prop} {s : Shared} {l b : Addr} {i1 i2 : Array Value} {Q : Value → Shared → Prop}, s.heap.IsList l i1 → s.heap.IsList b i2 → (i1.size != i2.size) = true → Q (.bool (f false)) s → wpAny (model X.prog X.w) X.A (compareOp op (.ref l) (.ref b)) Q E s) :
    OpW X (compareOp op) fun x y M Q => ∃ a xs, x = .ref a ∧ rdl (M a) = some xs ∧ ∃ b, y = .ref b ∧ rdl (M b) = some [] ∧ Q (.bl (f xs.isEmpty)) M := by
  intro pins s σ H x y v u Q I rx ry ⟨wx, wy, M, Qw, r1, r2, m, ⟨a, xs, e1, h1, b, e2, h2, q⟩, k⟩
  subst e1 e2
  have e3 := un_ref r1
  have e4 := un_ref r2
  subst e3 e4
  cases rx
  cases ry
  obtain ⟨vs, s1, rs1⟩ := rdl_sq m h1
  obtain ⟨us, s2, rs2⟩ := rdl_sq m h2
  obtain ⟨i1, v1, p1, _⟩ := I.list s1
  obtain ⟨i2, v2, p2, _⟩ := I.list s2
  have l1 := v1.length
  have l2 := v2.length
  rw [rs1.length] at l1
  rw [rs2.length] at l2
  have fin : ∀ c : Bool, c = xs.isEmpty → EP X pins σ Q (.bool (f c)) s := fun c hc => ⟨.bl (f c), H, I, rfl, k _ M _ H (by rw [hc]; exact q) (Go.refl _ _) rep_bl m⟩
  cases xs with
  | nil =>
    refine rE (e := fun _ => true) p1.isList p2.isList (by simpa using (l1.symm.trans l2)) (fun j h3 h4 => ?_) (fin _ ?_)
    · simp at h3 l1
      omega
    · simp at l1 ⊢
  | cons w ws =>
    refine rL p1.isList p2.isList ?_ (fin false rfl)
    rw [bne_iff_ne]
    simp at l1 l2 ⊢
    omega
theorem w_eqT : OpW X (compareOp .Eq) fun x y M Q => ∃ a b, x = .str a ∧ y = .str b ∧ Q (.bl (decide (a = b))) M :=
  OpR_imp op_eq fun x y H Q ⟨wx, wy, M, Qw, rx, ry, m, ⟨a, b, ex, ey, q⟩, k⟩ => by
    subst ex ey
    have e1 := un_str rx
    have e2 := un_str ry
    subst e1 e2
    have e : decide (V.str a = V.str b) = decide (a = b) := by
      by_cases z : a = b
      · subst z; simp
      · rw [decide_eq_false z, decide_eq_false (fun q => z (by injection q))]
    refine ⟨rfl, ?_⟩
    rw [e]
    exact k _ M _ H q (Go.refl _ _) rep_bl m
theorem w_neT : OpW X (compareOp .NotEq) fun x y M Q => ∃ a b, x = .str a ∧ y = .str b ∧ Q (.bl (!decide (a = b))) M :=
  OpR_imp op_ne fun x y H Q ⟨wx, wy, M, Qw, rx, ry, m, ⟨a, b, ex, ey, q⟩, k⟩ => by
    subst ex ey
    have e1 := un_str rx
    have e2 := un_str ry
    subst e1 e2
    have e : decide (V.str a = V.str b) = decide (a = b) := by
      by_cases z : a = b
      · subst z; simp
      · rw [decide_eq_false z, decide_eq_false (fun q => z (by injection q))]
    refine ⟨rfl, ?_⟩
    rw [e]
    exact k _ M _ H q (Go.refl _ _) rep_bl m
theorem w_eq (hu : X.A.units + 64 < cLine) : OpW X (compareOp .Eq) rEq2 :=
  OpW.or w_eqT (OpW.or (empty_cmp (f := fun c => c) (by omega) (fun h1 h2 h3 h4 h5 => SeqAt.eq_listAt h1 h2 h3 (by omega) h4 h5) (fun h1 h2 h3 h4 => SeqAt.eq_list_lengthsAt h1 h2 h3 (by omega) h4)) (w_eqD hu) (r'' := fun x y M Q => _ ∨ _) fun _ _ _ _ h => h) fun x y M Q h => eqS_D h
theorem w_ne (hu : X.A.units + 64 < cLine) : OpW X (compareOp .NotEq) rNe2 :=
  OpW.or w_neT (OpW.or (empty_cmp (f := fun c => !c) (by omega) (fun h1 h2 h3 h4 h5 => SeqAt.RcNeAt.lists h1 h2 h3 (by omega) h4 _ _ _ _ h5) (fun h1 h2 h3 h4 => SeqAt.RcNeAt.lists_lengths h1 h2 h3 (by omega) _ _ _ _ h4)) (w_neD hu) (r'' := fun x y M Q => _ ∨ _) fun _ _ _ _ h => h) fun x y M Q h => eqS_D h
end
end PV
set_option maxHeartbeats 1000000
/-! PV: order, identity, membership, subscripts, slices, stores. -/
namespace PV
open PySem PySem.Spec PyProof.Rows L2

section
variable {X : Cx} {B : Kx} {K : PySem.W.Frag} {H : Hp} {M : Me}
/-! ### order of whole numbers -/
def rI2 (g : Int → Int → Bool) : R2W := fun x y M Q => match x, y with
  | .int i, .int j => Q (.bl (g i j)) M
  | _, _ => False
theorem opI2 {f : Value → Value → Sem Value} {g : Int → Int → Bool} (h : OpR X f (rI0 fun i j => .bl (g i j))) : OpW X f (rI2 g) := (op2B0 h).imp fun x y M Q h => by
  unfold rI2 at h
  split at h
  · exact ⟨trivial, h⟩
  · exact h.elim
def rLt2 : R2W := rI2 fun i j => decide (i < j)
def rLe2 : R2W := rI2 fun i j => decide (i ≤ j)
def rGt2 : R2W := rI2 fun i j => decide (j < i)
def rGe2 : R2W := rI2 fun i j => decide (j ≤ i)
theorem w_lt : OpW X (compareOp .Lt) rLt2 := opI2 op_lt
theorem w_le : OpW X (compareOp .LtE) rLe2 := opI2 op_le
theorem w_gt : OpW X (compareOp .Gt) rGt2 := opI2 op_gt
theorem w_ge : OpW X (compareOp .GtE) rGe2 := opI2 op_ge
/-! ### is -/
def isN : W → Bool
  | .non => true
  | _ => false
theorem isN_V {w : W} {v : V} (r : Rep K H w v) : decide (v = .non) = isN w := by
  cases w with
  | non => rw [un_non r]; rfl
  | bl b => rw [un_bl r]; rfl
  | int i => rw [un_int r]; rfl
  | str x => rw [un_str r]; rfl
  | ref a => rw [un_ref r]; rfl
  | cl ws =>
    obtain ⟨a, vs, e, _, _⟩ := r.uncl
    rw [e]; rfl
  | tup ws =>
    obtain ⟨a, vs, e, _, _⟩ := r.untup
    rw [e]; rfl
def rIsS (x y : W) (Q : Bool → Prop) : Prop := match y, x with
  | .non, x => Q (isN x)
  | .bl b, .bl a => Q (decide (a = b))
  | _, _ => False
def rIs2 : R2W := fun x y M Q => rIsS x y fun b => Q (.bl b) M
def rIsNot2 : R2W := fun x y M Q => rIsS x y fun b => Q (.bl (!b)) M
theorem w_is : OpW X (compareOp .Is) rIs2 := OpR_imp (OpR.or op_isN op_isBl) fun x y H Q ⟨wx, wy, M, Qw, rx, ry, m, q, k⟩ => by
  unfold rIs2 rIsS at q
  split at q
  · refine .inl ⟨un_non ry, ?_⟩
    rw [isN_V rx]
    exact k _ M _ H q (Go.refl _ _) rep_bl m
  · exact .inr ⟨_, _, un_bl rx, un_bl ry, k _ M _ H q (Go.refl _ _) rep_bl m⟩
  · exact q.elim
theorem w_isnot : OpW X (compareOp .IsNot) rIsNot2 := OpR_imp (OpR.or op_notN op_notBl) fun x y H Q ⟨wx, wy, M, Qw, rx, ry, m, q, k⟩ => by
  unfold rIsNot2 rIsS at q
  split at q
  · refine .inl ⟨un_non ry, ?_⟩
    rw [isN_V rx]
    exact k _ M _ H q (Go.refl _ _) rep_bl m
  · exact .inr ⟨_, _, un_bl rx, un_bl ry, k _ M _ H q (Go.refl _ _) rep_bl m⟩
  · exact q.elim
/-! ### look-ups -/
section
variable {κ β : Type} [DecidableEq κ]
def look (kvs : List (κ × β)) (k : κ) : Option β := (kvs.find? fun kv => decide (kv.1 = k)).map (·.2)
def place (kvs : List (κ × β)) (k : κ) (v : β) : List (κ × β) := if (look kvs k).isSome = true then kvs.map (fun kv => if kv.1 = k then (kv.1, v) else kv) else kvs ++ [(k, v)]
theorem look_nil {k : κ} : look ([] : List (κ × β)) k = none := rfl
theorem look_cons {p : κ × β} {r : List (κ × β)} {k : κ} : look (p :: r) k = if p.1 = k then some p.2 else look r k := by
  unfold look
  rw [List.find?_cons]
  by_cases h : p.1 = k
  · simp [h]
  · simp [h]
theorem look_any (k : κ) : ∀ kvs : List (κ × β), (kvs.any fun kv => decide (kv.1 = k)) = (look kvs k).isSome
  | [] => rfl
  | p :: r => by
    rw [List.any_cons, look_cons, look_any k r]
    by_cases h : p.1 = k
    · simp [h]
    · simp [h]
end
theorem look_rel {κ : Type} [DecidableEq κ] {kvs : List (κ × W)} {xs : List (κ × V)} (h : Paired (fun p x => p.1 = x.1 ∧ Rep K H p.2 x.2) kvs xs) (k : κ) :
    (look kvs k = none ∧ valV xs k = none) ∨ ∃ w v, look kvs k = some w ∧ valV xs k = some v ∧ Rep K H w v := by
  induction h with
  | nil => exact .inl ⟨rfl, rfl⟩
  | @cons p x ps xs r _ ih =>
    obtain ⟨e, rp⟩ := r
    by_cases z : p.1 = k
    · refine .inr ⟨p.2, x.2, ?_, ?_, rp⟩
      · rw [look_cons, if_pos z]
      · rw [valV_pos (by rw [← e]; exact z)]
    · rw [look_cons, if_neg z, valV_neg (by rw [← e]; exact z)]
      exact ih
theorem place_rel {κ : Type} [DecidableEq κ] {kvs : List (κ × W)} {xs : List (κ × V)} (h : Paired (fun p x => p.1 = x.1 ∧ Rep K H p.2 x.2) kvs xs) (k : κ) {w : W} {v : V} (r : Rep K H w v) :
    Paired (fun p x => p.1 = x.1 ∧ Rep K H p.2 x.2) (place kvs k w) (putK xs k v) := by
  unfold place putK
  have e : (look kvs k).isSome = xs.any fun kv => decide (kv.1 = k) := by
    rw [← look_any]
    clear r
    induction h with
    | nil => rfl
    | cons q _ ih => rw [List.any_cons, List.any_cons, ih, q.1]
  rw [e]
  split
  · clear e
    rename_i hh
    clear hh
    induction h with
    | nil => exact .nil
    | @cons p x ps xs q _ ih =>
      rw [List.map_cons, List.map_cons]
      refine .cons ?_ ih
      rw [q.1]
      split
      · exact ⟨rfl, r⟩
      · exact q
  · clear e
    rename_i hh
    clear hh
    induction h with
    | nil => exact .cons ⟨rfl, r⟩ .nil
    | cons q _ ih => exact .cons q ih
/-- a key of a dict of whole numbers and texts -/
def wkey : W → Option Key
  | .int i => some (.inl i)
  | .str x => some (.inr x)
  | _ => none
theorem wkey_V {w : W} {v : V} {k : Key} (h : wkey w = some k) (r : Rep K H w v) : v = kV k := by
  cases w with
  | int i => cases h; exact un_int r
  | str x => cases h; exact un_str r
  | _ => cases h
def rdK : Option Ob → Option (List (Key × W))
  | some (.dK kvs) => some kvs
  | some (.lkK kvs) => some kvs
  | _ => none
theorem rdK_rd {a : Addr} {kvs : List (Key × W)} (m : Mo B H M) (h : rdK (M a) = some kvs) : ∃ xs, Rd H a (.dK xs) ∧ Paired (KRow B H) kvs xs := by
  cases e : M a with
  | none => rw [e] at h; cases h
  | some o =>
    rw [e] at h
    cases o with
    | dK ks =>
      have e2 : ks = kvs := by simpa [rdK] using h
      subst e2
      obtain ⟨xs, h1, h2⟩ := m a _ e
      exact ⟨xs, .inl h1, h2⟩
    | lkK ks =>
      have e2 : ks = kvs := by simpa [rdK] using h
      subst e2
      obtain ⟨o, xs, h1, h2⟩ := m a _ e
      exact ⟨xs, .inr ⟨o, h1⟩, h2⟩
    | _ => simp [rdK] at h
/-! ### in -/
def flatW : W → Bool
  | .non => true
  | .bl _ => true
  | .int _ => true
  | .str _ => true
  | _ => false
def fv : W → V
  | .non => .non
  | .bl b => .bl b
  | .int i => .int i
  | .str x => .str x
  | .ref a => .ref a
  | .tup _ => .non
  | .cl _ => .non
def eqF : W → W → Bool
  | .non, .non => true
  | .bl a, .bl b => a == b
  | .bl a, .int b => (if a then 1 else 0) == b
  | .int a, .bl b => a == (if b then 1 else 0)
  | .int a, .int b => decide (a = b)
  | .str a, .str b => decide (a = b)
  | _, _ => false
theorem eqF_V (x y : W) (hx : flatW x = true) (hy : flatW y = true) : eqV (fv x) (fv y) = eqF x y := by
  cases x <;> cases y <;> first | rfl | (simp [flatW] at hx hy; done) | (simp [fv, eqV, eqF, Bool.beq_eq_decide_eq]; done) | skip
theorem fv_rep {w : W} {v : V} (h : flatW w = true) (r : Rep K H w v) : v = fv w ∧ flatV v = true := by
  cases w with
  | non => exact ⟨un_non r, by rw [un_non r]; rfl⟩
  | bl b => exact ⟨un_bl r, by rw [un_bl r]; rfl⟩
  | int i => exact ⟨un_int r, by rw [un_int r]; rfl⟩
  | str x => exact ⟨un_str r, by rw [un_str r]; rfl⟩
  | _ => cases h
theorem fvs_rep : ∀ {ws : List W} {vs : List V}, ws.all flatW = true → Reps K H ws vs → vs = ws.map fv ∧ vs.all flatV = true
  | [], _, _, r => by rw [r.unnil]; exact ⟨rfl, rfl⟩
  | w :: ws, vs, h, r => by
    rw [List.all_cons, Bool.and_eq_true] at h
    obtain ⟨v, vr, e, r1, r2⟩ := r.uncons
    obtain ⟨e1, f1⟩ := fv_rep h.1 r1
    obtain ⟨e2, f2⟩ := fvs_rep h.2 r2
    subst e
    refine ⟨by rw [List.map_cons, e1, e2], by rw [List.all_cons, f1, f2]; rfl⟩
def inW (x : W) (xs : List W) : Bool := xs.any fun y => eqF y x
theorem inW_V {x : W} {xs : List W} (hx : flatW x = true) : xs.all flatW = true → inV (fv x) (xs.map fv) = inW x xs := by
  intro h
  unfold inV inW
  rw [List.any_map]
  induction xs with
  | nil => rfl
  | cons y r ih =>
    rw [List.all_cons, Bool.and_eq_true] at h
    rw [List.any_cons, List.any_cons, ih h.2]
    have e : ((fun y => eqV y (fv x)) ∘ fv) y = eqF y x := eqF_V y x h.1 hx
    rw [e]
def rdN : Option Ob → Option (List (W × W))
  | some (.dN kvs) => some kvs
  | some (.lkN kvs) => some kvs
  | _ => none
def lookN (kvs : List (W × W)) (k : W) : Option W := (kvs.find? fun p => decide (nk p.1 = nk k)).map (·.2)
def placeN (kvs : List (W × W)) (k v : W) : List (W × W) := if (lookN kvs k).isSome = true then kvs.map (fun p => if nk p.1 = nk k then (p.1, v) else p) else kvs ++ [(k, v)]
def rInS (M : Me) (x y : W) (Q : Bool → Prop) : Prop := match y with
  | .tup xs => (flatW x && xs.all flatW) = true ∧ Q (inW x xs)
  | .str z => match x with
    | .str a => match a.cps.toList with
      | [c] => Q (decide (c ∈ z.cps.toList))
      | _ => False
    | _ => False
  | .ref a => match M a with
    | some (.lst xs) => (flatW x && xs.all flatW) = true ∧ Q (inW x xs)
    | some (.dK kvs) => match wkey x with
      | some k => Q (look kvs k).isSome
      | none => False
    | some (.lkK kvs) => match wkey x with
      | some k => Q (look kvs k).isSome
      | none => False
    | some (.dN kvs) => KeyOk x ∧ Q (lookN kvs x).isSome
    | some (.lkN kvs) => KeyOk x ∧ Q (lookN kvs x).isSome
    | _ => False
  | _ => False
def rIn2 : R2W := fun x y M Q => rInS M x y fun b => Q (.bl b) M
def rNotIn2 : R2W := fun x y M Q => rInS M x y fun b => Q (.bl (!b)) M
/-- dicts whose keys are tuples: the raw rows -/
theorem nest_is {pins : List (Addr × Obj)} {σ : L2.St} {s : Shared} (I : Inv X pins σ H s) : ∀ {w : W} {v : V} {u : Value}, kr w = true → Rep X.K H w v → RelV v u → NestedIs s.heap (nk w) u
  | .non, v, u, _, r, ru => by rw [un_non r] at ru; cases ru; unfold nk; exact .none
  | .bl b, v, u, _, r, ru => by rw [un_bl r] at ru; cases ru; unfold nk; exact .bool rfl
  | .int i, v, u, _, r, ru => by rw [un_int r] at ru; obtain ⟨t, rfl⟩ := ru; unfold nk; exact .int i t
  | .str x, v, u, _, r, ru => by rw [un_str r] at ru; obtain ⟨t, rfl⟩ := ru; unfold nk; exact .text x t
  | .ref a, v, u, h, _, _ => by unfold kr at h; cases h
  | .cl a, v, u, h, _, _ => by unfold kr at h; cases h
  | .tup ws, v, u, h, r, ru => by
    unfold kr at h
    obtain ⟨a, vs, e, sq, rs⟩ := r.untup
    subst e
    cases ru
    obtain ⟨us, rv, ⟨o, e1, e2, n, e3⟩, _⟩ := I.tuple sq
    unfold nk
    exact .tup e1 e2 e3 (by simpa using nests I ws vs us h rs rv)
where nests {pins : List (Addr × Obj)} {σ : L2.St} {s : Shared} (I : Inv X pins σ H s) : ∀ (ws : List W) (vs : List V) (us : List Value), krs ws = true → Reps X.K H ws vs → Vals vs us → NestedAll s.heap (nks ws) us
  | [], vs, us, _, r, ru => by rw [r.unnil] at ru; cases ru; unfold nks; exact .nil
  | w :: ws, vs, us, h, r, ru => by
    unfold krs at h
    rw [Bool.and_eq_true] at h
    obtain ⟨v, vr, e, r1, r2⟩ := r.uncons
    subst e
    cases ru with
    | cons q1 q2 => unfold nks; exact .cons (nest_is I h.1 r1 q1) (nests I ws vr _ h.2 r2 q2)

/-- what the raw rows give: the library's own word -/
theorem n_of {pins : List (Addr × Obj)} {σ : L2.St} {s : Shared} (I : Inv X pins σ H s) {a : Addr} {es : Array DictEntry} {kvs : List (W × W)} (rd : Rd H a (.ext (DRaw a es))) (n : NDict X.kx H kvs es) :
    ∃ xs, Paired (NRow X.kx H) kvs xs ∧ s.heap.DictOfH (nestedKind X.prog X.w) a xs := by
  obtain ⟨sz, xs, p, e, nd⟩ := n
  obtain ⟨⟨o, ep, h1, h2, h3⟩, _, _⟩ := rd.ok I.hok
  refine ⟨xs, p, o, es, ep, h1, h2, h3, e, fun x hx => ?_, nd⟩
  have aux : ∀ {ps : List (W × W)} {ys : List (NestedKey × Addr × Value)}, Paired (NRow X.kx H) ps ys → ∀ y ∈ ys, (nestedKind X.prog X.w).is s.heap y.1 y.2.1 := by
    intro ps ys q
    induction q with
    | nil => intro y hy; cases hy
    | cons r _ ih =>
      intro y hy
      rcases List.mem_cons.mp hy with z | z
      · subst z
        obtain ⟨e1, r1, ⟨_, k1, k2⟩, _⟩ := r
        rw [e1]
        exact ⟨nest_is I k1 r1 rfl, k2⟩
      · exact ih y z
  exact aux p x hx
theorem n_key {pins : List (Addr × Obj)} {σ : L2.St} {s : Shared} (I : Inv X pins σ H s) {w : W} {v : V} {u : Value} (hk : KeyOk w) (r : Rep X.K H w v) (ru : RelV v u) : ∃ b, v = .ref b ∧ u = .ref b ∧ (nestedKind X.prog X.w).is s.heap (nk w) b := by
  obtain ⟨⟨ws, e⟩, k1, k2⟩ := hk
  subst e
  obtain ⟨b, vs, e, _, _⟩ := r.untup
  subst e
  cases ru
  exact ⟨b, rfl, rfl, nest_is I k1 r rfl, k2⟩
theorem n_room {A : Around} (hu : A.units + 64 < cLine) : (nestedKind X.prog X.w).room A.in1 := by
  show A.units + 1 + 8 < cLine
  omega
theorem n_look {kvs : List (W × W)} {xs : List (NestedKey × Addr × Value)} (p : Paired (NRow B H) kvs xs) (k : W) :
    (lookN kvs k = none ∧ atKey xs (nk k) = none) ∨ ∃ w b u v, lookN kvs k = some w ∧ atKey xs (nk k) = some (b, u) ∧ RelV v u ∧ Rep B.K H w v := by
  induction p with
  | nil => exact .inl ⟨rfl, rfl⟩
  | @cons q x ps ys r _ ih =>
    obtain ⟨e, r1, k1, vv, rv, r2⟩ := r
    by_cases z : nk q.1 = nk k
    · refine .inr ⟨q.2, x.2.1, x.2.2, vv, ?_, ?_, rv, r2⟩
      · simp [lookN, z]
      · simp [atKey, e, z]
    · have n1 : lookN (q :: ps) k = lookN ps k := by simp [lookN, z]
      have n2 : atKey (x :: ys) (nk k) = atKey ys (nk k) := by simp [atKey, e, z]
      rw [n1, n2]
      exact ih
theorem n_place {kvs : List (W × W)} {xs : List (NestedKey × Addr × Value)} (p : Paired (NRow B H) kvs xs) {k w : W} {b : Addr} {v : V} {u : Value} (hk : KeyOk k) (rk : Rep B.K H k (.ref b)) (rv : RelV v u) (rw' : Rep B.K H w v) :
    Paired (NRow B H) (placeN kvs k w) (storedH xs (nk k) b u) := by
  have e : (lookN kvs k).isSome = (atKey xs (nk k)).isSome := by
    rcases n_look p k with ⟨h1, h2⟩ | ⟨_, _, _, _, h1, h2, _⟩
    · rw [h1, h2]; rfl
    · rw [h1, h2]; rfl
  unfold placeN storedH
  rw [e]
  by_cases z : (atKey xs (nk k)).isSome = true
  · rw [if_pos z, if_pos z]
    clear e z
    induction p with
    | nil => exact .nil
    | @cons q x ps ys r _ ih =>
      rw [List.map_cons, List.map_cons]
      refine .cons ?_ ih
      obtain ⟨e1, r1, k1, r2⟩ := r
      unfold putAt
      by_cases y : nk q.1 = nk k
      · rw [if_pos y, if_pos (e1.trans y)]
        exact ⟨e1, r1, k1, v, rv, rw'⟩
      · rw [if_neg y, if_neg (fun t => y (e1.symm.trans t))]
        exact ⟨e1, r1, k1, r2⟩
  · rw [if_neg z, if_neg z]
    clear e z
    induction p with
    | nil => exact .cons ⟨rfl, rk, hk, v, rv, rw'⟩ .nil
    | cons r _ ih => exact .cons r ih
theorem rdN_rd {a : Addr} {kvs : List (W × W)} (m : Mo B H M) (h : rdN (M a) = some kvs) : ∃ es, Rd H a (.ext (DRaw a es)) ∧ (a == sysModules) = false ∧ NDict B H kvs es := by
  cases e : M a with
  | none => rw [e] at h; cases h
  | some o =>
    rw [e] at h
    cases o with
    | dN ks =>
      have e2 : ks = kvs := by simpa [rdN] using h
      subst e2
      obtain ⟨es, h1, h2⟩ := m a _ e
      exact ⟨es, .inl h1, h2⟩
    | lkN ks =>
      have e2 : ks = kvs := by simpa [rdN] using h
      subst e2
      obtain ⟨o, es, h1, h2⟩ := m a _ e
      exact ⟨es, .inr ⟨o, h1⟩, h2⟩
    | _ => simp [rdN] at h
theorem wop_inSeq (neg : Bool) (f : Value → Value → Sem Value) (h : OpR X f (rIn X.K neg)) : OpW X f fun x y M Q => (∃ xs, y = .tup xs ∨ ∃ a, y = .ref a ∧ rdl (M a) = some xs) ∧ ∀ xs, (y = .tup xs ∨ ∃ a, y = .ref a ∧ rdl (M a) = some xs) → (flatW x && xs.all flatW) = true ∧ Q (.bl (if neg then !inW x xs else inW x xs)) M :=
  OpR_imp h fun x y H Q ⟨wx, wy, M, Qw, rx, ry, m, ⟨⟨xs, hy⟩, q⟩, k⟩ => by
    obtain ⟨hf, q⟩ := q xs hy
    rw [Bool.and_eq_true] at hf
    obtain ⟨e1, f1⟩ := fv_rep hf.1 rx
    have fin : ∀ {vs : List V}, Reps X.K H xs vs → vs.all flatV = true ∧ Q (.bl (if neg then !inV x vs else inV x vs)) H := fun {vs} r => by
      obtain ⟨e2, f2⟩ := fvs_rep hf.2 r
      refine ⟨f2, ?_⟩
      rw [e1, e2, inW_V hf.1 hf.2]
      exact k _ M _ H q (Go.refl _ _) rep_bl m
    rcases hy with e | ⟨a, e, hr⟩
    · subst e
      obtain ⟨a, vs, e3, sq, rs⟩ := ry.untup
      exact ⟨a, vs, e3, .inr sq, f1, (fin rs).1, (fin rs).2⟩
    · subst e
      obtain ⟨vs, sq, rs⟩ := rdl_sq m hr
      exact ⟨a, vs, un_ref ry, .inl sq, f1, (fin rs).1, (fin rs).2⟩
theorem wop_inK (hu : X.A.units + 64 < cLine) : OpW X (compareOp .In) fun x y M Q => ∃ a kvs k, y = .ref a ∧ rdK (M a) = some kvs ∧ wkey x = some k ∧ Q (.bl (look kvs k).isSome) M :=
  fun pins s σ H x y v u Q I rx ry ⟨wx, wy, M, Qw, r1, r2, m, ⟨a, kvs, kk, e, hr, hk, q⟩, k⟩ => by
    subst e
    rw [un_ref r2] at ry
    cases ry
    obtain ⟨xs, rd, p⟩ := rdK_rd m hr
    have ek := wkey_V hk r1
    subst ek
    refine d_in (by omega) I (o := valV xs kk) (.inl ⟨xs, kk, rd, rfl, rfl⟩) rx fun s' I' => ⟨.bl (valV xs kk).isSome, H, I', rfl, ?_⟩
    have e : (valV xs kk).isSome = (look kvs kk).isSome := by
      rcases look_rel p kk with ⟨h1, h2⟩ | ⟨_, _, h1, h2, _⟩
      · rw [h1, h2]; rfl
      · rw [h1, h2]; rfl
    rw [e]
    exact k _ M _ H q (Go.refl _ _) rep_bl m
theorem wop_notInK (hu : X.A.units + 64 < cLine) : OpW X (compareOp .NotIn) fun x y M Q => ∃ a kvs k, y = .ref a ∧ rdK (M a) = some kvs ∧ wkey x = some k ∧ Q (.bl (!(look kvs k).isSome)) M :=
  fun pins s σ H x y v u Q I rx ry ⟨wx, wy, M, Qw, r1, r2, m, ⟨a, kvs, kk, e, hr, hk, q⟩, k⟩ => by
    subst e
    rw [un_ref r2] at ry
    cases ry
    obtain ⟨xs, rd, p⟩ := rdK_rd m hr
    have ek := wkey_V hk r1
    subst ek
    refine d_notIn (by omega) I (o := valV xs kk) (.inl ⟨xs, kk, rd, rfl, rfl⟩) rx fun s' I' => ⟨.bl (!(valV xs kk).isSome), H, I', rfl, ?_⟩
    have e : (valV xs kk).isSome = (look kvs kk).isSome := by
      rcases look_rel p kk with ⟨h1, h2⟩ | ⟨_, _, h1, h2, _⟩
      · rw [h1, h2]; rfl
      · rw [h1, h2]; rfl
    rw [e]
    exact k _ M _ H q (Go.refl _ _) rep_bl m
theorem wop_inN (hu : X.A.units + 64 < cLine) : OpW X (compareOp .In) fun x y M Q => ∃ a kvs, y = .ref a ∧ rdN (M a) = some kvs ∧ KeyOk x ∧ Q (.bl (lookN kvs x).isSome) M :=
  fun pins s σ H x y v u Q I rx ry ⟨wx, wy, M, Qw, r1, r2, m, ⟨a, kvs, e, hr, hk, q⟩, k⟩ => by
    subst e
    rw [un_ref r2] at ry
    cases ry
    obtain ⟨es, rd, hd, n⟩ := rdN_rd m hr
    obtain ⟨xs, p, dd⟩ := n_of I rd n
    obtain ⟨b, e1, e2, ki⟩ := n_key I hk r1 rx
    subst e1 e2
    refine wpAny_in_heap (n_room hu) ki hd dd ⟨.bl (atKey xs (nk wx)).isSome, H, I.tok _, rfl, ?_⟩
    have e : (atKey xs (nk wx)).isSome = (lookN kvs wx).isSome := by
      rcases n_look p wx with ⟨h1, h2⟩ | ⟨_, _, _, _, h1, h2, _⟩
      · rw [h1, h2]; rfl
      · rw [h1, h2]; rfl
    rw [e]
    exact k _ M _ H q (Go.refl _ _) rep_bl m
theorem wop_notInN (hu : X.A.units + 64 < cLine) : OpW X (compareOp .NotIn) fun x y M Q => ∃ a kvs, y = .ref a ∧ rdN (M a) = some kvs ∧ KeyOk x ∧ Q (.bl (!(lookN kvs x).isSome)) M :=
  fun pins s σ H x y v u Q I rx ry ⟨wx, wy, M, Qw, r1, r2, m, ⟨a, kvs, e, hr, hk, q⟩, k⟩ => by
    subst e
    rw [un_ref r2] at ry
    cases ry
    obtain ⟨es, rd, hd, n⟩ := rdN_rd m hr
    obtain ⟨xs, p, dd⟩ := n_of I rd n
    obtain ⟨b, e1, e2, ki⟩ := n_key I hk r1 rx
    subst e1 e2
    refine wpAny_notIn_heap (n_room hu) ki hd dd ⟨.bl (!(atKey xs (nk wx)).isSome), H, I.tok _, rfl, ?_⟩
    have e : (atKey xs (nk wx)).isSome = (lookN kvs wx).isSome := by
      rcases n_look p wx with ⟨h1, h2⟩ | ⟨_, _, _, _, h1, h2, _⟩
      · rw [h1, h2]; rfl
      · rw [h1, h2]; rfl
    rw [e]
    exact k _ M _ H q (Go.refl _ _) rep_bl m
theorem wop_inC : OpW X (compareOp .In) fun x y M Q => ∃ a c z, x = .str a ∧ a.cps.toList = [c] ∧ y = .str z ∧ Q (.bl (decide (c ∈ z.cps.toList))) M :=
  OpR_imp op_in_sign fun x y H Q ⟨wx, wy, M, Qw, rx, ry, m, ⟨a, c, z, e1, h, e2, q⟩, k⟩ => by
    subst e1 e2
    refine ⟨c, z, ?_, un_str ry, k _ M _ H q (Go.refl _ _) rep_bl m⟩
    rw [un_str rx]
    obtain ⟨cs⟩ := a
    have e : cs = #[c] := by
      obtain ⟨l⟩ := cs
      simp at h
      rw [h]
    rw [e]
theorem wop_notInC : OpW X (compareOp .NotIn) fun x y M Q => ∃ a c z, x = .str a ∧ a.cps.toList = [c] ∧ y = .str z ∧ Q (.bl (!decide (c ∈ z.cps.toList))) M :=
  OpR_imp op_notIn_sign fun x y H Q ⟨wx, wy, M, Qw, rx, ry, m, ⟨a, c, z, e1, h, e2, q⟩, k⟩ => by
    subst e1 e2
    refine ⟨c, z, ?_, un_str ry, k _ M _ H q (Go.refl _ _) rep_bl m⟩
    rw [un_str rx]
    obtain ⟨cs⟩ := a
    have e : cs = #[c] := by
      obtain ⟨l⟩ := cs
      simp at h
      rw [h]
    rw [e]
/-- the five kinds -/
theorem inS_split {M : Me} {x y : W} {Q : Bool → Prop} (h : rInS M x y Q) :
    ((∃ xs, y = .tup xs ∨ ∃ a, y = .ref a ∧ rdl (M a) = some xs) ∧ ∀ xs, (y = .tup xs ∨ ∃ a, y = .ref a ∧ rdl (M a) = some xs) → (flatW x && xs.all flatW) = true ∧ Q (inW x xs)) ∨
    (∃ a kvs k, y = .ref a ∧ rdK (M a) = some kvs ∧ wkey x = some k ∧ Q (look kvs k).isSome) ∨ (∃ a kvs, y = .ref a ∧ rdN (M a) = some kvs ∧ KeyOk x ∧ Q (lookN kvs x).isSome) ∨
    ∃ a c z, x = .str a ∧ a.cps.toList = [c] ∧ y = .str z ∧ Q (decide (c ∈ z.cps.toList)) := by
  have one : ∀ {a : Addr} {xs : List W}, rdl (M a) = some xs → (flatW x && xs.all flatW) = true ∧ Q (inW x xs) → ((∃ xs, (W.ref a = .tup xs) ∨ ∃ b, W.ref a = .ref b ∧ rdl (M b) = some xs) ∧ ∀ xs, (W.ref a = .tup xs ∨ ∃ b, W.ref a = .ref b ∧ rdl (M b) = some xs) → (flatW x && xs.all flatW) = true ∧ Q (inW x xs)) := fun {a xs} h1 h2 =>
    ⟨⟨xs, .inr ⟨a, rfl, h1⟩⟩, fun ys hy => by
      rcases hy with e | ⟨b, e, h3⟩
      · cases e
      · cases e
        rw [h1] at h3
        cases h3
        exact h2⟩
  unfold rInS at h
  split at h
  · rename_i xs
    exact .inl ⟨⟨xs, .inl rfl⟩, fun ys hy => by
      rcases hy with e | ⟨b, e, h3⟩
      · cases e; exact h
      · cases e⟩
  · split at h
    · split at h
      · rename_i c e
        exact .inr (.inr (.inr ⟨_, c, _, rfl, e, rfl, h⟩))
      · exact h.elim
    · exact h.elim
  · split at h
    · rename_i xs e
      exact .inl (one (by rw [e]; rfl) h)
    · split at h
      · rename_i kvs e o k ek
        exact .inr (.inl ⟨_, kvs, k, rfl, by rw [e]; rfl, ek, h⟩)
      · exact h.elim
    · split at h
      · rename_i kvs e o k ek
        exact .inr (.inl ⟨_, kvs, k, rfl, by rw [e]; rfl, ek, h⟩)
      · exact h.elim
    · rename_i kvs e
      exact .inr (.inr (.inl ⟨_, kvs, rfl, by rw [e]; rfl, h.1, h.2⟩))
    · rename_i kvs e
      exact .inr (.inr (.inl ⟨_, kvs, rfl, by rw [e]; rfl, h.1, h.2⟩))
    · exact h.elim
  · exact h.elim
theorem w_in (hu : X.A.units + 64 < cLine) : OpW X (compareOp .In) rIn2 :=
  OpW.or (wop_inSeq false _ op_in_seq) (OpW.or (wop_inK hu) (OpW.or (wop_inN hu) wop_inC (r'' := fun x y M Q => _ ∨ _) fun _ _ _ _ h => h) (r'' := fun x y M Q => _ ∨ _) fun _ _ _ _ h => h) fun x y M Q h => inS_split h
theorem w_notIn (hu : X.A.units + 64 < cLine) : OpW X (compareOp .NotIn) rNotIn2 :=
  OpW.or (wop_inSeq true _ op_notIn_seq) (OpW.or (wop_notInK hu) (OpW.or (wop_notInN hu) wop_notInC (r'' := fun x y M Q => _ ∨ _) fun _ _ _ _ h => h) (r'' := fun x y M Q => _ ∨ _) fun _ _ _ _ h => h) fun x y M Q h => inS_split h
end
end PV
set_option maxHeartbeats 1000000
/-! PV: subscripts, slices, stores, methods, built-ins. -/
namespace PV
open PySem PySem.Spec PyProof.Rows L2

section
variable {X : Cx} {B : Kx} {K : PySem.W.Frag} {H : Hp} {M : Me}
/-! ### o[i] -/
def up2I (X : Cx) (r : R2W) : Prop := IxR X (up2 X.kx r)
theorem IxR_imp {r r' : R2} (h : IxR X r) (i : ∀ x y H Q, r' x y H Q → r x y H Q) : IxR X r' := fun value slice pins s σ H x y v u Q I rx ry q => h value slice pins s σ H x y v u Q I rx ry (i x y H Q q)
def rIx2 : R2W := fun x y M Q => match x with
  | .cl xs => match y with
    | .int i => match atI xs i with
      | some w => Q w M
      | none => False
    | _ => False
  | .tup xs => match y with
    | .int i => match atI xs i with
      | some w => Q w M
      | none => False
    | _ => False
  | .str z => match y with
    | .int i => z.length ≤ sizeLine ∧ match atI z.cps.toList i with
      | some c => Q (.str ⟨#[c]⟩) M
      | none => False
    | _ => False
  | .ref a => match M a with
    | some (.lst xs) => match y with
      | .int i => match atI xs i with
        | some w => Q w M
        | none => False
      | _ => False
    | some (.dK kvs) => match (wkey y).bind (look kvs) with
      | some w => Q w M
      | none => False
    | some (.lkK kvs) => match (wkey y).bind (look kvs) with
      | some w => Q w M
      | none => False
    | some (.dN kvs) => KeyOk y ∧ match lookN kvs y with
      | some w => Q w M
      | none => False
    | some (.lkN kvs) => KeyOk y ∧ match lookN kvs y with
      | some w => Q w M
      | none => False
    | _ => False
  | _ => False
theorem ixN_len {n m : Nat} (h : n = m) (i : Int) : ixN n i = ixN m i := by rw [h]
theorem at_rep {xs : List W} {vs : List V} {i : Int} {w : W} (r : Reps K H xs vs) (h : atI xs i = some w) : ∃ v, atI vs i = some v ∧ Rep K H w v := by
  unfold atI at h ⊢
  rw [r.length]
  cases e : ixN xs.length i with
  | none => rw [e] at h; cases h
  | some j =>
    rw [e] at h
    exact r.get h
theorem wix_T : up2I X fun x y M Q => ∃ xs i w, x = .tup xs ∧ y = .int i ∧ atI xs i = some w ∧ Q w M := IxR_imp ix_tup fun x y H Q ⟨wx, wy, M, Qw, rx, ry, m, ⟨xs, i, w, e1, e2, h, q⟩, k⟩ => by
  subst e1 e2
  obtain ⟨a, vs, e3, s, rs⟩ := rx.untup
  obtain ⟨v, h2, r2⟩ := at_rep rs h
  exact ⟨a, vs, i, v, e3, un_int ry, s, h2, k _ M _ H q (Go.refl _ _) r2 m⟩
theorem wix_L : up2I X fun x y M Q => ∃ a xs i w, x = .ref a ∧ rdl (M a) = some xs ∧ y = .int i ∧ atI xs i = some w ∧ Q w M := IxR_imp ix_list fun x y H Q ⟨wx, wy, M, Qw, rx, ry, m, ⟨a, xs, i, w, e1, hr, e2, h, q⟩, k⟩ => by
  subst e1 e2
  obtain ⟨vs, s, rs⟩ := rdl_sq m hr
  obtain ⟨v, h2, r2⟩ := at_rep rs h
  exact ⟨a, vs, i, v, un_ref rx, un_int ry, s, h2, k _ M _ H q (Go.refl _ _) r2 m⟩
theorem wix_C : up2I X fun x y M Q => ∃ xs i w, x = .cl xs ∧ y = .int i ∧ atI xs i = some w ∧ Q w M := IxR_imp ix_list fun x y H Q ⟨wx, wy, M, Qw, rx, ry, m, ⟨xs, i, w, e1, e2, h, q⟩, k⟩ => by
  subst e1 e2
  obtain ⟨a, vs, e3, s, rs⟩ := rx.uncl
  obtain ⟨v, h2, r2⟩ := at_rep rs h
  exact ⟨a, vs, i, v, e3, un_int ry, s.sq, h2, k _ M _ H q (Go.refl _ _) r2 m⟩
theorem wix_S : up2I X fun x y M Q => ∃ z i c, x = .str z ∧ y = .int i ∧ z.length ≤ sizeLine ∧ atI z.cps.toList i = some c ∧ Q (.str ⟨#[c]⟩) M := IxR_imp ix_str fun x y H Q ⟨wx, wy, M, Qw, rx, ry, m, ⟨z, i, c, e1, e2, hz, h, q⟩, k⟩ => by
  subst e1 e2
  exact ⟨z, i, c, un_str rx, un_int ry, hz, h, k _ M _ H q (Go.refl _ _) rep_str m⟩
theorem wix_K (hu : X.A.units + 64 < cLine) : up2I X fun x y M Q => ∃ a kvs kk w, x = .ref a ∧ rdK (M a) = some kvs ∧ wkey y = some kk ∧ look kvs kk = some w ∧ Q w M :=
  fun value slice pins s σ H x y v u Q I rx ry ⟨wx, wy, M, Qw, r1, r2, m, ⟨a, kvs, kk, w, e1, hr, hk, hl, q⟩, k⟩ hs => by
    subst e1
    rw [un_ref r1] at rx
    cases rx
    obtain ⟨xs, rd, p⟩ := rdK_rd m hr
    have ek := wkey_V hk r2
    subst ek
    rcases look_rel p kk with ⟨h1, _⟩ | ⟨w', vv, h1, h2, r3⟩
    · rw [hl] at h1; cases h1
    · rw [hl] at h1
      cases h1
      have g : DGet H a (kV kk) (some vv) := .inl ⟨xs, kk, rd, rfl, h2.symm⟩
      exact tail_any (dict_typeIs I g) PySem.F.slot_dict_getitem.lookup (d_getItem (by omega) I g ry fun u' s' I' ru => ⟨vv, H, I', ru, k _ M _ H q (Go.refl _ _) r3 m⟩) hs
theorem wix_N (hu : X.A.units + 64 < cLine) : up2I X fun x y M Q => ∃ a kvs w, x = .ref a ∧ rdN (M a) = some kvs ∧ KeyOk y ∧ lookN kvs y = some w ∧ Q w M :=
  fun value slice pins s σ H x y v u Q I rx ry ⟨wx, wy, M, Qw, r1, r2, m, ⟨a, kvs, w, e1, hr, hk, hl, q⟩, k⟩ hs => by
    subst e1
    rw [un_ref r1] at rx
    cases rx
    obtain ⟨es, rd, hd, n⟩ := rdN_rd m hr
    obtain ⟨xs, p, dd⟩ := n_of I rd n
    obtain ⟨b, e1, e2, ki⟩ := n_key I hk r2 ry
    subst e1 e2
    rcases n_look p wy with ⟨h1, _⟩ | ⟨w', b', u', vv, h1, h2, r3, r4⟩
    · rw [hl] at h1; cases h1
    · rw [hl] at h1
      cases h1
      exact tail_any dd.typeIs PySem.F.slot_dict_getitem.lookup (wpAny_getItem_heap (n_room hu) ki dd h2 ⟨vv, H, I.tok _, r3, k _ M _ H q (Go.refl _ _) r4 m⟩) hs
theorem w_ix (hu : X.A.units + 64 < cLine) : up2I X rIx2 := IxR_imp (IxR.or wix_C <| IxR.or wix_T (IxR.or wix_L (IxR.or wix_S (IxR.or (wix_K hu) (wix_N hu))))) fun x y H Q ⟨wx, wy, M, Qw, rx, ry, m, q, k⟩ => by
  have mk : ∀ {r : R2W}, r wx wy M Qw → up2 X.kx r x y H Q := fun {r} q => ⟨wx, wy, M, Qw, rx, ry, m, q, k⟩
  unfold rIx2 at q
  split at q
  · split at q
    · split at q
      · rename_i e
        exact .inl (mk ⟨_, _, _, rfl, rfl, e, q⟩)
      · exact q.elim
    · exact q.elim
  · split at q
    · split at q
      · rename_i e
        exact .inr (.inl (mk ⟨_, _, _, rfl, rfl, e, q⟩))
      · exact q.elim
    · exact q.elim
  · split at q
    · obtain ⟨hz, q⟩ := q
      split at q
      · rename_i e
        exact .inr (.inr (.inr (.inl (mk ⟨_, _, _, rfl, rfl, hz, e, q⟩))))
      · exact q.elim
    · exact q.elim
  · split at q
    · rename_i e0
      split at q
      · split at q
        · rename_i e
          exact .inr (.inr (.inl (mk ⟨_, _, _, _, rfl, by rw [e0]; rfl, rfl, e, q⟩)))
        · exact q.elim
      · exact q.elim
    · rename_i e0
      split at q
      · rename_i e
        obtain ⟨kk, h1, h2⟩ := Option.bind_eq_some_iff.mp e
        exact .inr (.inr (.inr (.inr (.inl (mk ⟨_, _, kk, _, rfl, by rw [e0]; rfl, h1, h2, q⟩)))))
      · exact q.elim
    · rename_i e0
      split at q
      · rename_i e
        obtain ⟨kk, h1, h2⟩ := Option.bind_eq_some_iff.mp e
        exact .inr (.inr (.inr (.inr (.inl (mk ⟨_, _, kk, _, rfl, by rw [e0]; rfl, h1, h2, q⟩)))))
      · exact q.elim
    · rename_i e0
      obtain ⟨hk, q⟩ := q
      split at q
      · rename_i e
        exact .inr (.inr (.inr (.inr (.inr (mk ⟨_, _, _, rfl, by rw [e0]; rfl, hk, e, q⟩)))))
      · exact q.elim
    · rename_i e0
      obtain ⟨hk, q⟩ := q
      split at q
      · rename_i e
        exact .inr (.inr (.inr (.inr (.inr (mk ⟨_, _, _, rfl, by rw [e0]; rfl, hk, e, q⟩)))))
      · exact q.elim
    · exact q.elim
  · exact q.elim
end
section
variable {Y : Cy} {a b lo hi : Expr} {pos p2 : Pos}
theorem q_ix {ta tb : WE} (hu : Y.X.A.units + 64 < cLine) (ha : QE Y a ta) (hb : QE Y b tb) (hs : PlainIx b := by exact fun _ _ => rfl) : QE Y (.Subscript a b pos) (wOp rIx2 ta tb) := PE_imp (pe_ix (w_ix hu) ha hb hs) fun _ _ _ h => up_op h
/-! ### o[lo:hi] -/
abbrev WO := En → Me → (Option Int → Me → Prop) → Prop
def upO (c : Cb) (t : WO) : TO := fun σ H Q => ∃ ρ M Qw, StOk c ρ M σ H ∧ t ρ M Qw ∧ ∀ o M' H', Qw o M' → Go H M H' M' → Mo c.B H' M' → Q o H'
def QO (Y : Cy) (e : Option Expr) (t : WO) : Prop := PO Y.X e (upO Y.b t)
theorem PO_imp {X : Cx} {e : Option Expr} {t t' : TO} (h : PO X e t) (i : ∀ σ H Q, t' σ H Q → t σ H Q) : PO X e t' := ⟨fun pins s σ H Q I q => h.run pins s σ H Q I (i σ H Q q)⟩
def wNoPart : WO := fun _ M Q => Q none M
def wPart (t : WE) : WO := fun ρ M Q => t ρ M fun x M1 => match x with
  | .int i => Q (some i) M1
  | _ => False
theorem qo_none : QO Y none wNoPart := PO_imp po_none fun σ H Q ⟨ρ, M, Qw, so, q, k⟩ => k none M H q (Go.refl _ _) so.mo
theorem qo_some {e : Expr} {t : WE} (h : QE Y e t) : QO Y (some e) (wPart t) := PO_imp (po_some h) fun σ H Q ⟨ρ, M, Qw, so, q, k⟩ => ⟨ρ, M, _, so, q, fun w M1 v H1 q1 g r m => by
  split at q1
  · exact ⟨_, un_int r, k _ M1 H1 q1 g m⟩
  · exact q1.elim⟩
def cutW (xs : List W) (lo hi : Option Int) : List W := (xs.drop (HT.sIx xs.length 0 lo)).take (HT.sIx xs.length xs.length hi - HT.sIx xs.length 0 lo)
theorem cut_rep {K : PySem.W.Frag} {H : Hp} {xs : List W} {vs : List V} (r : Reps K H xs vs) (lo hi : Option Int) : Reps K H (cutW xs lo hi) (cutV vs lo hi) := by
  unfold cutW cutV
  rw [r.length]
  exact (r.drop _).take _
abbrev RSW := W → Option Int → Option Int → Me → WK → Prop
def upSl (B : Kx) (r : RSW) : V → Option Int → Option Int → Hp → VK → Prop := fun x lo hi H Q => ∃ wx M Qw, Rep B.K H wx x ∧ Mo B H M ∧ r wx lo hi M Qw ∧ ∀ w M' v H', Qw w M' → Go H M H' M' → Rep B.K H' w v → Mo B H' M' → Q v H'
theorem SlR_imp {X : Cx} {r r' : V → Option Int → Option Int → Hp → VK → Prop} (h : SlR X r) (i : ∀ x lo hi H Q, r' x lo hi H Q → r x lo hi H Q) : SlR X r' :=
  fun pins s σ H x v vl vu lo hi sl Q I rx hs pl pu q => h pins s σ H x v vl vu lo hi sl Q I rx hs pl pu (i x lo hi H Q q)
def rSl2 : RSW := fun x lo hi M Q => match x with
  | .tup xs => Q (.tup (cutW xs lo hi)) M
  | .cl xs => ∀ p, M p = none → Q (.ref p) (put M p (.lst (cutW xs lo hi)))
  | .str z => z.length ≤ sizeLine ∧ Q (.str (cutS z lo hi)) M
  | .ref a => match rdl (M a) with
    | some xs => ∀ p, M p = none → Q (.ref p) (put M p (.lst (cutW xs lo hi)))
    | none => False
  | _ => False
theorem w_slT {X : Cx} : SlR X (upSl X.kx fun x lo hi M Q => ∃ xs, x = .tup xs ∧ Q (.tup (cutW xs lo hi)) M) := SlR_imp sl_tupA fun x lo hi H Q ⟨wx, M, Qw, rx, m, ⟨xs, e, q⟩, k⟩ => by
  subst e
  obtain ⟨a, vs, e, s, rs⟩ := rx.untup
  refine ⟨a, vs, e, s, fun ⟨h1, h2⟩ => ?_, fun _ p hp => ?_⟩
  · refine k _ M _ H q (Go.refl _ _) (Rep.tup s ?_) m
    have e2 : cutW xs lo hi = xs := by
      unfold cutW
      rw [rs.length] at h1 h2
      rw [h1, h2, List.drop_zero, Nat.sub_zero, List.take_length]
    rw [e2]
    exact rs
  · exact k _ M _ _ q (Go.same (sameNew hp)) (Rep.tup (SqT.of upd_same) ((cut_rep rs lo hi).go (GoH.new hp))) (m.new hp)
theorem w_slL {X : Cx} : SlR X (upSl X.kx fun x lo hi M Q => ∃ a xs, x = .ref a ∧ rdl (M a) = some xs ∧ ∀ p, M p = none → Q (.ref p) (put M p (.lst (cutW xs lo hi)))) := SlR_imp sl_list fun x lo hi H Q ⟨wx, M, Qw, rx, m, ⟨a, xs, e, h, q⟩, k⟩ => by
  subst e
  obtain ⟨vs, s, rs⟩ := rdl_sq m h
  refine ⟨a, vs, un_ref rx, s, fun p hp => ?_⟩
  have g := GoH.new (o := .lst (cutV vs lo hi)) hp
  exact k _ _ _ _ (q p (m.free hp)) (Go.new hp) rep_ref (m.put g ⟨_, upd_same, (cut_rep rs lo hi).go g⟩)
theorem w_slC {X : Cx} : SlR X (upSl X.kx fun x lo hi M Q => ∃ xs, x = .cl xs ∧ ∀ p, M p = none → Q (.ref p) (put M p (.lst (cutW xs lo hi)))) := SlR_imp sl_list fun x lo hi H Q ⟨wx, M, Qw, rx, m, ⟨xs, e, q⟩, k⟩ => by
  subst e
  obtain ⟨a, vs, e, s, rs⟩ := rx.uncl
  refine ⟨a, vs, e, s.sq, fun p hp => ?_⟩
  have g := GoH.new (o := .lst (cutV vs lo hi)) hp
  exact k _ _ _ _ (q p (m.free hp)) (Go.new hp) rep_ref (m.put g ⟨_, upd_same, (cut_rep rs lo hi).go g⟩)
theorem w_slS {X : Cx} : SlR X (upSl X.kx fun x lo hi M Q => ∃ z, x = .str z ∧ z.length ≤ sizeLine ∧ Q (.str (cutS z lo hi)) M) := SlR_imp sl_str fun x lo hi H Q ⟨wx, M, Qw, rx, m, ⟨z, e, h, q⟩, k⟩ => by
  subst e
  exact ⟨z, un_str rx, h, k _ M _ H q (Go.refl _ _) rep_str m⟩
theorem w_sl {X : Cx} : SlR X (upSl X.kx rSl2) := SlR_imp (SlR.or w_slT (SlR.or w_slL (SlR.or w_slS w_slC))) fun x lo hi H Q ⟨wx, M, Qw, rx, m, q, k⟩ => by
  unfold rSl2 at q
  split at q
  · exact .inl ⟨_, M, Qw, rx, m, ⟨_, rfl, q⟩, k⟩
  · exact .inr (.inr (.inr ⟨_, M, Qw, rx, m, ⟨_, rfl, q⟩, k⟩))
  · exact .inr (.inr (.inl ⟨_, M, Qw, rx, m, ⟨_, rfl, q.1, q.2⟩, k⟩))
  · split at q
    · rename_i e
      exact .inr (.inl ⟨_, M, Qw, rx, m, ⟨_, _, rfl, e, q⟩, k⟩)
    · exact q.elim
  · exact q.elim
def wSl (t : WE) (tl th : WO) : WE := fun ρ M Q => t ρ M fun x M1 => tl ρ M1 fun l M2 => th ρ M2 fun u M3 => rSl2 x l u M3 Q
theorem q_sl {t : WE} {tl th : WO} {lo hi : Option Expr} (h : QE Y a t) (hl : QO Y lo tl) (hh : QO Y hi th) : QE Y (.Subscript a (.Slice lo hi none p2) pos) (wSl t tl th) := PE_imp (pe_slice w_sl h hl hh) fun σ H Q ⟨ρ, M, Qw, so, q, k⟩ =>
  ⟨ρ, M, _, so, q, fun wx M1 vx H1 q1 g1 r1 m1 => ⟨ρ, M1, _, so.step g1 m1, q1, fun l M2 H2 q2 g2 m2 => ⟨ρ, M2, _, so.step (g1.trans g2) m2, q2, fun u M3 H3 q3 g3 m3 =>
    ⟨wx, M3, Qw, (r1.go g2.h).go g3.h, m3, q3, fun w M' v H' q g r m => k w M' v H' q (((g1.trans g2).trans g3).trans g) r m⟩⟩⟩⟩
end
end PV
set_option maxHeartbeats 1000000
/-! PV: stores, methods, built-ins. -/
namespace PV
open PySem PySem.Spec PyProof.Rows L2

section
variable {X : Cx} {B : Kx} {K : PySem.W.Frag} {H : Hp} {M : Me}
/-! ### o[i] = v -/
def rSet3 : R3W := fun o i v M Q => match o with
  | .ref a => match M a with
    | some (.lst xs) => match i with
      | .int k => match ixN xs.length k with
        | some j => Q (put M a (.lst (xs.set j v)))
        | none => False
      | _ => False
    | some (.dK kvs) => match wkey i with
      | some k => kvs.length < sizeLine ∧ Q (put M a (.dK (place kvs k v)))
      | none => False
    | some (.dN kvs) => KeyOk i ∧ kvs.length < sizeLine ∧ Q (put M a (.dN (placeN kvs i v)))
    | _ => False
  | _ => False
theorem PSet.or {r r' : TSet} (h : PSet X r) (h' : PSet X r') : PSet X fun o i v H Q => r o i v H Q ∨ r' o i v H Q := fun pins s σ H o i v ov iv u Q I r1 r2 r3 q => by
  rcases q with q | q
  · exact h pins s σ H o i v ov iv u Q I r1 r2 r3 q
  · exact h' pins s σ H o i v ov iv u Q I r1 r2 r3 q
theorem wset_L : SetW X fun o i v M Q => ∃ a xs k j, o = .ref a ∧ M a = some (.lst xs) ∧ i = .int k ∧ ixN xs.length k = some j ∧ Q (put M a (.lst (xs.set j v))) :=
  PSet_imp set_list fun o i v H Q ⟨wo, wi, wv, M, Qw, r1, r2, r3, m, ⟨a, xs, n, j, e1, h, e2, hj, q⟩, k⟩ => by
    subst e1 e2
    obtain ⟨vs, h1, rs⟩ := m a _ h
    have g : GoH H (upd H a (.lst (vs.set j v))) := GoH.write h1 (fun _ z => nomatch z) (fun _ _ z => nomatch z)
    exact ⟨a, vs, n, j, un_ref r1, un_int r2, h1, by rw [rs.length]; exact hj, k _ _ q (Go.put g h) (m.put g ⟨_, upd_same, (rs.go g).set j (r3.go g)⟩)⟩
theorem wset_K (hu : X.A.units + 64 < cLine) : SetW X fun o i v M Q => ∃ a kvs k, o = .ref a ∧ M a = some (.dK kvs) ∧ wkey i = some k ∧ kvs.length < sizeLine ∧ Q (put M a (.dK (place kvs k v))) :=
  fun pins s σ H o i v ov iv u Q I q1 q2 q3 ⟨wo, wi, wv, M, Qw, r1, r2, r3, m, ⟨a, kvs, kk, e1, h, hk, hl, q⟩, k⟩ => by
    subst e1
    rw [un_ref r1] at q1
    cases q1
    obtain ⟨xs, h1, p⟩ := m a _ h
    have ek := wkey_V hk r2
    subst ek
    have g : GoH H (upd H a (.dK (putK xs kk v))) := GoH.write h1 (fun _ z => nomatch z) (fun _ _ z => nomatch z)
    have pl : kvs.length = xs.length := Paired.length p
    refine d_setItem (by omega) I (.inl ⟨xs, kk, h1, rfl, by rw [← pl]; exact hl, rfl⟩) q2 q3 fun s' I' => ⟨_, I', k _ _ q (Go.put g h) (m.put g ⟨_, upd_same, ?_⟩)⟩
    exact place_rel (Paired.mapP p fun _ _ ⟨e, r⟩ => ⟨e, r.go g⟩) kk (r3.go g)
theorem wset_N (hu : X.A.units + 64 < cLine) : SetW X fun o i v M Q => ∃ a kvs, o = .ref a ∧ M a = some (.dN kvs) ∧ KeyOk i ∧ kvs.length < sizeLine ∧ Q (put M a (.dN (placeN kvs i v))) :=
  fun pins s σ H o i v ov iv u Q I q1 q2 q3 ⟨wo, wi, wv, M, Qw, r1, r2, r3, m, ⟨a, kvs, e1, h, hk, hl, q⟩, k⟩ => by
    subst e1
    rw [un_ref r1] at q1
    cases q1
    obtain ⟨es, h1, hd, n⟩ := m a _ h
    obtain ⟨xs, p, dd⟩ := n_of I (.inl h1) n
    obtain ⟨b, e1, e2, ki⟩ := n_key I hk r2 q2
    subst e1 e2
    have pl : kvs.length = xs.length := Paired.length p
    refine wpAny_setItem_heap (n_room hu) ki dd (fun h' dd' hs => ?_) (by rw [← pl]; exact n.sz)
    obtain ⟨o', es', ep', g1, g2, g3, g4, _, g5⟩ := dd'
    have g : GoH H (upd H a (.ext (DRaw a es'))) := GoH.write h1 (fun _ z => nomatch z) (fun _ _ z => nomatch z)
    have I' : Inv X pins σ (upd H a (.ext (DRaw a es'))) { s with heap := h', toks := s.toks + (nestedKind X.prog X.w).draws (nk wi) } :=
      I.write (x := a) (e := a) (by rw [h1]; exact True.intro) (.inl rfl) (fun c u hc z => (hs.2 c hc).trans z) ⟨o', g1⟩
        ⟨⟨o', ep', g1, g2, g3⟩, ⟨o', g1⟩, fun h1 h2 ⟨o2, ep2, z1, z2⟩ st => ⟨o2, ep2, st _ z1, z2⟩⟩
    have p2 : Paired (NRow X.kx (upd H a (.ext (DRaw a es')))) (placeN kvs wi wv) (storedH xs (nk wi) b u) :=
      n_place (Paired.mapP p fun _ _ ⟨e1, r, kk, vv, rv, r2⟩ => ⟨e1, r.go g, kk, vv, rv, r2.go g⟩) hk (r2.go g) q3 (r3.go g)
    have len : (placeN kvs wi wv).length ≤ kvs.length + 1 := by
      unfold placeN
      split
      · rw [List.length_map]; omega
      · rw [List.length_append]; simp
    refine ⟨_, I', k _ _ q (Go.put g h) (m.put g ⟨es', upd_same, hd, ⟨by omega, _, p2, g4, g5⟩⟩)⟩
theorem w_set (hu : X.A.units + 64 < cLine) : SetW X rSet3 := PSet_imp (PSet.or wset_L (PSet.or (wset_K hu) (wset_N hu))) fun o i v H Q ⟨wo, wi, wv, M, Qw, r1, r2, r3, m, q, k⟩ => by
  have mk : ∀ {r : R3W}, r wo wi wv M Qw → up3 X.kx r o i v H Q := fun {r} q => ⟨wo, wi, wv, M, Qw, r1, r2, r3, m, q, k⟩
  unfold rSet3 at q
  split at q
  · split at q
    · rename_i e0
      split at q
      · split at q
        · rename_i e
          exact .inl (mk ⟨_, _, _, _, rfl, e0, rfl, e, q⟩)
        · exact q.elim
      · exact q.elim
    · rename_i e0
      split at q
      · rename_i e
        exact .inr (.inl (mk ⟨_, _, _, rfl, e0, e, q.1, q.2⟩))
      · exact q.elim
    · rename_i e0
      exact .inr (.inr (mk ⟨_, _, rfl, e0, q.1, q.2.1, q.2.2⟩))
    · exact q.elim
  · exact q.elim

/-! ### methods of lists -/
abbrev RMW := W → List W → Me → WK → Prop
def upM (B : Kx) (r : RMW) : V → List V → Hp → VK → Prop := fun x xs H Q => ∃ wx ws M Qw, Rep B.K H wx x ∧ Reps B.K H ws xs ∧ Mo B H M ∧ r wx ws M Qw ∧ ∀ w M' v H', Qw w M' → Go H M H' M' → Rep B.K H' w v → Mo B H' M' → Q v H'
theorem MtR_imp {id : String} {r r' : V → List V → Hp → VK → Prop} (h : MtR X id r) (i : ∀ x xs H Q, r' x xs H Q → r x xs H Q) : MtR X id r' := fun pins s σ H x xs v us Q I rx rs q => h pins s σ H x xs v us Q I rx rs (i x xs H Q q)
def rApp : RMW := fun x ws M Q => match x, ws with
  | .ref a, [w] => match M a with
    | some (.lst xs) => xs.length < sizeLine ∧ Q .non (put M a (.lst (xs ++ [w])))
    | _ => False
  | _, _ => False
theorem w_app : MtR X "list.append" (upM X.kx rApp) := MtR_imp mt_append fun x vs H Q ⟨wx, ws, M, Qw, rx, rs, m, q, k⟩ => by
  unfold rApp at q
  split at q
  · rename_i a w
    split at q
    · rename_i xs e
      obtain ⟨us, h1, r1⟩ := m a _ e
      obtain ⟨y, r, e2, ry, rn⟩ := rs.uncons
      have e3 := rn.unnil
      subst e2 e3
      have g : GoH H (upd H a (.lst (us ++ [y]))) := GoH.write h1 (fun _ z => nomatch z) (fun _ _ z => nomatch z)
      exact ⟨a, us, y, un_ref rx, rfl, h1, by rw [r1.length]; exact q.1, k _ _ _ _ q.2 (Go.put g e) rep_non (m.put g ⟨_, upd_same, (r1.go g).append (.cons (ry.go g) .nil)⟩)⟩
    · exact q.elim
  · exact q.elim
def rExt : RMW := fun x ws M Q => match x, ws with
  | .ref a, [.ref b] => match M a, M b with
    | some (.lst xs), some (.lst ys) => xs.length + ys.length ≤ sizeLine ∧ Q .non (put M a (.lst (xs ++ ys)))
    | _, _ => False
  | _, _ => False
theorem w_ext : MtR X "list.extend" (upM X.kx rExt) := MtR_imp mt_extend fun x vs H Q ⟨wx, ws, M, Qw, rx, rs, m, q, k⟩ => by
  unfold rExt at q
  split at q
  · rename_i a b
    split at q
    · rename_i xs ys e e'
      obtain ⟨us, h1, r1⟩ := m a _ e
      obtain ⟨zs, h2, r2⟩ := m b _ e'
      obtain ⟨y, r, e2, ry, rn⟩ := rs.uncons
      have e3 := rn.unnil
      have e4 := un_ref ry
      subst e2 e3 e4
      have g : GoH H (upd H a (.lst (us ++ zs))) := GoH.write h1 (fun _ z => nomatch z) (fun _ _ z => nomatch z)
      exact ⟨a, b, us, zs, un_ref rx, rfl, h1, h2, by rw [r1.length, r2.length]; exact q.1, k _ _ _ _ q.2 (Go.put g e) rep_non (m.put g ⟨_, upd_same, (r1.go g).append (r2.go g)⟩)⟩
    · exact q.elim
  · exact q.elim
/-- pop(), pop(i) -/
def rPop : RMW := fun x ws M Q => match x, ws with
  | .ref a, [] => match M a with
    | some (.lst xs) => match xs[xs.length - 1]? with
      | some w => Q w (put M a (.lst xs.dropLast))
      | none => False
    | _ => False
  | .ref a, [.int i] => match M a with
    | some (.lst xs) => (-(2 ^ 63) ≤ i ∧ i < 2 ^ 63) ∧ match seqIndex? i xs.length with
      | some j => match xs[j]? with
        | some w => Q w (put M a (.lst (xs.eraseIdx j)))
        | none => False
      | none => False
    | _ => False
  | _, _ => False
theorem w_pop : MtR X "list.pop" (upM X.kx rPop) := MtR_imp (MtR.or mt_pop mt_popAt) fun x vs H Q ⟨wx, ws, M, Qw, rx, rs, m, q, k⟩ => by
  unfold rPop at q
  split at q
  · rename_i a
    split at q
    · rename_i xs e
      split at q
      · rename_i w e'
        obtain ⟨us, h1, r1⟩ := m a _ e
        obtain ⟨y, h2, ry⟩ := r1.get e'
        have g : GoH H (upd H a (.lst us.dropLast)) := GoH.write h1 (fun _ z => nomatch z) (fun _ _ z => nomatch z)
        exact .inl ⟨a, us, y, un_ref rx, rs.unnil, h1, by rw [r1.length]; exact h2, k _ _ _ _ q (Go.put g e) (ry.go g) (m.put g ⟨_, upd_same, (r1.go g).dropLast⟩)⟩
      · exact q.elim
    · exact q.elim
  · rename_i a i
    split at q
    · rename_i xs e
      obtain ⟨hb, q⟩ := q
      split at q
      · rename_i j ej
        split at q
        · rename_i w e'
          obtain ⟨us, h1, r1⟩ := m a _ e
          obtain ⟨y, h2, ry⟩ := r1.get e'
          obtain ⟨z, r, e2, rz, rn⟩ := rs.uncons
          have e3 := rn.unnil
          have e4 := un_int rz
          subst e2 e3 e4
          have g : GoH H (upd H a (.lst (us.eraseIdx j))) := GoH.write h1 (fun _ z => nomatch z) (fun _ _ z => nomatch z)
          exact .inr ⟨a, us, i, j, y, un_ref rx, rfl, h1, hb.1, hb.2, by rw [r1.length]; exact ej, h2, k _ _ _ _ q (Go.put g e) (ry.go g) (m.put g ⟨_, upd_same, (r1.go g).eraseIdx j⟩)⟩
        · exact q.elim
      · exact q.elim
    · exact q.elim
  · exact q.elim
def rClr : RMW := fun x ws M Q => match x, ws with
  | .ref a, [] => match M a with
    | some (.lst xs) => Q .non (put M a (.lst []))
    | _ => False
  | _, _ => False
end
section
variable {Y : Cy} {o e : Expr} {es : List Expr} {name : Str} {apos cpos : Pos} {id : String} {r : RMW}
/-- a list's method with arguments, without -/
def wMt (r : RMW) (t : WE) (u : WA) : WE := fun ρ M Q => t ρ M fun x M1 => match x with
  | .ref a => (rdl (M1 a)).isSome = true ∧ u ρ M1 fun ws M2 => r (.ref a) ws M2 Q
  | _ => False
def wMt0 (r : RMW) (t : WE) : WE := fun ρ M Q => t ρ M fun x M1 => match x with
  | .ref a => (rdl (M1 a)).isSome = true ∧ r (.ref a) [] M1 Q
  | _ => False
theorem q_mt {t : WE} {u : WA} (slot : Slot "list" name id) (hty : typeOf (.builtin id) = pure (.type "method_descriptor")) (hm : MtR Y.X id (upM Y.X.kx r)) (ho : QE Y o t) (ha : QA Y (e :: es) u)
    (hbase : attributeBase o name Y.X.env (eval o Y.X.env) = eval o Y.X.env := by rfl)
    (hfew : ((backTo cpos (starEach (e :: es) Y.X.env)).all (fun x => !x.1) && (backToKw cpos (keywordEach [] Y.X.env)).all (fun x => x.1.isSome) && decide ((e :: es).length + ([] : List Keyword).length + (if ([] : List Keyword).isEmpty then 0 else 1) < 30)) = true := by rfl)
    (hline : (apos.endLine == cpos.line) = true := by rfl) (hs : starEach (e :: es) Y.X.env = (false, eval e Y.X.env) :: starEach es Y.X.env := by rfl) (hplain : (backTo cpos (starEach es Y.X.env)).any (·.1) = false := by rfl) :
    QE Y (.Call (.Attribute o name apos) (e :: es) [] cpos) (wMt r t u) :=
  PE_imp (pe_bm PySem.F.plainAttrs_list slot hty hm ho ha hbase hfew hline hs hplain) fun σ H Q ⟨ρ, M, Qw, so, q, k⟩ => ⟨ρ, M, _, so, q, fun wx M1 vx H1 q1 g1 r1 m1 => by
    split at q1
    · rename_i a
      obtain ⟨hr, q1⟩ := q1
      obtain ⟨xs, hx⟩ := Option.isSome_iff_exists.mp hr
      obtain ⟨vs, sq, _⟩ := rdl_sq m1 hx
      have e := un_ref r1
      subst e
      exact ⟨.inl ⟨rfl, vs, sq⟩, ρ, M1, _, so.step g1 m1, q1, fun ws M2 us H2 q2 g2 rs m2 => ⟨.ref a, ws, M2, Qw, rep_ref, rs, m2, q2, fun w M' v H' q g r m => k w M' v H' q ((g1.trans g2).trans g) r m⟩⟩
    · exact q1.elim⟩
theorem q_mt0 {t : WE} (slot : Slot "list" name id) (hty : typeOf (.builtin id) = pure (.type "method_descriptor")) (hm : MtR Y.X id (upM Y.X.kx r)) (ho : QE Y o t)
    (hbase : attributeBase o name Y.X.env (eval o Y.X.env) = eval o Y.X.env := by rfl) (hline : (apos.endLine == cpos.line) = true := by rfl) :
    QE Y (.Call (.Attribute o name apos) [] [] cpos) (wMt0 r t) :=
  PE_imp (pe_bm0 PySem.F.plainAttrs_list slot hty hm ho hbase hline) fun σ H Q ⟨ρ, M, Qw, so, q, k⟩ => ⟨ρ, M, _, so, q, fun wx M1 vx H1 q1 g1 r1 m1 => by
    split at q1
    · rename_i a
      obtain ⟨hr, q1⟩ := q1
      obtain ⟨xs, hx⟩ := Option.isSome_iff_exists.mp hr
      obtain ⟨vs, sq, _⟩ := rdl_sq m1 hx
      have e := un_ref r1
      subst e
      exact ⟨.inl ⟨rfl, vs, sq⟩, .ref a, [], M1, Qw, rep_ref, Reps.nil, m1, q1, fun w M' v H' q g r m => k w M' v H' q (g1.trans g) r m⟩
    · exact q1.elim⟩
end

/-! ### built-ins -/
section
variable {X : Cx} {B : Kx} {K : PySem.W.Frag} {H : Hp} {M : Me}
theorem args1 {w : W} {vs : List V} (r : Reps K H [w] vs) : ∃ v, vs = [v] ∧ Rep K H w v := by
  obtain ⟨v, vr, e, h1, h2⟩ := r.uncons
  rw [h2.unnil] at e
  exact ⟨v, e, h1⟩
theorem args2 {w x : W} {vs : List V} (r : Reps K H [w, x] vs) : ∃ v u, vs = [v, u] ∧ Rep K H w v ∧ Rep K H x u := by
  obtain ⟨v, vr, e, h1, h2⟩ := r.uncons
  obtain ⟨u, e2, h3⟩ := args1 h2
  rw [e2] at e
  exact ⟨v, u, e, h1, h3⟩
def rLen : RLW := fun ws M Q => match ws with
  | [.tup xs] => Q (.int (xs.length : Int)) M
  | [.str z] => z.length ≤ sizeLine ∧ Q (.int (z.length : Int)) M
  | [.cl xs] => Q (.int (xs.length : Int)) M
  | [.ref a] => match rdl (M a) with
    | some xs => Q (.int (xs.length : Int)) M
    | none => False
  | _ => False
theorem w_len : CallW X (.builtin "len") rLen := CallR_imp call_len fun xs H Q ⟨ws, M, Qw, rs, m, q, k⟩ => by
  unfold rLen at q
  split at q
  · obtain ⟨v, e, r⟩ := args1 rs
    subst e
    obtain ⟨a, vs, e, s, r2⟩ := r.untup
    subst e
    exact ⟨_, vs.length, rfl, .inr ⟨vs, s, rfl⟩, by rw [r2.length]; exact k _ M _ H q (Go.refl _ _) rep_int m⟩
  · obtain ⟨v, e, r⟩ := args1 rs
    subst e
    have e := un_str r
    subst e
    exact ⟨_, _, rfl, ⟨q.1, rfl⟩, k _ M _ H q.2 (Go.refl _ _) rep_int m⟩
  · obtain ⟨v, e, r⟩ := args1 rs
    subst e
    obtain ⟨a, vs, e, s, r2⟩ := r.uncl
    subst e
    exact ⟨_, vs.length, rfl, .inl ⟨vs, s.sq, rfl⟩, by rw [r2.length]; exact k _ M _ H q (Go.refl _ _) rep_int m⟩
  · obtain ⟨v, e, r⟩ := args1 rs
    subst e
    have e := un_ref r
    subst e
    split at q
    · rename_i e
      obtain ⟨vs, s, r2⟩ := rdl_sq m e
      exact ⟨_, vs.length, rfl, .inl ⟨vs, s, rfl⟩, by rw [r2.length]; exact k _ M _ H q (Go.refl _ _) rep_int m⟩
    · exact q.elim
  · exact q.elim
def rAbs : RLW := fun ws M Q => match ws with
  | [.int i] => Q (.int (i.natAbs : Int)) M
  | _ => False
theorem w_abs : CallW X (.builtin "abs") rAbs := CallR_imp call_abs fun xs H Q ⟨ws, M, Qw, rs, m, q, k⟩ => by
  unfold rAbs at q
  split at q
  · rename_i i
    obtain ⟨v, e, r⟩ := args1 rs
    subst e
    have e := un_int r
    subst e
    refine ⟨i, rfl, ?_⟩
    have e : (if i < 0 then -i else i) = (i.natAbs : Int) := by split <;> omega
    rw [e]
    exact k _ M _ H q (Go.refl _ _) rep_int m
  · exact q.elim
def rMax2W : RLW := fun ws M Q => match ws with
  | [.int i, .int j] => Q (.int (max i j)) M
  | _ => False
def rMin2W : RLW := fun ws M Q => match ws with
  | [.int i, .int j] => Q (.int (min i j)) M
  | _ => False
theorem w_max2 (hc : X.calm = true) : CallW X (.builtin "max") rMax2W := CallR_imp (call_max2 hc) fun xs H Q ⟨ws, M, Qw, rs, m, q, k⟩ => by
  unfold rMax2W at q
  split at q
  · rename_i i j
    obtain ⟨v, u, e, r1, r2⟩ := args2 rs
    have e1 := un_int r1
    have e2 := un_int r2
    subst e e1 e2
    refine ⟨i, j, rfl, ?_⟩
    have e : (if j > i then j else i) = max i j := by rw [Int.max_def]; split <;> split <;> omega
    rw [e]
    exact k _ M _ H q (Go.refl _ _) rep_int m
  · exact q.elim
theorem w_min2 (hc : X.calm = true) : CallW X (.builtin "min") rMin2W := CallR_imp (call_min2 hc) fun xs H Q ⟨ws, M, Qw, rs, m, q, k⟩ => by
  unfold rMin2W at q
  split at q
  · rename_i i j
    obtain ⟨v, u, e, r1, r2⟩ := args2 rs
    have e1 := un_int r1
    have e2 := un_int r2
    subst e e1 e2
    refine ⟨i, j, rfl, ?_⟩
    have e : (if j < i then j else i) = min i j := by rw [Int.min_def]; split <;> split <;> omega
    rw [e]
    exact k _ M _ H q (Go.refl _ _) rep_int m
  · exact q.elim
def b2i (b : Bool) : Int := if b then 1 else 0
def rInt : RLW := fun ws M Q => match ws with
  | [.int i] => Q (.int i) M
  | [.bl b] => Q (.int (b2i b)) M
  | _ => False
theorem w_int : CallW X (.type "int") rInt := CallR_imp call_int1 fun xs H Q ⟨ws, M, Qw, rs, m, q, k⟩ => by
  unfold rInt at q
  split at q
  · obtain ⟨v, e, r⟩ := args1 rs
    have e1 := un_int r
    subst e e1
    exact .inl ⟨_, rfl, k _ M _ H q (Go.refl _ _) rep_int m⟩
  · obtain ⟨v, e, r⟩ := args1 rs
    have e1 := un_bl r
    subst e e1
    exact .inr ⟨_, rfl, k _ M _ H q (Go.refl _ _) rep_int m⟩
  · exact q.elim
/-- tuple(x), list(x) of lists and tuples -/
def rTup : RLW := fun ws M Q => match ws with
  | [.tup xs] => Q (.tup xs) M
  | [.ref a] => match rdl (M a) with
    | some xs => Q (.tup xs) M
    | none => False
  | _ => False
theorem w_tup : CallW X (.type "tuple") rTup := CallR_imp call_tuple_of fun xs H Q ⟨ws, M, Qw, rs, m, q, k⟩ => by
  unfold rTup at q
  split at q
  · obtain ⟨v, e, r⟩ := args1 rs
    subst e
    obtain ⟨a, vs, e, s, r2⟩ := r.untup
    subst e
    exact ⟨a, vs, rfl, .inr ⟨s, k _ M _ H q (Go.refl _ _) (Rep.tup s r2) m⟩⟩
  · obtain ⟨v, e, r⟩ := args1 rs
    subst e
    have e := un_ref r
    subst e
    split at q
    · rename_i e
      obtain ⟨vs, s, r2⟩ := rdl_sq m e
      exact ⟨_, vs, rfl, .inl ⟨s, fun l hl => k _ M _ _ q (Go.same (sameNew hl)) (Rep.tup (SqT.of upd_same) (r2.go (GoH.new hl))) (m.new hl)⟩⟩
    · exact q.elim
  · exact q.elim
def rLst : RLW := fun ws M Q => match ws with
  | [.tup xs] => ∀ p, M p = none → Q (.ref p) (put M p (.lst xs))
  | [.cl xs] => ∀ p, M p = none → Q (.ref p) (put M p (.lst xs))
  | [.ref a] => match rdl (M a) with
    | some xs => ∀ p, M p = none → Q (.ref p) (put M p (.lst xs))
    | none => False
  | _ => False
theorem w_lst : CallW X (.type "list") rLst := CallR_imp call_list_of fun xs H Q ⟨ws, M, Qw, rs, m, q, k⟩ => by
  have fin : ∀ {ys : List W} {vs : List V} {l : Addr}, Reps X.K H ys vs → H l = none → (∀ p, M p = none → Qw (.ref p) (put M p (.lst ys))) → Q (.ref l) (upd H l (.lst vs)) := fun {ys vs l} r hl q =>
    k _ _ _ _ (q l (m.free hl)) (Go.new hl) rep_ref (m.put (GoH.new hl) ⟨vs, upd_same, r.go (GoH.new hl)⟩)
  unfold rLst at q
  split at q
  · obtain ⟨v, e, r⟩ := args1 rs
    subst e
    obtain ⟨a, vs, e, s, r2⟩ := r.untup
    subst e
    exact ⟨a, vs, rfl, .inr s, fun l hl => fin r2 hl q⟩
  · obtain ⟨v, e, r⟩ := args1 rs
    subst e
    obtain ⟨a, vs, e, s, r2⟩ := r.uncl
    subst e
    exact ⟨a, vs, rfl, .inl s.sq, fun l hl => fin r2 hl q⟩
  · obtain ⟨v, e, r⟩ := args1 rs
    subst e
    have e := un_ref r
    subst e
    split at q
    · rename_i e
      obtain ⟨vs, s, r2⟩ := rdl_sq m e
      exact ⟨_, vs, rfl, .inl s, fun l hl => fin r2 hl q⟩
    · exact q.elim
  · exact q.elim
/-- all(list of truths) -/
def rAll2 : RLW := fun ws M Q => match ws with
  | [.ref a] => ∃ bs : List Bool, rdl (M a) = some (bs.map W.bl) ∧ Q (.bl (bs.all fun b => b)) M
  | _ => False
theorem bls_rep : ∀ {bs : List Bool} {vs : List V}, Reps K H (bs.map W.bl) vs → vs = bs.map V.bl
  | [], _, r => r.unnil
  | b :: bs, vs, r => by
    obtain ⟨v, vr, e, h1, h2⟩ := r.uncons
    rw [e, un_bl h1, bls_rep h2]; rfl
theorem w_all (hc : X.calm = true) : CallW X (.builtin "all") rAll2 := CallR_imp (cr_all hc) fun xs H Q ⟨ws, M, Qw, rs, m, q, k⟩ => by
  unfold rAll2 at q
  split at q
  · obtain ⟨v, e, r⟩ := args1 rs
    subst e
    have e := un_ref r
    subst e
    obtain ⟨bs, h, q⟩ := q
    obtain ⟨vs, s, r2⟩ := rdl_sq m h
    rw [bls_rep r2] at s
    exact ⟨_, bs, rfl, s, k _ M _ H q (Go.refl _ _) rep_bl m⟩
  · exact q.elim
/-- sum(list of whole numbers) -/
def rSum2 : RLW := fun ws M Q => match ws with
  | [.ref a] => ∃ ns : List Int, rdl (M a) = some (ns.map W.int) ∧ Q (.int ns.sum) M
  | _ => False
theorem w_sum (hc : X.calm = true) : CallW X (.builtin "sum") rSum2 := CallR_imp (cr_sum hc) fun xs H Q ⟨ws, M, Qw, rs, m, q, k⟩ => by
  unfold rSum2 at q
  split at q
  · obtain ⟨v, e, r⟩ := args1 rs
    subst e
    have e := un_ref r
    subst e
    obtain ⟨ns, h, q⟩ := q
    obtain ⟨vs, s, r2⟩ := rdl_sq m h
    rw [r2.ints] at s
    exact ⟨_, ns, rfl, s, k _ M _ H q (Go.refl _ _) rep_int m⟩
  · exact q.elim
/-- sorted(list of whole numbers), sorted(dict by whole numbers: below 64) -/
def rSorted2 : RLW := fun ws M Q => match ws with
  | [.ref a] => (∃ ns : List Int, rdl (M a) = some (ns.map W.int) ∧ ∀ ns' : List Int, ns'.Perm ns → ns'.Pairwise (· ≤ ·) → ∀ p, M p = none → Q (.ref p) (put M p (.lst (ns'.map W.int)))) ∨
    (∃ (kvs : List (Key × W)) (ks : List Int), rdK (M a) = some kvs ∧ kvs.map (·.1) = ks.map Sum.inl ∧ ks.length < 64 ∧ ∀ ns' : List Int, ns'.Perm ks → ns'.Pairwise (· ≤ ·) → ∀ p, M p = none → Q (.ref p) (put M p (.lst (ns'.map W.int))))
  | _ => False
theorem w_sorted (hc : X.calm = true) : CallW X (.builtin "sorted") rSorted2 := CallR_imp (CallR.or cr_sortedI (call_sortedDI hc)) fun xs H Q ⟨ws, M, Qw, rs, m, q, k⟩ => by
  unfold rSorted2 at q
  split at q
  · obtain ⟨v, e, r⟩ := args1 rs
    subst e
    have e := un_ref r
    subst e
    rcases q with ⟨ns, h, q⟩ | ⟨kvs, ks, h, e1, h2, q⟩
    · obtain ⟨vs, s, r2⟩ := rdl_sq m h
      rw [r2.ints] at s
      refine .inl ⟨_, ns, rfl, s, fun ns' p h1 h2 hp => ?_⟩
      exact k _ _ _ _ (q ns' h1 h2 p (m.free hp)) (Go.new hp) rep_ref (m.put (GoH.new hp) ⟨_, upd_same, Reps.of_ints⟩)
    · obtain ⟨xs, rd, p⟩ := rdK_rd m h
      have e2 : xs.map (·.1) = kvs.map (·.1) := by
        clear rd h e1 q
        induction p with
        | nil => rfl
        | cons r _ ih => rw [List.map_cons, List.map_cons, ih, r.1]
      refine .inr ⟨_, xs, ks, rfl, rd, e2.trans e1, h2, fun ns' p h1 h2 hp => ?_⟩
      exact k _ _ _ _ (q ns' h1 h2 p (m.free hp)) (Go.new hp) rep_ref (m.put (GoH.new hp) ⟨_, upd_same, Reps.of_ints⟩)
  · exact q.elim
end

/-! ### isinstance, a new dict, module constants -/
inductive Tn where
  | int | bool | str | tuple | list | dict
def Tn.nm : Tn → String
  | .int => "int" | .bool => "bool" | .str => "str" | .tuple => "tuple" | .list => "list" | .dict => "dict"
def Tn.has : Tn → W → Option Ob → Option Bool
  | .int, .int _, _ => some true
  | .int, .bl _, _ => some true
  | .bool, .bl _, _ => some true
  | .str, .str _, _ => some true
  | .tuple, .tup _, _ => some true
  | .list, .ref _, some (.lst _) => some true
  | .list, .cl _, _ => some true
  | .dict, .ref _, some (.dK _) => some true
  | .dict, .ref _, some (.lkK _) => some true
  | _, .ref _, some (.lst _) => some false
  | _, .ref _, some (.dK _) => some false
  | _, .ref _, some (.lkK _) => some false
  | _, .ref _, _ => none
  | _, _, _ => some false
end PV
set_option maxHeartbeats 1000000
/-! PV: isinstance, new dicts, constants of the module. -/
namespace PV
open PySem PySem.Spec PyProof.Rows L2

section
variable {Y : Cy} {e : Expr} {pos p p2 : Pos} {K : PySem.W.Frag} {H : Hp} {B : Kx} {M : Me}
def obOf (M : Me) : W → Option Ob
  | .ref a => M a
  | _ => none
def wIsi (T : Tn) (t : WE) : WE := fun ρ M Q => t ρ M fun x M1 => match T.has x (obOf M1 x) with
  | some b => Q (.bl b) M1
  | none => False
theorem ty_tup {ws : List W} {v : V} (r : Rep K H (.tup ws) v) : TyX K H v (.type "tuple") := by
  obtain ⟨a, vs, e, s, _⟩ := r.untup
  subst e
  rcases s with (h | ⟨o, h⟩) | ⟨o, its, n, h1, h2, _⟩
  · exact .base (.tup h)
  · exact .fTuple h
  · exact .kTuple h1 h2
/-- a value's type by its form -/
def tyN : W → Option Ob → Option String
  | .non, _ => some "NoneType"
  | .bl _, _ => some "bool"
  | .int _, _ => some "int"
  | .str _, _ => some "str"
  | .tup _, _ => some "tuple"
  | .ref _, some (.lst _) => some "list"
  | .cl _, _ => some "list"
  | .ref _, some (.dK _) => some "dict"
  | .ref _, some (.lkK _) => some "dict"
  | .ref _, _ => none
theorem ty_of {w : W} {v : V} {n : String} (m : Mo B H M) (r : Rep B.K H w v) (h : tyN w (obOf M w) = some n) : TyX B.K H v (.type n) := by
  cases w with
  | non => cases h; rw [un_non r]; exact .base .non
  | bl b => cases h; rw [un_bl r]; exact .base (.bl b)
  | int i => cases h; rw [un_int r]; exact .base (.int i)
  | str x => cases h; rw [un_str r]; exact .base (.str x)
  | tup ws => cases h; exact ty_tup r
  | cl ws =>
    cases h
    obtain ⟨a, vs, e, s, _⟩ := r.uncl
    subst e
    rcases s with ⟨o, s⟩ | ⟨o, its, n, h1, h2, _⟩
    · exact .base (.frz s)
    · exact .kList h1 h2
  | ref a =>
    rw [un_ref r]
    cases e : M a with
    | none => simp only [obOf, e, tyN] at h; cases h
    | some o =>
      simp only [obOf, e] at h
      cases o with
      | lst xs =>
        cases h
        obtain ⟨vs, h1, _⟩ := m a _ e
        exact .base (.lst h1)
      | dK xs =>
        cases h
        obtain ⟨vs, h1, _⟩ := m a _ e
        exact .base (.dK h1)
      | lkK xs =>
        cases h
        obtain ⟨o, vs, h1, _⟩ := m a _ e
        exact .fDict h1
      | _ => cases h
def kitN (n : String) (T : Tn) : Bool := n == T.nm || (n == "bool" && T.nm == "int")
theorem kit_all (T : Tn) : kitB "NoneType" T.nm = some (kitN "NoneType" T) ∧ kitB "bool" T.nm = some (kitN "bool" T) ∧ kitB "int" T.nm = some (kitN "int" T) ∧ kitB "str" T.nm = some (kitN "str" T) ∧
    kitB "tuple" T.nm = some (kitN "tuple" T) ∧ kitB "list" T.nm = some (kitN "list" T) ∧ kitB "dict" T.nm = some (kitN "dict" T) := by
  cases T <;> decide +kernel
theorem has_kit {T : Tn} {w : W} {o : Option Ob} {b : Bool} (h : T.has w o = some b) : ∃ n, tyN w o = some n ∧ kitB n T.nm = some b := by
  obtain ⟨k1, k2, k3, k4, k5, k6, k7⟩ := kit_all T
  cases w with
  | non => refine ⟨_, rfl, ?_⟩; cases T <;> cases h <;> exact k1
  | bl x => refine ⟨_, rfl, ?_⟩; cases T <;> cases h <;> exact k2
  | int x => refine ⟨_, rfl, ?_⟩; cases T <;> cases h <;> exact k3
  | str x => refine ⟨_, rfl, ?_⟩; cases T <;> cases h <;> exact k4
  | tup x => refine ⟨_, rfl, ?_⟩; cases T <;> cases h <;> exact k5
  | cl x => refine ⟨_, rfl, ?_⟩; cases T <;> cases h <;> exact k6
  | ref a =>
    cases o with
    | none => cases T <;> cases h
    | some o =>
      cases o with
      | lst x => refine ⟨_, rfl, ?_⟩; cases T <;> cases h <;> exact k6
      | dK x => refine ⟨_, rfl, ?_⟩; cases T <;> cases h <;> exact k7
      | lkK x => refine ⟨_, rfl, ?_⟩; cases T <;> cases h <;> exact k7
      | _ => cases T <;> cases h
theorem q_isi {x : Str} (T : Tn) {t : WE} (h : QE Y e t) (hg : Gl Y.X "isinstance") (hm : Y.X.mg "isinstance" = none) (hgT : Gl Y.X x) (hmT : Y.X.mg x = none) (hv : bootBuiltins x = some (.type T.nm) := by decide +kernel) (hn : x ≠ "__name__" := by decide)
    (hdb : (x == ("__debug__" : Str)) = false := by decide) (hs : starEach [e, .Name x p2] Y.X.env = (false, eval e Y.X.env) :: starEach [.Name x p2] Y.X.env := by rfl) (hs2 : starEach [.Name x p2] Y.X.env = (false, eval (.Name x p2) Y.X.env) :: starEach [] Y.X.env := by rfl)
    (hpl : (backTo pos (starEach [.Name x p2] Y.X.env)).any (·.1) = false := by rfl) :
    QE Y (.Call (.Name "isinstance" p) [e, .Name x p2] [] pos) (wIsi T t) :=
  PE_imp (pe_callB (id := "isinstance") call_isi hg hm (by decide +kernel) (pa_cons h (pa_cons (pe_bltn (v := .ty T.nm) hgT hmT hv rfl hn hdb) pa_nil hs2) hs) (by decide) (by decide) hs hpl) fun σ H Q ⟨ρ, M, Qw, so, q, k⟩ => ⟨ρ, M, _, so, q, fun w M1 v H1 q1 g r m => by
    split at q1
    · rename_i b e
      obtain ⟨n, h1, h2⟩ := has_kit e
      exact ⟨v, .ty T.nm, .type n, .type T.nm, b, rfl, .ty _, ty_of m r h1, kit_ty h2, k _ M1 _ H1 q1 g rep_bl m⟩
    · exact q1.elim⟩
def wNewK : WE := fun _ M Q => ∀ p, M p = none → Q (.ref p) (put M p (.dK []))
def wNewN : WE := fun _ M Q => ∀ p, M p = none → Q (.ref p) (put M p (.dN []))
theorem q_newK : QE Y (.Dict [] [] pos) wNewK := PE_imp pe_dnewK fun σ H Q ⟨ρ, M, Qw, so, q, k⟩ => fun p hp => k _ _ _ _ (q p (so.mo.free hp)) (Go.new hp) rep_ref (so.mo.put (GoH.new hp) ⟨[], upd_same, .nil⟩)
theorem pe_newN {X : Cx} : PE X (.Dict [] [] pos) (fun _ H Q => ∀ p, H p = none → (p == sysModules) = false → Q (.ref p) (upd H p (.ext (DRaw p #[])))) := ⟨fun pins s σ H Q I h => by
  have nb : (s.heap.objs.size == sysModules) = false := beq_eq_false_iff_ne.mpr (Nat.ne_of_gt I.big)
  have hn : H s.heap.objs.size = none := I.hok.fresh (Nat.le_refl _)
  refine wpAny_Dict_empty ⟨.ref s.heap.objs.size, upd H s.heap.objs.size (.ext (DRaw s.heap.objs.size #[])), I.laid (t' := s.toks) (fun b u e => Heap.get?_push_of_some _ e) (Nat.le_refl _) ?_, rfl, h _ hn nb⟩
  have hd : DRaw s.heap.objs.size #[] (s.heap.push { cls := .type "dict", data := .dict #[] }) := ⟨_, 0, Heap.get?_push_size _ rfl, ⟨rfl, rfl, rfl⟩, rfl⟩
  exact ⟨hd, ⟨_, Heap.get?_push_size _ rfl⟩, fun h1 h2 ⟨o2, ep2, z1, z2⟩ st => ⟨o2, ep2, st _ z1, z2⟩⟩⟩
theorem q_newN : QE Y (.Dict [] [] pos) wNewN := PE_imp pe_newN fun σ H Q ⟨ρ, M, Qw, so, q, k⟩ => fun p hp hs =>
  k _ _ _ _ (q p (so.mo.free hp)) (Go.new hp) rep_ref (so.mo.put (GoH.new hp) ⟨#[], upd_same, hs, ⟨Nat.zero_le _, [], .nil, rfl, List.nodup_nil⟩⟩)
/-- a constant of the module -/
theorem q_glob {x : Str} {v : V} {w : W} {u : Value} (hg : Gl Y.X x) (hm : Y.X.mg x = some u) (rv : RelV v u) (r : ∀ H, Rep Y.X.K H w v) (hd : (x == ("__debug__" : Str)) = false := by decide) : QE Y (.Name x pos) (wC w) := q_const (pe_glob hg hm rv hd) r
theorem q_globI {x : Str} {i : Int} (hm : ∃ t, Y.X.mg x = some (.int i t)) (hg : Gl Y.X x := by rfl) (hd : (x == ("__debug__" : Str)) = false := by decide) : QE Y (.Name x pos) (wC (.int i)) := hm.elim fun t hm => q_glob (v := .int i) hg hm ⟨_, rfl⟩ (fun _ => rep_int) hd
theorem q_globS {x z : Str} (hm : ∃ t, Y.X.mg x = some (.str z t)) (hg : Gl Y.X x := by rfl) (hd : (x == ("__debug__" : Str)) = false := by decide) : QE Y (.Name x pos) (wC (.str z)) := hm.elim fun t hm => q_glob (v := .str z) hg hm ⟨_, rfl⟩ (fun _ => rep_str) hd
theorem q_chain {op op' : CmpOp} {r r' : R2W} {a b c : Expr} {ta tb tc : WE} (ho : OpW Y.X (compareOp op) r) (ho' : OpW Y.X (compareOp op') r') (ha : QE Y a ta) (hb : QE Y b tb) (hc : QE Y c tc)
    (hm : lastMarks [op, op'] [b, c] = false := by with_unfolding_all rfl) : QE Y (.Compare a [op, op'] [b, c] pos) (wChain r r' ta tb tc) := PE_imp (pe_chain ho ho' ha hb hc hm) fun _ _ _ h => up_chain h
theorem qt_chain {op op' : CmpOp} {r r' : R2W} {a b c : Expr} {ta tb tc : WE} (ho : OpW Y.X (compareOp op) r) (ho' : OpW Y.X (compareOp op') r') (ha : QE Y a ta) (hb : QE Y b tb) (hc : QE Y c tc)
    (hm : lastMarks [op, op'] [b, c] = false := by with_unfolding_all rfl) : QT Y (.Compare a [op, op'] [b, c] pos) (wB (wChain r r' ta tb tc)) := PT_imp (pt_chain ho ho' ha hb hc hm) fun σ H Q ⟨ρ, M, Qw, so, q, k⟩ =>
  up_chain (Q := fun v H1 => ∃ k, v = .bl k ∧ Q k H1) ⟨ρ, M, _, so, q, fun w M1 v H1 q1 g r m => by
    split at q1
    · exact ⟨_, un_bl r, k _ M1 H1 q1 g m⟩
    · exact q1.elim⟩
end
end PV
set_option maxHeartbeats 1000000
/-! PV: loops in use, the law's end. -/
namespace PV
open PySem PySem.Spec PyProof.Rows L2

section
variable {f : ItW} {g : WG} {tt : WT} {te : WE} {tb : WS} {D : Eds} {ρ : En} {M : Me} {Q : WK} {vs : List Nat}
/-- what a turn is to reach -/
abbrev nxt (D : Eds) (I : En → Me → Prop) : Eds := { D with nx := fun ρ' M' => ∃ M0, Sub M0 M' ∧ I ρ' M0, ct := fun ρ' M' => ∃ M0, Sub M0 M' ∧ I ρ' M0, bk := D.nx }
theorem for_c {ws : List W} (I : Nat → En → Me → Prop) (h0 : I 0 ρ M) (hs : ∀ i w ρ M, ws[i]? = some w → I i ρ M → g w ρ M (tb (nxt D (I (i + 1))))) (hd : ∀ ρ M, I ws.length ρ M → D.nx ρ M) : wForB (fun _ => some ws) g tb D ρ M :=
  ⟨fun i ρ M => i ≤ ws.length ∧ I i ρ M, ws.length, ⟨Nat.zero_le _, h0⟩, fun i ρ M h => h.1, fun i ρ M ⟨hi, h⟩ => ⟨ws, rfl, fun w hw => by
    have hl : i + 1 ≤ ws.length := (List.getElem?_eq_some_iff.mp hw).1
    have z := hs i w ρ M hw h
    have e : (fun i => (fun ρ' (M' : Me) => ∃ M0, Sub M0 M' ∧ I i ρ' M0)) = fun i => fun ρ' M' => ∃ M0, Sub M0 M' ∧ I i ρ' M0 := rfl
    have e2 : (fun (ρ' : En) (M' : Me) => ∃ M0, Sub M0 M' ∧ I (i + 1) ρ' M0) = fun ρ' M' => ∃ M0, Sub M0 M' ∧ (i + 1 ≤ ws.length ∧ I (i + 1) ρ' M0) := by
      funext ρ' M'
      exact propext ⟨fun ⟨M0, a, b⟩ => ⟨M0, a, hl, b⟩, fun ⟨M0, a, _, b⟩ => ⟨M0, a, b⟩⟩
    unfold nxt at z
    rw [e2] at z
    exact z, fun hl => hd ρ M (by
      have e : i = ws.length := by omega
      rw [← e]; exact h)⟩⟩
theorem for_l {a : Addr} {ws : List W} (I : Nat → En → Me → Prop) (h0 : I 0 ρ M) (hl : ∀ i ρ M, I i ρ M → M a = some (.lst ws)) (hs : ∀ i w ρ M, ws[i]? = some w → I i ρ M → g w ρ M (tb (nxt D (I (i + 1))))) (hd : ∀ ρ M, I ws.length ρ M → D.nx ρ M) : wForB (fun M => rdl (M a)) g tb D ρ M :=
  ⟨fun i ρ M => i ≤ ws.length ∧ I i ρ M, ws.length, ⟨Nat.zero_le _, h0⟩, fun i ρ M h => h.1, fun i ρ M ⟨hi, h⟩ => ⟨ws, by show rdl (M a) = some ws; rw [hl i ρ M h]; rfl, fun w hw => by
    have hl : i + 1 ≤ ws.length := (List.getElem?_eq_some_iff.mp hw).1
    have z := hs i w ρ M hw h
    have e2 : (fun (ρ' : En) (M' : Me) => ∃ M0, Sub M0 M' ∧ I (i + 1) ρ' M0) = fun ρ' M' => ∃ M0, Sub M0 M' ∧ (i + 1 ≤ ws.length ∧ I (i + 1) ρ' M0) := by
      funext ρ' M'
      exact propext ⟨fun ⟨M0, a, b⟩ => ⟨M0, a, hl, b⟩, fun ⟨M0, a, _, b⟩ => ⟨M0, a, b⟩⟩
    unfold nxt at z
    rw [e2] at z
    exact z, fun hl => hd ρ M (by
      have e : i = ws.length := by omega
      rw [← e]; exact h)⟩⟩
theorem rngW_len (lo hi : Int) : (rngW lo hi).length = (hi - lo).toNat := by unfold rngW; rw [List.length_map, List.length_range]
theorem rngW_get {lo hi : Int} {i : Nat} {w : W} (h : (rngW lo hi)[i]? = some w) : w = .int (lo + (i : Int)) ∧ (i : Int) < hi - lo := by
  unfold rngW at h
  rw [List.getElem?_map] at h
  by_cases hl : i < (hi - lo).toNat
  · rw [List.getElem?_range hl] at h
    exact ⟨(by simpa using h.symm), by omega⟩
  · rw [List.getElem?_eq_none (by simpa using hl)] at h; cases h
/-- over range(lo, hi) -/
theorem for_r {lo hi : Int} (I : Nat → En → Me → Prop) (h0 : I 0 ρ M) (hs : ∀ (i : Nat) ρ M, (i : Int) < hi - lo → I i ρ M → g (.int (lo + (i : Int))) ρ M (tb (nxt D (I (i + 1))))) (hd : ∀ ρ M, I (hi - lo).toNat ρ M → D.nx ρ M) : wForB (fun _ => some (rngW lo hi)) g tb D ρ M :=
  for_c I h0 (fun i w ρ M hw h => by
    obtain ⟨e, hl⟩ := rngW_get hw
    rw [e]
    exact hs i ρ M hl h) (fun ρ M h => hd ρ M (by rw [rngW_len] at h; exact h))
/-- a while -/
theorem while_w {c : WT} (I : Nat → En → Me → Prop) (m : Nat) (h0 : I m ρ M) (hs : ∀ m ρ M, I m ρ M → c ρ M fun x M1 => match x with
    | true => tb (nxt D (fun ρ' M' => ∃ m', m' < m ∧ I m' ρ' M')) ρ M1
    | false => D.nx ρ M1) : wWhile c tb D ρ M := ⟨I, ⟨m, h0⟩, hs⟩

/-! comprehensions -/
theorem lc_c {ws : List W} (hz : ws.length ≤ 16000000) (I : Nat → List W → Me → Prop) (h0 : I 0 [] M)
    (hs : ∀ i acc w M, ws[i]? = some w → I i acc M → g w (wWipe ρ vs) M fun ρ2 M2 => tt ρ2 M2 fun b M3 => match b with
      | true => te ρ2 M3 fun y M4 => ∃ M0, Sub M0 M4 ∧ I (i + 1) (acc ++ [y]) M0
      | false => ∃ M0, Sub M0 M3 ∧ I (i + 1) acc M0) (hd : ∀ acc M, I ws.length acc M → ∀ p, M p = none → Q (.ref p) (put M p (.lst acc))) : wLcB (fun _ => some ws) g tt te vs ρ M Q := by
  refine ⟨fun i acc M => i ≤ ws.length ∧ acc.length ≤ i ∧ I i acc M, ws.length, ⟨Nat.zero_le _, Nat.le_refl _, h0⟩, fun i acc M h => h.1, fun i acc M ⟨hi, ha, h⟩ => ⟨?_, ws, rfl, fun w hw => ?_, fun hl => hd acc M (by
      have e : i = ws.length := by omega
      rw [← e]; exact h)⟩⟩
  · have : (16777216 : Nat) = sizeLine := sizeLine_eq.symm
    omega
  · have hl : i + 1 ≤ ws.length := (List.getElem?_eq_some_iff.mp hw).1
    have z := hs i acc w M hw h
    have e1 : ∀ (y : W) (M4 : Me), (∃ M0, Sub M0 M4 ∧ I (i + 1) (acc ++ [y]) M0) = ∃ M0, Sub M0 M4 ∧ (i + 1 ≤ ws.length ∧ (acc ++ [y]).length ≤ i + 1 ∧ I (i + 1) (acc ++ [y]) M0) := fun y M4 =>
      propext ⟨fun ⟨M0, a, b⟩ => ⟨M0, a, hl, by rw [List.length_append]; simp; omega, b⟩, fun ⟨M0, a, _, _, b⟩ => ⟨M0, a, b⟩⟩
    have e2 : ∀ (M3 : Me), (∃ M0, Sub M0 M3 ∧ I (i + 1) acc M0) = ∃ M0, Sub M0 M3 ∧ (i + 1 ≤ ws.length ∧ acc.length ≤ i + 1 ∧ I (i + 1) acc M0) := fun M3 =>
      propext ⟨fun ⟨M0, a, b⟩ => ⟨M0, a, hl, by omega, b⟩, fun ⟨M0, a, _, _, b⟩ => ⟨M0, a, b⟩⟩
    simp only [e1, e2] at z
    exact z
theorem lc_l {a : Addr} {ws : List W} (hz : ws.length ≤ 16000000) (I : Nat → List W → Me → Prop) (h0 : I 0 [] M) (hr : ∀ i acc M, I i acc M → M a = some (.lst ws))
    (hs : ∀ i acc w M, ws[i]? = some w → I i acc M → g w (wWipe ρ vs) M fun ρ2 M2 => tt ρ2 M2 fun b M3 => match b with
      | true => te ρ2 M3 fun y M4 => ∃ M0, Sub M0 M4 ∧ I (i + 1) (acc ++ [y]) M0
      | false => ∃ M0, Sub M0 M3 ∧ I (i + 1) acc M0) (hd : ∀ acc M, I ws.length acc M → ∀ p, M p = none → Q (.ref p) (put M p (.lst acc))) : wLcB (fun M => rdl (M a)) g tt te vs ρ M Q := by
  refine ⟨fun i acc M => i ≤ ws.length ∧ acc.length ≤ i ∧ I i acc M, ws.length, ⟨Nat.zero_le _, Nat.le_refl _, h0⟩, fun i acc M h => h.1, fun i acc M ⟨hi, ha, h⟩ => ⟨?_, ws, by show rdl (M a) = some ws; rw [hr i acc M h]; rfl, fun w hw => ?_, fun hl => hd acc M (by
      have e : i = ws.length := by omega
      rw [← e]; exact h)⟩⟩
  · have : (16777216 : Nat) = sizeLine := sizeLine_eq.symm
    omega
  · have hl : i + 1 ≤ ws.length := (List.getElem?_eq_some_iff.mp hw).1
    have z := hs i acc w M hw h
    have e1 : ∀ (y : W) (M4 : Me), (∃ M0, Sub M0 M4 ∧ I (i + 1) (acc ++ [y]) M0) = ∃ M0, Sub M0 M4 ∧ (i + 1 ≤ ws.length ∧ (acc ++ [y]).length ≤ i + 1 ∧ I (i + 1) (acc ++ [y]) M0) := fun y M4 =>
      propext ⟨fun ⟨M0, a, b⟩ => ⟨M0, a, hl, by rw [List.length_append]; simp; omega, b⟩, fun ⟨M0, a, _, _, b⟩ => ⟨M0, a, b⟩⟩
    have e2 : ∀ (M3 : Me), (∃ M0, Sub M0 M3 ∧ I (i + 1) acc M0) = ∃ M0, Sub M0 M3 ∧ (i + 1 ≤ ws.length ∧ acc.length ≤ i + 1 ∧ I (i + 1) acc M0) := fun M3 =>
      propext ⟨fun ⟨M0, a, b⟩ => ⟨M0, a, hl, by omega, b⟩, fun ⟨M0, a, _, _, b⟩ => ⟨M0, a, b⟩⟩
    simp only [e1, e2] at z
    exact z
theorem filter_take {ws : List W} {i : Nat} {w : W} {p : W → Bool} {v : W → W} (h : ws[i]? = some w) : ((ws.take (i + 1)).filter p).map v = ((ws.take i).filter p).map v ++ (if p w = true then [v w] else []) := by
  have e : ws.take (i + 1) = ws.take i ++ [w] := by rw [List.take_succ, h]; rfl
  rw [e, List.filter_append, List.map_append]
  by_cases hp : p w = true
  · rw [if_pos hp, List.filter_cons, if_pos hp]; rfl
  · rw [if_neg hp, List.filter_cons, if_neg hp]; rfl
/-- the block changes nothing -/
theorem lc_fm {ws : List W} (hf : f M = some ws) (hz : ws.length ≤ 16000000) (p : W → Bool) (v : W → W)
    (hs : ∀ (i : Nat) (w : W), ws[i]? = some w → ∀ (R : WK) (R0 : Me → Prop), (p w = true → ∀ M4, Sub M M4 → R (v w) M4) → (p w = false → ∀ M3, Sub M M3 → R0 M3) →
      g w (wWipe ρ vs) M fun ρ2 M2 => tt ρ2 M2 fun b M3 => match b with
      | true => te ρ2 M3 R
      | false => R0 M3) (hd : ∀ q, M q = none → Q (.ref q) (put M q (.lst ((ws.filter p).map v)))) : wLcB f g tt te vs ρ M Q := by
  refine ⟨fun i acc M' => M' = M ∧ i ≤ ws.length ∧ acc = ((ws.take i).filter p).map v, ws.length, ⟨rfl, Nat.zero_le _, by simp⟩, fun i acc M h => h.2.1, fun i acc M' ⟨e, hi, ha⟩ => ⟨?_, ws, by rw [e]; exact hf, fun w hw => ?_, fun hl => ?_⟩⟩
  · have : (16777216 : Nat) = sizeLine := sizeLine_eq.symm
    have h1 : acc.length ≤ i := by
      rw [ha, List.length_map]
      have := List.length_filter_le p (ws.take i)
      rw [List.length_take] at this
      omega
    omega
  · subst e
    have hl : i + 1 ≤ ws.length := (List.getElem?_eq_some_iff.mp hw).1
    have ft := filter_take (p := p) (v := v) hw
    exact hs i w hw _ _ (fun hp M4 s => ⟨M', s, rfl, hl, by rw [ft, if_pos hp, ha]⟩) (fun hp M3 s => ⟨M', s, rfl, hl, by rw [ft, if_neg (by rw [hp]; exact Bool.false_ne_true), ha, List.append_nil]⟩)
  · subst e
    have e2 : acc = (ws.filter p).map v := by
      rw [ha]
      have : i = ws.length := by omega
      rw [this, List.take_length]
    rw [e2]
    exact hd
/-- .. and keeps all -/
theorem lc_m {ws : List W} (hf : f M = some ws) (hz : ws.length ≤ 16000000) (v : W → W)
    (hs : ∀ (i : Nat) (w : W), ws[i]? = some w → ∀ (R : WK), (∀ M4, Sub M M4 → R (v w) M4) → g w (wWipe ρ vs) M fun ρ2 M2 => te ρ2 M2 R) (hd : ∀ q, M q = none → Q (.ref q) (put M q (.lst (ws.map v)))) : wLcB f g wYes te vs ρ M Q :=
  lc_fm hf hz (fun _ => true) v (fun i w hw R R0 h1 _ => hs i w hw R (h1 rfl)) (by rw [show ws.filter (fun _ => true) = ws from List.filter_eq_self.mpr (fun _ _ => rfl)]; exact hd)
end
/-! ### draws: a list of whole numbers that is used up -/
theorem put_none {M : Me} {a b : Addr} {o : Ob} : put M a o b = none ↔ b ≠ a ∧ M b = none := by
  unfold put
  by_cases h : b = a
  · simp [h]
  · simp [h]
/-- all but a as it was (new things aside), at a a list of whole numbers -/
def DrS (a : Addr) (M M' : Me) : Prop := (∀ b o, b ≠ a → M b = some o → M' b = some o) ∧ ∃ ds : List Int, M' a = some (.lst (ds.map W.int))
section
variable {a p : Addr} {M M' : Me} {o : Ob} {ds : List Int}
theorem DrS.refl (h : M a = some (.lst (ds.map W.int))) : DrS a M M := ⟨fun _ _ _ h => h, ds, h⟩
theorem DrS.step (h : DrS a M M') : DrS a M (put M' a (.lst (ds.map W.int))) := ⟨fun b o n e => by rw [put_ne n]; exact h.1 b o n e, ds, put_same⟩
theorem DrS.new (h : DrS a M M') (n : M' p = none) : DrS a M (put M' p o) := ⟨fun b u ne e => put_old (h.1 b u ne e) n, h.2.elim fun ds e => ⟨ds, put_old e n⟩⟩
theorem DrS.trans {M2 : Me} (h : DrS a M M') (h2 : DrS a M' M2) : DrS a M M2 := ⟨fun b o n e => h2.1 b o n (h.1 b o n e), h2.2⟩
/-- a local thing changes -/
theorem DrS.loc {u : Ob} (h : DrS a M M') (n : M p = none) (ne : p ≠ a) : DrS a M (put M' p u) := ⟨fun b x nb e => by
  rw [put_ne (fun z => by rw [z, n] at e; cases e)]; exact h.1 b x nb e, h.2.elim fun ds e => ⟨ds, by rw [put_ne (Ne.symm ne)]; exact e⟩⟩
theorem DrS.sub (h : DrS a M M') : ∃ ds : List Int, Sub (put M a (.lst (ds.map W.int))) M' := by
  obtain ⟨h1, ds, h2⟩ := h
  refine ⟨ds, fun b o e => ?_⟩
  by_cases n : b = a
  · subst n; rw [put_same] at e; cases e; exact h2
  · rw [put_ne n] at e; exact h1 b o n e
end
/-! ### places of short lists -/
section
variable {α : Type} {a b c d e : α} {r : List α}
theorem atI_of {xs : List α} {i : Int} {v : α} (h0 : 0 ≤ i) (h : xs[i.toNat]? = some v) : atI xs i = some v := by
  have h1 := atI_nat h
  rw [Int.toNat_of_nonneg h0] at h1
  exact h1
theorem atI_0 : atI (a :: r) 0 = some a := atI_of (by decide) rfl
theorem atI_1 : atI (a :: b :: r) 1 = some b := atI_of (by decide) rfl
theorem atI_2 : atI (a :: b :: c :: r) 2 = some c := atI_of (by decide) rfl
theorem atI_3 : atI (a :: b :: c :: d :: r) 3 = some d := atI_of (by decide) rfl
theorem atI_4 : atI (a :: b :: c :: d :: e :: r) 4 = some e := atI_of (by decide) rfl
theorem atI_m1 : atI [a] (-1) = some a := rfl
theorem atI_m2 : atI [a, b] (-1) = some b := rfl
theorem atI_m3 : atI [a, b, c] (-1) = some c := rfl
theorem atI_m4 : atI [a, b, c, d] (-1) = some d := rfl
theorem atI_m5 : atI [a, b, c, d, e] (-1) = some e := rfl
end
theorem cut_1 {a : W} {r : List W} : cutW (a :: r) (some 1) none = r := by
  unfold cutW
  rw [show HT.sIx (a :: r).length 0 (some 1) = min 1 (a :: r).length from HT.sIx_nat _ 0 1, HT.sIx_none, List.length_cons, show min 1 (r.length + 1) = 1 by omega]
  show List.take (r.length + 1 - 1) r = r
  rw [Nat.add_sub_cancel, List.take_length]
theorem sIx_n (n d k : Nat) : HT.sIx n d (some (k : Int)) = min k n := HT.sIx_nat n d k
/-- xs[:k], xs[k:] -/
theorem cut_to {xs : List W} (k : Nat) : cutW xs none (some (k : Int)) = xs.take k := by
  unfold cutW
  rw [sIx_n, HT.sIx_none, List.drop_zero, Nat.sub_zero, List.take_eq_take_iff]
  omega
theorem cut_from {xs : List W} (k : Nat) : cutW xs (some (k : Int)) none = xs.drop k := by
  unfold cutW
  rw [sIx_n, HT.sIx_none]
  by_cases h : k ≤ xs.length
  · rw [Nat.min_eq_left h, List.take_of_length_le (by rw [List.length_drop]; omega)]
  · rw [Nat.min_eq_right (by omega), List.drop_length, List.drop_eq_nil_of_le (by omega)]
    simp
theorem rdl_l {xs : List W} : rdl (some (.lst xs)) = some xs := rfl
theorem wst1 {N : List Str} {a : W} : wStart N [a] = some a :: List.replicate (N.length - 1) none := rfl
theorem wst2 {N : List Str} {a b : W} : wStart N [a, b] = some a :: some b :: List.replicate (N.length - 2) none := rfl
theorem wst3 {N : List Str} {a b c : W} : wStart N [a, b, c] = some a :: some b :: some c :: List.replicate (N.length - 3) none := rfl
theorem wst4 {N : List Str} {a b c d : W} : wStart N [a, b, c, d] = some a :: some b :: some c :: some d :: List.replicate (N.length - 4) none := rfl
theorem wst5 {N : List Str} {a b c d e : W} : wStart N [a, b, c, d, e] = some a :: some b :: some c :: some d :: some e :: List.replicate (N.length - 5) none := rfl
/-! ### the law's end -/
/-- the promise of a law -/
def spLaw : PSp := fun ws _ Q _ => ∃ ns : List Int, ws = [.cl (ns.map W.int)] ∧ ns.length ≤ 63 ∧ (∀ z ∈ ns, Builtin.Int.intBits z ≤ 1048576) ∧ ∀ M', Q (.bl true) M'
def spEnd (K : PySem.W.Frag) : Sp := fun vs H Q _ => ∃ (a : Addr) (ns : List Int), vs = [.ref a] ∧ SqL K H a (ns.map V.int) ∧ Only H ∧ ns.length ≤ 63 ∧ (∀ z ∈ ns, Builtin.Int.intBits z ≤ 1048576) ∧ ∀ H', Q (.bl true) H'
theorem end_of {P : Program} {w : World} {K : PySem.W.Frag} {mg : Str → Option Value} {base : Heap} {k : Nat} {f : Addr} {fd : FuncData} (F : FnOk P w K mg base CX0 k f fd ["script"] (upSp ⟨P, w, K⟩ spLaw)) : FnOk P w K mg base CX0 k f fd ["script"] (spEnd K) :=
  F.imp fun vs H Q E ⟨a, ns, e, s, ho, h1, h2, q⟩ => by
    have c : Cl K H a (ns.map V.int) := by
      rcases s with (h | ⟨o, h⟩) | h
      · rcases ho a with z | ⟨o, xs, z⟩
        · rw [h] at z; cases z
        · rw [h] at z; cases z
      · exact .inl ⟨o, h⟩
      · exact .inr h
    refine ⟨[.cl (ns.map W.int)], fun _ => none, fun w _ => w = .bl true, fun _ _ => False, ?_, fun b o z => (nomatch z), ⟨ns, rfl, h1, h2, fun _ => rfl⟩, fun w M' v H' hw _ r _ => ?_, fun _ _ _ z => z.elim⟩
    · rw [e]
      refine .cons ?_ .nil
      unfold Rep
      exact ⟨a, _, rfl, c, Reps.of_ints⟩
    · subst hw
      rw [un_bl r]
      exact q H'
theorem walkB {l : PySem.W.OpenLaw} {k : Nat} {q : Program} {loose : List Str} {XP : (Str → Option Value) → Heap → Prop} {YP : World → Heap → Prop} {d : DefRec} {K : Params → PySem.W.Frag}
    (hn : l.most = some 63) (hdf : d.params.defaults = []) (hr : Room k callerA) (hY : ∀ (w : World) (h : Heap), YP w h → (K w.params).In h)
    (F : ∀ (w : World) (mg : Str → Option Value) (fa : Addr) (h : Heap), (K w.params).In h → h.Ns mainGlobals mg → mg d.name = some (.ref fa) →
      ∃ fd : FuncData, (∀ (s : Shared) (u : Value), BindsTo s fd ⟨[u], []⟩ [("script", u)]) ∧ ∀ base : Heap, (K w.params).In base → base.Ns mainGlobals mg → FnOk l.prog w (K w.params) mg base CX0 k fa fd ["script"] (upSp ⟨l.prog, w, K w.params⟩ spLaw)) :
    PySem.W.WalkO q loose XP YP l.row.toRowW d [] (fun f vs => PySem.call f vs) :=
  L2.walk_ofB (n := 63) (k := k) (x := "script") (CX := fun _ => CX0) (sp := fun w => spEnd (K w.params)) hn (by decide) hdf hr hY
    (fun w mg fa h X G e => by
      obtain ⟨fd, h1, h2⟩ := F w mg fa h X G e
      exact ⟨fd, h1, fun base X G => end_of (h2 base X G)⟩)
    (fun _ _ a ns hl hb ho hS => ⟨a, ns, rfl, hS, ho, hl, hb, fun _ => rfl⟩) fun _ _ _ _ _ z => z
/-- a def of the top: where it stands and what it is -/
theorem top_fn {K : PySem.W.Frag} {h : Heap} {mg : Str → Option Value} (X : K.In h) (G : h.Ns mainGlobals mg) {x : Str} {st : Stmt} {f : Addr} {oc : Value} {od an : Option Addr} {osl : Array (Option Value)} {kV dc pm cd ct : Value}
    (a : PySem.W.nsIn K mainGlobals x = some (some (.ref f))) (l : K.lookup f = some ⟨oc, od, .func (PySem.W.fnOf x x (defArgs st) (defBody st) (defScope st) .none kV dc pm an cd ct), osl⟩) (c : PySem.W.codeIn K cd x = true) (k : PySem.W.keepIn K (.ref f) = true) :
    mg x = some (.ref f) ∧ PySem.W.keepIn K (.ref f) = true ∧ Fun K x x st f (PySem.W.fnOf x x (defArgs st) (defBody st) (defScope st) .none kV dc pm an cd ct) :=
  ⟨PySem.W.mg_of X G a, k, fun_mk (st := st) l c k⟩
end PV
set_option maxHeartbeats 1000000
/-! PV: stepping. -/
namespace PV
open PySem PySem.Spec PyProof.Rows L2
inductive Tg {κ : Type _} (k : κ) : Type where
  | mk | mk2
/-- simp keeps off k -/
def lz {κ : Type _} (P : κ → Prop) (k : κ) (_ : Tg k) : Prop := P k
def brn (b : Bool) (pq : Prop × Prop) : Prop := match b with
  | true => pq.1
  | false => pq.2
theorem brn_t {P Q : Prop} {tg : Tg (P, Q)} : lz (brn true) (P, Q) tg = P := propext Iff.rfl
theorem brn_f {P Q : Prop} {tg : Tg (P, Q)} : lz (brn false) (P, Q) tg = Q := propext Iff.rfl
theorem brn_dec {p : Prop} [Decidable p] {P Q : Prop} {tg : Tg (P, Q)} (h1 : p → P) (h2 : ¬ p → Q) : lz (brn (decide p)) (P, Q) tg := by
  by_cases h : p
  · rw [decide_eq_true h]; exact h1 h
  · rw [decide_eq_false h]; exact h2 h
theorem brn_i {b : Bool} {P Q : Prop} {tg : Tg (P, Q)} (h1 : b = true → P) (h2 : b = false → Q) : lz (brn b) (P, Q) tg := by
  cases b
  · exact h2 rfl
  · exact h1 rfl
def gt {α : Type} (o : Option α) (k : α → Prop) : Prop := match o with
  | some w => k w
  | none => False
theorem gt_some {α : Type} {w : α} {k : α → Prop} {tg : Tg k} : lz (gt (some w)) k tg = k w := propext Iff.rfl
theorem gt_of {α : Type} {o : Option α} {k : α → Prop} {tg : Tg k} {w : α} (h : o = some w) (q : k w) : lz (gt o) k tg := by rw [h]; exact q
def onB (x : W) (k : Bool → Prop) : Prop := match x with
  | .bl b => k b
  | _ => False
theorem onB_b {b : Bool} {k : Bool → Prop} {tg : Tg k} : lz (onB (.bl b)) k tg = k b := propext Iff.rfl
def frs (o : Ob) (M : Me) (k : WK) : Prop := ∀ p, M p = none → k (.ref p) (put M p o)
def spc (sp : PSp) (ws : List W) (M : Me) (Q : WK) : Prop := sp ws M Q noX
section
variable {t u : WT} {ta tb tc : WE} {r r' : R2W} {sp : PSp} {wa : WA} {s1 s2 : WS} {D : Eds} {ρ : En} {M : Me} {Q : WK} {QB : Bool → Me → Prop} {R : ItW → Me → Prop} {tgQ : Tg Q} {tgR : Tg R}
theorem s_and : wAnd t u ρ M QB = t ρ M fun x M1 => lz (brn x) (u ρ M1 QB, QB false M1) .mk := propext Iff.rfl
theorem s_or : wOr t u ρ M QB = t ρ M fun x M1 => lz (brn x) (QB true M1, u ρ M1 QB) .mk := propext Iff.rfl
theorem s_andV : wAndV ta tb ρ M Q = ta ρ M fun x M1 => lz (onB x) (fun b => lz (brn b) (tb ρ M1 Q, Q (.bl false) M1) .mk) .mk := by
  unfold wAndV; congr; funext x M1; cases x <;> try rfl
  rename_i b; cases b <;> rfl
theorem s_orV : wOrV ta tb ρ M Q = ta ρ M fun x M1 => lz (onB x) (fun b => lz (brn b) (Q (.bl true) M1, tb ρ M1 Q) .mk) .mk := by
  unfold wOrV; congr; funext x M1; cases x <;> try rfl
  rename_i b; cases b <;> rfl
theorem s_notV : wNotV ta ρ M Q = ta ρ M fun x M1 => lz (onB x) (fun b => Q (.bl (!b)) M1) .mk := propext Iff.rfl
theorem s_B : wB ta ρ M QB = ta ρ M fun x M1 => lz (onB x) (fun b => QB b M1) .mk := propext Iff.rfl
theorem s_if : wIf t ta tb ρ M Q = t ρ M fun x M1 => lz (brn x) (ta ρ M1 Q, tb ρ M1 Q) .mk := propext Iff.rfl
theorem s_ifS : wIfS t s1 s2 D ρ M = t ρ M fun x M1 => lz (brn x) (s1 D ρ M1, s2 D ρ M1) .mk := propext Iff.rfl
theorem s_chain : wChain r r' ta tb tc ρ M Q = ta ρ M fun x M1 => tb ρ M1 fun y M2 => lz (r x y M2) (fun z M3 => lz (onB z) (fun b => lz (brn b) (tc ρ M3 fun u M4 => lz (r' y u M4) Q .mk, Q (.bl false) M3) .mk) .mk) .mk := by
  unfold wChain; congr; funext x M1; congr; funext y M2; congr; funext z M3; cases z <;> try rfl
  rename_i b; cases b <;> rfl
theorem s_fn : wFn sp wa ρ M Q = wa ρ M fun ws M1 => lz (spc sp ws M1) Q .mk := propext Iff.rfl
def itS (x : W) (M : Me) (R : ItW → Me → Prop) : Prop := match x with
  | .tup ws => R (fun _ => some ws) M
  | .cl ws => R (fun _ => some ws) M
  | .ref a => (rdl (M a)).isSome = true ∧ R (fun M => rdl (M a)) M
  | _ => False
def tg1 (n : Nat) (w : W) (k : List W → Prop) : Prop := match w with
  | .tup ws => ws.length = n ∧ k ws
  | _ => False
theorem tg1_t {n : Nat} {ws : List W} {k : List W → Prop} {tg : Tg k} : lz (tg1 n (.tup ws)) k tg = (ws.length = n ∧ k ws) := propext Iff.rfl
theorem s_gtup {n : Nat} {gs : WGs} {w : W} {QE : En → Me → Prop} : wgTup n gs w ρ M QE = lz (tg1 n w) (fun ws => gs ws ρ M QE) .mk := propext Iff.rfl
theorem s_seq : wSeq s1 s2 D ρ M = s1 { D with nx := s2 D } ρ M := propext Iff.rfl
theorem s_next : wNext D ρ M = D.nx ρ M := propext Iff.rfl
theorem s_ret : wRet ta D ρ M = ta ρ M D.rt := propext Iff.rfl
theorem s_retN : wRetN D ρ M = D.rt .non M := propext Iff.rfl
theorem s_drop : wDrop ta D ρ M = ta ρ M fun _ M1 => D.nx ρ M1 := propext Iff.rfl
theorem s_set {i : Nat} : wSet i ta D ρ M = ta ρ M fun w M1 => D.nx (ρ.set i (some w)) M1 := propext Iff.rfl
theorem s_asg {g : WG} : wAsg ta g D ρ M = ta ρ M fun w M1 => g w ρ M1 D.nx := propext Iff.rfl
theorem s_gname {i : Nat} {w : W} {QE : En → Me → Prop} : wgName i w ρ M QE = QE (ρ.set i (some w)) M := propext Iff.rfl
theorem s_gnil {QE : En → Me → Prop} : wgNil [] ρ M QE = QE ρ M := propext Iff.rfl
theorem s_gcons {g : WG} {gs : WGs} {w : W} {ws : List W} {QE : En → Me → Prop} : wgCons g gs (w :: ws) ρ M QE = g w ρ M fun ρ' M' => gs ws ρ' M' QE := propext Iff.rfl
def ov (o : Option (Option W)) (k : W → Prop) : Prop := match o with
  | some (some w) => k w
  | _ => False
theorem ov_some {w : W} {k : W → Prop} {tg : Tg k} : lz (ov (some (some w))) k tg = k w := propext Iff.rfl
theorem s_var {i : Nat} : wVar i ρ M Q = lz (ov ρ[i]?) (fun w => Q w M) .mk := by
  unfold wVar lz ov; rcases ρ[i]? with _ | _ | w <;> rfl
theorem s_aug {i : Nat} {r : R2W} : wAug i ta r D ρ M = lz (ov ρ[i]?) (fun x => ta ρ M fun y M1 => lz (r x y M1) (fun z M2 => D.nx (ρ.set i (some z)) M2) .mk) .mk := by
  unfold wAug lz ov; rcases ρ[i]? with _ | _ | w <;> rfl
def par2 (ws : List W) (k : W × W → Prop) : Prop := match ws with
  | [x, y] => k (x, y)
  | _ => False
theorem par2_e {x y : W} {k : W × W → Prop} {tg : Tg k} : lz (par2 [x, y]) k tg = k (x, y) := propext Iff.rfl
theorem s_par {i j : Nat} : wPar i j wa D ρ M = wa ρ M fun ws M1 => lz (par2 ws) (fun xy => D.nx ((ρ.set i (some xy.1)).set j (some xy.2)) M1) .mk := by
  unfold wPar; congr
theorem s_c {w : W} : wC w ρ M Q = Q w M := propext Iff.rfl
theorem s_not : wNot t ρ M QB = t ρ M fun x M1 => QB (!x) M1 := propext Iff.rfl
variable {QL : List W → Me → Prop}
theorem s_nil : wNil ρ M QL = QL [] M := propext Iff.rfl
theorem s_cons : wCons ta wa ρ M QL = ta ρ M fun x M1 => wa ρ M1 fun xs M2 => QL (x :: xs) M2 := propext Iff.rfl
theorem s_tup : wTup wa ρ M Q = wa ρ M fun ws M1 => ws.length ≤ sizeLine ∧ Q (.tup ws) M1 := propext Iff.rfl
theorem s_lst : wLst wa ρ M Q = wa ρ M fun ws M1 => ws.length ≤ sizeLine ∧ lz (frs (.lst ws) M1) Q .mk := propext Iff.rfl
theorem s_nopart {QO : Option Int → Me → Prop} : wNoPart ρ M QO = QO none M := propext Iff.rfl
theorem s_newK : wNewK ρ M Q = lz (frs (.dK []) M) Q .mk := propext Iff.rfl
theorem s_newN : wNewN ρ M Q = lz (frs (.dN []) M) Q .mk := propext Iff.rfl
theorem s_yes : wYes ρ M QB = QB true M := propext Iff.rfl
theorem s_for {wi : WI} {g : WG} : wFor wi g s1 D ρ M = wi ρ M fun f M1 => wForB f g s1 D ρ M1 := propext Iff.rfl
theorem s_lc {wi : WI} {g : WG} {te : WE} {vs : List Nat} : wLc wi g t te vs ρ M Q = wi ρ M fun f M1 => wLcB f g t te vs ρ M1 Q := propext Iff.rfl
theorem s_op {r : R2W} : wOp r ta tb ρ M Q = ta ρ M fun x M1 => tb ρ M1 fun y M2 => lz (r x y M2) Q .mk := propext Iff.rfl
theorem s_un {r : R1W} : wUn r ta ρ M Q = ta ρ M fun x M1 => lz (r x M1) Q .mk := propext Iff.rfl
theorem s_call {r : RLW} : wCall r wa ρ M Q = wa ρ M fun ws M1 => lz (r ws M1) Q .mk := propext Iff.rfl
theorem s_gsub {r : R3W} {w : W} {QE : En → Me → Prop} : wgSub ta tb r w ρ M QE = ta ρ M fun o M1 => tb ρ M1 fun i M2 => lz (r o i w M2) (fun M3 => QE ρ M3) .mk := propext Iff.rfl
theorem s_sl {tl th : WO} : wSl ta tl th ρ M Q = ta ρ M fun x M1 => tl ρ M1 fun l M2 => th ρ M2 fun u M3 => lz (rSl2 x l u M3) Q .mk := propext Iff.rfl
theorem s_seqI : wiSeq ta ρ M R = ta ρ M fun x M1 => lz (itS x M1) R .mk := propext Iff.rfl
theorem itS_tup {ws : List W} : lz (itS (.tup ws) M) R tgR = R (fun _ => some ws) M := propext Iff.rfl
theorem itS_cl {ws : List W} : lz (itS (.cl ws) M) R tgR = R (fun _ => some ws) M := propext Iff.rfl
theorem itS_ref {a : Addr} : lz (itS (.ref a) M) R tgR = ((rdl (M a)).isSome = true ∧ R (fun M => rdl (M a)) M) := propext Iff.rfl
def rgO (ws : List W) (M : Me) (R : ItW → Me → Prop) : Prop := match ws with
  | [.int j] => (-(2 ^ 62) ≤ j ∧ j < 2 ^ 62) ∧ R (fun _ => some (rngW 0 j)) M
  | _ => False
def rgT (ws : List W) (M : Me) (R : ItW → Me → Prop) : Prop := match ws with
  | [.int i, .int j] => (-(2 ^ 62) ≤ i ∧ i < 2 ^ 62 ∧ -(2 ^ 62) ≤ j ∧ j < 2 ^ 62) ∧ R (fun _ => some (rngW i j)) M
  | _ => False
theorem s_rng1 : wiRng1 wa ρ M R = wa ρ M fun ws M1 => lz (rgO ws M1) R .mk := propext Iff.rfl
theorem s_rng2 : wiRng2 wa ρ M R = wa ρ M fun ws M1 => lz (rgT ws M1) R .mk := propext Iff.rfl
/-- a bound that a range may have -/
def rgB (j : Int) : Prop := -(2 ^ 62) ≤ j ∧ j < 2 ^ 62
theorem rgB_of {j : Int} (h1 : -(2 ^ 60) ≤ j) (h2 : j ≤ 2 ^ 60) : rgB j := ⟨by omega, by omega⟩
theorem rgO_i {j : Int} : lz (rgO [.int j] M) R tgR = (rgB j ∧ R (fun _ => some (rngW 0 j)) M) := propext Iff.rfl
theorem rgT_i {i j : Int} : lz (rgT [.int i, .int j] M) R tgR = ((rgB i ∧ rgB j) ∧ R (fun _ => some (rngW i j)) M) := by
  show ((-(2 ^ 62) ≤ i ∧ i < 2 ^ 62 ∧ -(2 ^ 62) ≤ j ∧ j < 2 ^ 62) ∧ _) = (((-(2 ^ 62) ≤ i ∧ i < 2 ^ 62) ∧ (-(2 ^ 62) ≤ j ∧ j < 2 ^ 62)) ∧ _); rw [and_assoc (a := -(2 ^ 62) ≤ i ∧ i < 2 ^ 62)]; simp only [and_assoc]
def prt (x : W) (k : Option Int → Prop) : Prop := match x with
  | .int i => k (some i)
  | _ => False
theorem prt_i {i : Int} {k : Option Int → Prop} {tg : Tg k} : lz (prt (.int i)) k tg = k (some i) := propext Iff.rfl
theorem s_part {QO : Option Int → Me → Prop} : wPart ta ρ M QO = ta ρ M fun x M1 => lz (prt x) (fun i => QO i M1) .mk := propext Iff.rfl
def mtS (r : RMW) (x : W) (ρ : En) (u : WA) (M : Me) (Q : WK) : Prop := match x with
  | .ref a => (rdl (M a)).isSome = true ∧ u ρ M fun ws M2 => r (.ref a) ws M2 Q
  | _ => False
theorem s_mt {r : RMW} : wMt r ta wa ρ M Q = ta ρ M fun x M1 => lz (mtS r x ρ wa M1) Q .mk := propext Iff.rfl
theorem mtS_r {r : RMW} {a : Addr} : lz (mtS r (.ref a) ρ wa M) Q tgQ = ((rdl (M a)).isSome = true ∧ wa ρ M fun ws M2 => lz (r (.ref a) ws M2) Q .mk) := propext Iff.rfl
def mtZ (r : RMW) (x : W) (M : Me) (Q : WK) : Prop := match x with
  | .ref a => (rdl (M a)).isSome = true ∧ r (.ref a) [] M Q
  | _ => False
theorem s_mt0 {r : RMW} : wMt0 r ta ρ M Q = ta ρ M fun x M1 => lz (mtZ r x M1) Q .mk := propext Iff.rfl
theorem mtZ_r {r : RMW} {a : Addr} : lz (mtZ r (.ref a) M) Q tgQ = ((rdl (M a)).isSome = true ∧ lz (r (.ref a) [] M) Q .mk) := propext Iff.rfl
def isQ (T : Tn) (x : W) (o : Option Ob) (k : Bool → Prop) : Prop := match T.has x o with
  | some b => k b
  | none => False
theorem s_isi {T : Tn} : wIsi T ta ρ M Q = ta ρ M fun x M1 => lz (isQ T x (obOf M1 x)) (fun b => Q (.bl b) M1) .mk := propext Iff.rfl

variable {b : Bool} {i j : Int} {z z' : Str} {ws xs ys : List W} {o : Option Ob} {kb : Bool → Prop} {a a' : Addr} {x y v : W} {kk : List (Key × W)} {kn : List (W × W)} {tgB : Tg kb}
theorem isQ_int_non : lz (isQ .int .non o) kb tgB = kb false := propext Iff.rfl
theorem isQ_int_bl : lz (isQ .int (.bl b) o) kb tgB = kb true := propext Iff.rfl
theorem isQ_int_int : lz (isQ .int (.int i) o) kb tgB = kb true := propext Iff.rfl
theorem isQ_int_str : lz (isQ .int (.str z) o) kb tgB = kb false := propext Iff.rfl
theorem isQ_int_tup : lz (isQ .int (.tup ws) o) kb tgB = kb false := propext Iff.rfl
theorem isQ_int_l : lz (isQ .int (.ref a) (some (.lst ws))) kb tgB = kb false := propext Iff.rfl
theorem isQ_int_k : lz (isQ .int (.ref a) (some (.dK kk))) kb tgB = kb false := propext Iff.rfl
theorem isQ_bool_non : lz (isQ .bool .non o) kb tgB = kb false := propext Iff.rfl
theorem isQ_bool_bl : lz (isQ .bool (.bl b) o) kb tgB = kb true := propext Iff.rfl
theorem isQ_bool_int : lz (isQ .bool (.int i) o) kb tgB = kb false := propext Iff.rfl
theorem isQ_bool_str : lz (isQ .bool (.str z) o) kb tgB = kb false := propext Iff.rfl
theorem isQ_bool_tup : lz (isQ .bool (.tup ws) o) kb tgB = kb false := propext Iff.rfl
theorem isQ_bool_l : lz (isQ .bool (.ref a) (some (.lst ws))) kb tgB = kb false := propext Iff.rfl
theorem isQ_bool_k : lz (isQ .bool (.ref a) (some (.dK kk))) kb tgB = kb false := propext Iff.rfl
theorem isQ_str_non : lz (isQ .str .non o) kb tgB = kb false := propext Iff.rfl
theorem isQ_str_bl : lz (isQ .str (.bl b) o) kb tgB = kb false := propext Iff.rfl
theorem isQ_str_int : lz (isQ .str (.int i) o) kb tgB = kb false := propext Iff.rfl
theorem isQ_str_str : lz (isQ .str (.str z) o) kb tgB = kb true := propext Iff.rfl
theorem isQ_str_tup : lz (isQ .str (.tup ws) o) kb tgB = kb false := propext Iff.rfl
theorem isQ_str_l : lz (isQ .str (.ref a) (some (.lst ws))) kb tgB = kb false := propext Iff.rfl
theorem isQ_str_k : lz (isQ .str (.ref a) (some (.dK kk))) kb tgB = kb false := propext Iff.rfl
theorem isQ_tuple_non : lz (isQ .tuple .non o) kb tgB = kb false := propext Iff.rfl
theorem isQ_tuple_bl : lz (isQ .tuple (.bl b) o) kb tgB = kb false := propext Iff.rfl
theorem isQ_tuple_int : lz (isQ .tuple (.int i) o) kb tgB = kb false := propext Iff.rfl
theorem isQ_tuple_str : lz (isQ .tuple (.str z) o) kb tgB = kb false := propext Iff.rfl
theorem isQ_tuple_tup : lz (isQ .tuple (.tup ws) o) kb tgB = kb true := propext Iff.rfl
theorem isQ_tuple_l : lz (isQ .tuple (.ref a) (some (.lst ws))) kb tgB = kb false := propext Iff.rfl
theorem isQ_tuple_k : lz (isQ .tuple (.ref a) (some (.dK kk))) kb tgB = kb false := propext Iff.rfl
theorem isQ_list_non : lz (isQ .list .non o) kb tgB = kb false := propext Iff.rfl
theorem isQ_list_bl : lz (isQ .list (.bl b) o) kb tgB = kb false := propext Iff.rfl
theorem isQ_list_int : lz (isQ .list (.int i) o) kb tgB = kb false := propext Iff.rfl
theorem isQ_list_str : lz (isQ .list (.str z) o) kb tgB = kb false := propext Iff.rfl
theorem isQ_list_tup : lz (isQ .list (.tup ws) o) kb tgB = kb false := propext Iff.rfl
theorem isQ_list_l : lz (isQ .list (.ref a) (some (.lst ws))) kb tgB = kb true := propext Iff.rfl
theorem isQ_list_k : lz (isQ .list (.ref a) (some (.dK kk))) kb tgB = kb false := propext Iff.rfl
theorem isQ_dict_non : lz (isQ .dict .non o) kb tgB = kb false := propext Iff.rfl
theorem isQ_dict_bl : lz (isQ .dict (.bl b) o) kb tgB = kb false := propext Iff.rfl
theorem isQ_dict_int : lz (isQ .dict (.int i) o) kb tgB = kb false := propext Iff.rfl
theorem isQ_dict_str : lz (isQ .dict (.str z) o) kb tgB = kb false := propext Iff.rfl
theorem isQ_dict_tup : lz (isQ .dict (.tup ws) o) kb tgB = kb false := propext Iff.rfl
theorem isQ_dict_l : lz (isQ .dict (.ref a) (some (.lst ws))) kb tgB = kb false := propext Iff.rfl
theorem isQ_dict_k : lz (isQ .dict (.ref a) (some (.dK kk))) kb tgB = kb true := propext Iff.rfl
theorem add_i : lz (rAdd2 (.int i) (.int j) M) Q tgQ = Q (.int (i + j)) M := propext Iff.rfl
theorem add_s : lz (rAdd2 (.str z) (.str z') M) Q tgQ = (z.length + z'.length ≤ sizeLine ∧ Q (.str (z ++ z')) M) := propext Iff.rfl
theorem add_t : lz (rAdd2 (.tup xs) (.tup ys) M) Q tgQ = (xs.length + ys.length ≤ sizeLine ∧ Q (.tup (xs ++ ys)) M) := propext Iff.rfl
def addO (o o' : Option Ob) (M : Me) (Q : WK) : Prop := match o, o' with
    | some (.lst xs), some (.lst ys) => xs.length + ys.length ≤ sizeLine ∧ ∀ p, M p = none → Q (.ref p) (put M p (.lst (xs ++ ys)))
    | _, _ => False

theorem add_l : lz (rAdd2 (.ref a) (.ref a') M) Q tgQ = lz (addO (M a) (M a') M) Q .mk := propext Iff.rfl
theorem addO_l : lz (addO (some (.lst xs)) (some (.lst ys)) M) Q tgQ = (xs.length + ys.length ≤ sizeLine ∧ lz (frs (.lst (xs ++ ys)) M) Q .mk) := propext Iff.rfl
theorem sub_i : lz (rSub2 (.int i) (.int j) M) Q tgQ = Q (.int (i - j)) M := propext Iff.rfl
theorem mul_i : lz (rMul2 (.int i) (.int j) M) Q tgQ = (MulOk i j ∧ Q (.int (i * j)) M) := propext Iff.rfl
theorem mul_t : lz (rMul2 (.tup xs) (.int j) M) Q tgQ = ((j ≤ 1000 ∧ xs.length ≤ 1000 ∧ 2 ≤ j ∧ xs ≠ []) ∧ Q (.tup (List.replicate j.toNat xs).flatten) M) := propext Iff.rfl
def mulO (o : Option Ob) (k : Int) (M : Me) (Q : WK) : Prop := match o with
    | some (.lst xs) => (-(2 ^ 63) ≤ k ∧ k < 2 ^ 63 ∧ xs.length * k.toNat ≤ sizeLine) ∧ ∀ p, M p = none → Q (.ref p) (put M p (.lst (List.replicate k.toNat xs).flatten))
    | _ => False

theorem mul_l : lz (rMul2 (.ref a) (.int j) M) Q tgQ = lz (mulO (M a) j M) Q .mk := propext Iff.rfl
theorem mulO_l : lz (mulO (some (.lst xs)) j M) Q tgQ = ((-(2 ^ 63) ≤ j ∧ j < 2 ^ 63 ∧ xs.length * j.toNat ≤ sizeLine) ∧ lz (frs (.lst (List.replicate j.toNat xs).flatten) M) Q .mk) := propext Iff.rfl
theorem lt_i : lz (rLt2 (.int i) (.int j) M) Q tgQ = Q (.bl (decide (i < j))) M := propext Iff.rfl
theorem le_i : lz (rLe2 (.int i) (.int j) M) Q tgQ = Q (.bl (decide (i ≤ j))) M := propext Iff.rfl
theorem gt_i : lz (rGt2 (.int i) (.int j) M) Q tgQ = Q (.bl (decide (j < i))) M := propext Iff.rfl
theorem ge_i : lz (rGe2 (.int i) (.int j) M) Q tgQ = Q (.bl (decide (j ≤ i))) M := propext Iff.rfl
theorem is_n : lz (rIs2 x .non M) Q tgQ = Q (.bl (isN x)) M := propext Iff.rfl
theorem isnot_n : lz (rIsNot2 x .non M) Q tgQ = Q (.bl (!isN x)) M := propext Iff.rfl
theorem is_b : lz (rIs2 (.bl b) (.bl true) M) Q tgQ = Q (.bl (decide (b = true))) M := propext Iff.rfl
theorem is_bf : lz (rIs2 (.bl b) (.bl false) M) Q tgQ = Q (.bl (decide (b = false))) M := propext Iff.rfl
theorem isnot_b : lz (rIsNot2 (.bl b) (.bl true) M) Q tgQ = Q (.bl (!decide (b = true))) M := propext Iff.rfl
theorem isnot_bf : lz (rIsNot2 (.bl b) (.bl false) M) Q tgQ = Q (.bl (!decide (b = false))) M := propext Iff.rfl
theorem eq_i : lz (rEq2 (.int i) (.int j) M) Q tgQ = Q (.bl (decide (i = j))) M := propext Iff.rfl
theorem eq_s : lz (rEq2 (.str z) (.str z') M) Q tgQ = Q (.bl (decide (z = z'))) M := propext Iff.rfl
theorem eq_b {b c : Bool} : lz (rEq2 (.bl b) (.bl c) M) Q tgQ = Q (.bl (decide (b = c))) M := propext Iff.rfl
theorem eq_t : lz (rEq2 (.tup xs) (.tup ys) M) Q tgQ = ((flt (.tup xs) && flt (.tup ys)) = true ∧ Q (.bl (weq (.tup xs) (.tup ys))) M) := propext Iff.rfl
def eqO (o o' : Option Ob) (M : Me) (Q : WK) : Prop := match rdl o, rdl o' with
    | some xs, some [] => Q (.bl (xs.isEmpty)) M
    | some xs, some ys => (flts xs && flts ys) = true ∧ Q (.bl (weqs xs ys)) M
    | _, _ => False

theorem eq_l : lz (rEq2 (.ref a) (.ref a') M) Q tgQ = lz (eqO (M a) (M a') M) Q .mk := by
  unfold lz rEq2 rEqS eqO
  dsimp only
  all_goals rcases rdl (M a) with _ | xs <;> rcases rdl (M a') with _ | _ | ys <;> rfl
theorem eqO_l : lz (eqO (some (.lst xs)) (some (.lst [])) M) Q tgQ = Q (.bl (xs.isEmpty)) M := propext Iff.rfl
theorem eqO_ll {y : W} : lz (eqO (some (.lst xs)) (some (.lst (y :: ys))) M) Q tgQ = ((flts xs && flts (y :: ys)) = true ∧ Q (.bl (weqs xs (y :: ys))) M) := propext Iff.rfl
theorem ne_i : lz (rNe2 (.int i) (.int j) M) Q tgQ = Q (.bl (!decide (i = j))) M := propext Iff.rfl
theorem ne_s : lz (rNe2 (.str z) (.str z') M) Q tgQ = Q (.bl (!decide (z = z'))) M := propext Iff.rfl
theorem ne_b {b c : Bool} : lz (rNe2 (.bl b) (.bl c) M) Q tgQ = Q (.bl (!decide (b = c))) M := propext Iff.rfl
theorem ne_t : lz (rNe2 (.tup xs) (.tup ys) M) Q tgQ = ((flt (.tup xs) && flt (.tup ys)) = true ∧ Q (.bl (!weq (.tup xs) (.tup ys))) M) := propext Iff.rfl
def neO (o o' : Option Ob) (M : Me) (Q : WK) : Prop := match rdl o, rdl o' with
    | some xs, some [] => Q (.bl (!xs.isEmpty)) M
    | some xs, some ys => (flts xs && flts ys) = true ∧ Q (.bl (!weqs xs ys)) M
    | _, _ => False

theorem ne_l : lz (rNe2 (.ref a) (.ref a') M) Q tgQ = lz (neO (M a) (M a') M) Q .mk := by
  unfold lz rNe2 rEqS neO
  dsimp only
  all_goals rcases rdl (M a) with _ | xs <;> rcases rdl (M a') with _ | _ | ys <;> rfl
theorem neO_l : lz (neO (some (.lst xs)) (some (.lst [])) M) Q tgQ = Q (.bl (!xs.isEmpty)) M := propext Iff.rfl
theorem neO_ll {y : W} : lz (neO (some (.lst xs)) (some (.lst (y :: ys))) M) Q tgQ = ((flts xs && flts (y :: ys)) = true ∧ Q (.bl (!weqs xs (y :: ys))) M) := propext Iff.rfl
theorem ix_t : lz (rIx2 (.tup xs) (.int i) M) Q tgQ = lz (gt (atI xs i)) (fun w => Q w M) .mk := by unfold lz rIx2 gt; dsimp only; cases (atI xs i) <;> rfl
theorem ix_c : lz (rIx2 (.cl xs) (.int i) M) Q tgQ = lz (gt (atI xs i)) (fun w => Q w M) .mk := by unfold lz rIx2 gt; dsimp only; cases (atI xs i) <;> rfl
def ixO (o : Option Ob) (y : W) (M : Me) (Q : WK) : Prop := match o with
    | some (.lst xs) => match y with
      | .int i => match atI xs i with
        | some w => Q w M
        | none => False
      | _ => False
    | some (.dK kvs) => match (wkey y).bind (look kvs) with
      | some w => Q w M
      | none => False
    | some (.lkK kvs) => match (wkey y).bind (look kvs) with
      | some w => Q w M
      | none => False
    | some (.dN kvs) => KeyOk y ∧ match lookN kvs y with
      | some w => Q w M
      | none => False
    | some (.lkN kvs) => KeyOk y ∧ match lookN kvs y with
      | some w => Q w M
      | none => False
    | _ => False

theorem ix_r : lz (rIx2 (.ref a) y M) Q tgQ = lz (ixO (M a) y M) Q .mk := propext Iff.rfl
theorem ixO_l : lz (ixO (some (.lst xs)) (.int i) M) Q tgQ = lz (gt (atI xs i)) (fun w => Q w M) .mk := by unfold lz ixO gt; dsimp only; cases (atI xs i) <;> rfl
theorem ixO_k : lz (ixO (some (.dK kk)) y M) Q tgQ = lz (gt ((wkey y).bind (look kk))) (fun w => Q w M) .mk := by unfold lz ixO gt; dsimp only; cases ((wkey y).bind (look kk)) <;> rfl
theorem ixO_lk : lz (ixO (some (.lkK kk)) y M) Q tgQ = lz (gt ((wkey y).bind (look kk))) (fun w => Q w M) .mk := by unfold lz ixO gt; dsimp only; cases ((wkey y).bind (look kk)) <;> rfl
theorem ixO_n : lz (ixO (some (.dN kn)) y M) Q tgQ = (KeyOk y ∧ lz (gt (lookN kn y)) (fun w => Q w M) .mk) := by unfold lz ixO gt; dsimp only; cases (lookN kn y) <;> rfl
theorem ixO_ln : lz (ixO (some (.lkN kn)) y M) Q tgQ = (KeyOk y ∧ lz (gt (lookN kn y)) (fun w => Q w M) .mk) := by unfold lz ixO gt; dsimp only; cases (lookN kn y) <;> rfl
def inO (o : Option Ob) (x : W) (Q : Bool → Prop) : Prop := match o with
    | some (.lst xs) => (flatW x && xs.all flatW) = true ∧ Q (inW x xs)
    | some (.dK kvs) => match wkey x with
      | some k => Q (look kvs k).isSome
      | none => False
    | some (.lkK kvs) => match wkey x with
      | some k => Q (look kvs k).isSome
      | none => False
    | some (.dN kvs) => KeyOk x ∧ Q (lookN kvs x).isSome
    | some (.lkN kvs) => KeyOk x ∧ Q (lookN kvs x).isSome
    | _ => False

theorem in_t : lz (rIn2 x (.tup xs) M) Q tgQ = ((flatW x && xs.all flatW) = true ∧ Q (.bl (inW x xs)) M) := propext Iff.rfl
theorem in_r : lz (rIn2 x (.ref a) M) Q tgQ = lz (inO (M a) x) (fun b => Q (.bl b) M) .mk := propext Iff.rfl
theorem nin_t : lz (rNotIn2 x (.tup xs) M) Q tgQ = ((flatW x && xs.all flatW) = true ∧ Q (.bl (!inW x xs)) M) := propext Iff.rfl
theorem nin_r : lz (rNotIn2 x (.ref a) M) Q tgQ = lz (inO (M a) x) (fun b => Q (.bl (!b)) M) .mk := propext Iff.rfl
theorem inO_l : lz (inO (some (.lst xs)) x) kb tgB = ((flatW x && xs.all flatW) = true ∧ kb (inW x xs)) := propext Iff.rfl
theorem inO_k : lz (inO (some (.dK kk)) x) kb tgB = lz (gt (wkey x)) (fun k => kb (look kk k).isSome) .mk := by unfold lz inO gt; dsimp only; cases (wkey x) <;> rfl
theorem inO_lk : lz (inO (some (.lkK kk)) x) kb tgB = lz (gt (wkey x)) (fun k => kb (look kk k).isSome) .mk := by unfold lz inO gt; dsimp only; cases (wkey x) <;> rfl
theorem inO_n : lz (inO (some (.dN kn)) x) kb tgB = (KeyOk x ∧ kb (lookN kn x).isSome) := propext Iff.rfl
theorem inO_ln : lz (inO (some (.lkN kn)) x) kb tgB = (KeyOk x ∧ kb (lookN kn x).isSome) := propext Iff.rfl
theorem wkey_i : wkey (.int i) = some (Sum.inl i) := rfl
theorem wkey_s : wkey (.str z) = some (Sum.inr z) := rfl
variable {lo hi : Option Int}
theorem sl_t : lz (rSl2 (.tup xs) lo hi M) Q tgQ = Q (.tup (cutW xs lo hi)) M := propext Iff.rfl
theorem sl_c : lz (rSl2 (.cl xs) lo hi M) Q tgQ = lz (frs (.lst (cutW xs lo hi)) M) Q .mk := propext Iff.rfl
def slO (o : Option Ob) (lo hi : Option Int) (M : Me) (Q : WK) : Prop := match rdl o with
    | some xs => ∀ p, M p = none → Q (.ref p) (put M p (.lst (cutW xs lo hi)))
    | none => False

theorem sl_r : lz (rSl2 (.ref a) lo hi M) Q tgQ = lz (slO (M a) lo hi M) Q .mk := propext Iff.rfl
theorem slO_l : lz (slO (some (.lst xs)) lo hi M) Q tgQ = lz (frs (.lst (cutW xs lo hi)) M) Q .mk := propext Iff.rfl
theorem len_t : lz (rLen [.tup xs] M) Q tgQ = Q (.int (xs.length : Int)) M := propext Iff.rfl
theorem len_c : lz (rLen [.cl xs] M) Q tgQ = Q (.int (xs.length : Int)) M := propext Iff.rfl
theorem len_s : lz (rLen [.str z] M) Q tgQ = (z.length ≤ sizeLine ∧ Q (.int (z.length : Int)) M) := propext Iff.rfl
def lenO (o : Option Ob) (M : Me) (Q : WK) : Prop := match rdl o with
    | some xs => Q (.int (xs.length : Int)) M
    | none => False

theorem len_r : lz (rLen [.ref a] M) Q tgQ = lz (lenO (M a) M) Q .mk := propext Iff.rfl
theorem lenO_l : lz (lenO (some (.lst xs)) M) Q tgQ = Q (.int (xs.length : Int)) M := propext Iff.rfl
theorem abs_i : lz (rAbs [.int i] M) Q tgQ = Q (.int (i.natAbs : Int)) M := propext Iff.rfl
theorem max_i : lz (rMax2W [.int i, .int j] M) Q tgQ = Q (.int (max i j)) M := propext Iff.rfl
theorem min_i : lz (rMin2W [.int i, .int j] M) Q tgQ = Q (.int (min i j)) M := propext Iff.rfl
theorem int_i : lz (rInt [.int i] M) Q tgQ = Q (.int i) M := propext Iff.rfl
theorem int_b : lz (rInt [.bl b] M) Q tgQ = Q (.int (b2i b)) M := propext Iff.rfl
theorem tup_t : lz (rTup [.tup xs] M) Q tgQ = Q (.tup xs) M := propext Iff.rfl
def tuO (o : Option Ob) (M : Me) (Q : WK) : Prop := match rdl o with
    | some xs => Q (.tup xs) M
    | none => False

theorem tup_r : lz (rTup [.ref a] M) Q tgQ = lz (tuO (M a) M) Q .mk := propext Iff.rfl
theorem tuO_l : lz (tuO (some (.lst xs)) M) Q tgQ = Q (.tup xs) M := propext Iff.rfl
theorem lst_t : lz (rLst [.tup xs] M) Q tgQ = lz (frs (.lst xs) M) Q .mk := propext Iff.rfl
theorem lst_c : lz (rLst [.cl xs] M) Q tgQ = lz (frs (.lst xs) M) Q .mk := propext Iff.rfl
def lsO (o : Option Ob) (M : Me) (Q : WK) : Prop := match rdl o with
    | some xs => ∀ p, M p = none → Q (.ref p) (put M p (.lst xs))
    | none => False

theorem lst_r : lz (rLst [.ref a] M) Q tgQ = lz (lsO (M a) M) Q .mk := propext Iff.rfl
theorem lsO_l : lz (lsO (some (.lst xs)) M) Q tgQ = lz (frs (.lst xs) M) Q .mk := propext Iff.rfl
def seO (o : Option Ob) (a : Addr) (i v : W) (M : Me) (Q : Me → Prop) : Prop := match o with
    | some (.lst xs) => match i with
      | .int k => match ixN xs.length k with
        | some j => Q (put M a (.lst (xs.set j v)))
        | none => False
      | _ => False
    | some (.dK kvs) => match wkey i with
      | some k => kvs.length < sizeLine ∧ Q (put M a (.dK (place kvs k v)))
      | none => False
    | some (.dN kvs) => KeyOk i ∧ kvs.length < sizeLine ∧ Q (put M a (.dN (placeN kvs i v)))
    | _ => False
variable {QM : Me → Prop} {key : Key} {tgM : Tg QM}
theorem set_r : lz (rSet3 (.ref a) x v M) QM tgM = lz (seO (M a) a x v M) QM .mk := propext Iff.rfl
theorem seO_l : lz (seO (some (.lst xs)) a (.int i) v M) QM tgM = lz (gt (ixN xs.length i)) (fun j => QM (put M a (.lst (xs.set j v)))) .mk := by unfold lz seO gt; dsimp only; cases (ixN xs.length i) <;> rfl
theorem seO_k : lz (seO (some (.dK kk)) a x v M) QM tgM = lz (gt (wkey x)) (fun k => kk.length < sizeLine ∧ QM (put M a (.dK (place kk k v)))) .mk := by unfold lz seO gt; dsimp only; cases (wkey x) <;> rfl
theorem seO_n : lz (seO (some (.dN kn)) a x v M) QM tgM = (KeyOk x ∧ kn.length < sizeLine ∧ QM (put M a (.dN (placeN kn x v)))) := propext Iff.rfl
def apO (o : Option Ob) (a : Addr) (v : W) (M : Me) (Q : WK) : Prop := match o with
    | some (.lst xs) => xs.length < sizeLine ∧ Q .non (put M a (.lst (xs ++ [v])))
    | _ => False

theorem app_r : lz (rApp (.ref a) [v] M) Q tgQ = lz (apO (M a) a v M) Q .mk := propext Iff.rfl
theorem apO_l : lz (apO (some (.lst xs)) a v M) Q tgQ = (xs.length < sizeLine ∧ Q .non (put M a (.lst (xs ++ [v])))) := propext Iff.rfl
def exO (o o' : Option Ob) (a : Addr) (M : Me) (Q : WK) : Prop := match o, o' with
    | some (.lst xs), some (.lst ys) => xs.length + ys.length ≤ sizeLine ∧ Q .non (put M a (.lst (xs ++ ys)))
    | _, _ => False

theorem ext_r : lz (rExt (.ref a) [.ref a'] M) Q tgQ = lz (exO (M a) (M a') a M) Q .mk := propext Iff.rfl
theorem exO_l : lz (exO (some (.lst xs)) (some (.lst ys)) a M) Q tgQ = (xs.length + ys.length ≤ sizeLine ∧ Q .non (put M a (.lst (xs ++ ys)))) := propext Iff.rfl
def poZ (o : Option Ob) (a : Addr) (M : Me) (Q : WK) : Prop := match o with
    | some (.lst xs) => match xs[xs.length - 1]? with
      | some w => Q w (put M a (.lst xs.dropLast))
      | none => False
    | _ => False
def poO (o : Option Ob) (a : Addr) (i : Int) (M : Me) (Q : WK) : Prop := match o with
    | some (.lst xs) => (-(2 ^ 63) ≤ i ∧ i < 2 ^ 63) ∧ match seqIndex? i xs.length with
      | some j => match xs[j]? with
        | some w => Q w (put M a (.lst (xs.eraseIdx j)))
        | none => False
      | none => False
    | _ => False

theorem pop_z : lz (rPop (.ref a) [] M) Q tgQ = lz (poZ (M a) a M) Q .mk := propext Iff.rfl
theorem pop_i : lz (rPop (.ref a) [.int i] M) Q tgQ = lz (poO (M a) a i M) Q .mk := propext Iff.rfl
theorem poZ_l : lz (poZ (some (.lst xs)) a M) Q tgQ = lz (gt (xs[xs.length - 1]?)) (fun w => Q w (put M a (.lst xs.dropLast))) .mk := by unfold lz poZ gt; dsimp only; cases (xs[xs.length - 1]?) <;> rfl
theorem poO_l : lz (poO (some (.lst xs)) a i M) Q tgQ = ((-(2 ^ 63) ≤ i ∧ i < 2 ^ 63) ∧ lz (gt (seqIndex? i xs.length)) (fun j => lz (gt (xs[j]?)) (fun w => Q w (put M a (.lst (xs.eraseIdx j)))) .mk) .mk) := by
  unfold lz poO gt
  dsimp only
  congr 1
  cases seqIndex? i xs.length with
  | none => rfl
  | some j => dsimp only; cases xs[j]? <;> rfl
theorem neg_i : lz (rNeg1 (.int i) M) Q tgQ = Q (.int (-i)) M := propext Iff.rfl
theorem le_line {n : Nat} (h : n ≤ 1000) : (n ≤ sizeLine) = True := by
  have : (16777216 : Nat) = sizeLine := sizeLine_eq.symm
  exact eq_true (by omega)
theorem lt_line {n : Nat} (h : n ≤ 1000) : (n < sizeLine) = True := by
  have : (16777216 : Nat) = sizeLine := sizeLine_eq.symm
  exact eq_true (by omega)
theorem put_ne1 {M : Me} {a b : Addr} {o : Ob} (h : b ≠ a) : put M a o b = M b := put_ne h
theorem put_ne2 {M : Me} {a b : Addr} {o : Ob} (h : a ≠ b) : put M a o b = M b := put_ne (Ne.symm h)
end
end PV
set_option maxHeartbeats 1000000
/-! PV: local things, in use. -/
namespace PV
open PySem PySem.Spec PyProof.Rows L2
theorem map_snoc {ds : List Int} {i : Int} : ds.map W.int ++ [W.int i] = (ds ++ [i]).map W.int := by rw [List.map_append]; rfl
theorem small_line {n : Nat} (h : n ≤ 16000000) : n < sizeLine := by
  have : (16777216 : Nat) = sizeLine := sizeLine_eq.symm
  omega
theorem line_le {n : Nat} (h : n ≤ 16000000) : n ≤ sizeLine := Nat.le_of_lt (small_line h)
theorem mod_any {i j : Int} {M : Me} {Q : WK} (h : 0 < j) (k : ∀ r, 0 ≤ r → r < j → Q (.int r) M) : rMod2 (.int i) (.int j) M Q := ⟨h, k _ (Int.emod_nonneg i (by omega)) (Int.emod_lt_of_pos i h)⟩
theorem mod_go {i j : Int} {M : Me} {Q : WK} {tg : Tg Q} (h : 0 < j) (k : Q (.int (i % j)) M) : lz (rMod2 (.int i) (.int j) M) Q tg := ⟨h, k⟩
theorem div_any {i j : Int} {M : Me} {Q : WK} (h : DivOk i j) (k : ∀ r, Q (.int r) M) : rDiv2 (.int i) (.int j) M Q := ⟨h, k _⟩
theorem div_go {i j : Int} {M : Me} {Q : WK} {tg : Tg Q} (h1 : 0 < j) (h2 : j < 2 ^ 64) (k : Q (.int (i / j)) M) : lz (rDiv2 (.int i) (.int j) M) Q tg := ⟨⟨h1, h2⟩, k⟩
theorem pow_any {i j : Int} {M : Me} {Q : WK} (h : CPow i j) (k : ∀ r, Q (.int r) M) : rPow2 (.int i) (.int j) M Q := ⟨h, k _⟩
theorem pow_go {i j : Int} {M : Me} {Q : WK} {tg : Tg Q} (h : CPow i j) (k : Q (.int (i ^ j.toNat)) M) : lz (rPow2 (.int i) (.int j) M) Q tg := ⟨h, k⟩
theorem DrS.fresh {a q : Addr} {M M' : Me} (h : DrS a M M') (n : M' q = none) : M q = none ∧ q ≠ a := by
  have ne : q ≠ a := fun e => by
    obtain ⟨ds, h2⟩ := h.2
    rw [e, h2] at n; cases n
  refine ⟨?_, ne⟩
  cases e : M q with
  | none => rfl
  | some o => rw [h.1 q o ne e] at n; cases n
/-- what a stretch of the walk leaves: all, the draws at a aside -/
def Dr (a : Option Addr) (M M' : Me) : Prop := match a with
  | none => Sub M M'
  | some a => DrS a M M'
section
variable {a : Option Addr} {q : Addr} {fs gs : List (Addr × Ob)} {M0 M M' : Me} {o o' : Ob} {x y z : Addr × Ob}
theorem Dr.old (h : Dr a M M') (n : some q ≠ a) (e : M q = some o) : M' q = some o := by
  cases a with
  | none => exact h _ _ e
  | some a => exact h.1 _ _ (fun z => n (by rw [z])) e
theorem Dr.fresh (h : Dr a M M') (n : M' q = none) : M q = none ∧ some q ≠ a := by
  cases a with
  | none =>
    refine ⟨?_, fun z => nomatch z⟩
    cases e : M q with
    | none => rfl
    | some o => rw [h _ _ e] at n; cases n
  | some a => exact ⟨(DrS.fresh h n).1, fun z => (DrS.fresh h n).2 (Option.some.inj z)⟩
theorem Dr.trans {M2 : Me} (h : Dr a M M') (h2 : Dr a M' M2) : Dr a M M2 := by
  cases a with
  | none => exact Sub.trans h h2
  | some a => exact DrS.trans h h2
theorem Dr.new (h : Dr a M M') (n : M' q = none) : Dr a M (put M' q o) := by
  cases a with
  | none => exact Sub.trans h (Sub.new n)
  | some a => exact DrS.new h n
theorem Dr.loc (h : Dr a M M') (n : M q = none) (ne : some q ≠ a) : Dr a M (put M' q o) := by
  cases a with
  | none => exact Sub.put h n
  | some a => exact ⟨fun b x nb e => by rw [put_ne (fun z => by rw [z, n] at e; cases e)]; exact h.1 b x nb e, h.2.elim fun ds e => ⟨ds, by rw [put_ne (fun z => ne (by rw [z]))]; exact e⟩⟩
theorem Dr.refl0 : Dr none M M := Sub.refl M
theorem Dr.sub (h : Sub M M') (ok : ∀ b, a = some b → ∃ ds : List Int, M b = some (.lst (ds.map W.int))) : Dr a M M' := by
  cases a with
  | none => exact h
  | some a => exact ⟨fun b o _ e => h b o e, (ok a rfl).elim fun ds e => ⟨ds, h _ _ e⟩⟩
/-- the draws at a, and local things -/
def Kp (a : Option Addr) (fs : List (Addr × Ob)) (M0 M : Me) : Prop := Dr a M0 M ∧ fs.Pairwise (fun x y => x.1 ≠ y.1) ∧ ∀ x ∈ fs, some x.1 ≠ a ∧ M0 x.1 = none ∧ M x.1 = some x.2
theorem Kp.start {b : Addr} {ds : List Int} (h : M b = some (.lst (ds.map W.int))) : Kp (some b) [] M M := ⟨DrS.refl h, .nil, fun x hx => nomatch hx⟩
theorem Kp.start0 : Kp none [] M M := ⟨Sub.refl M, .nil, fun x hx => nomatch hx⟩
theorem Kp.dr (k : Kp a fs M0 M) : Dr a M0 M := k.1
theorem Kp.take (k : Kp a fs M0 M) (d : Dr a M M') : Kp a fs M0 M' := ⟨k.1.trans d, k.2.1, fun x hx => ⟨(k.2.2 x hx).1, (k.2.2 x hx).2.1, d.old (k.2.2 x hx).1 (k.2.2 x hx).2.2⟩⟩
theorem Kp.new (k : Kp a fs M0 M) (n : M q = none) : Kp a ((q, o) :: fs) M0 (put M q o) := by
  obtain ⟨n0, ne⟩ := k.1.fresh n
  refine ⟨k.1.new n, .cons (fun y hy e => ?_) k.2.1, fun x hx => ?_⟩
  · have := (k.2.2 y hy).2.2
    rw [← show q = y.1 from e, n] at this; cases this
  · rcases List.mem_cons.mp hx with rfl | hx
    · exact ⟨ne, n0, put_same⟩
    · exact ⟨(k.2.2 x hx).1, (k.2.2 x hx).2.1, put_old (k.2.2 x hx).2.2 n⟩
theorem Kp.set (k : Kp a ((q, o) :: fs) M0 M) : Kp a ((q, o') :: fs) M0 (put M q o') := by
  have h := k.2.2 (q, o) (.head _)
  refine ⟨k.1.loc h.2.1 h.1, .cons (fun y hy => (List.rel_of_pairwise_cons k.2.1 hy : q ≠ y.1)) k.2.1.of_cons, fun x hx => ?_⟩
  rcases List.mem_cons.mp hx with rfl | hx
  · exact ⟨h.1, h.2.1, put_same⟩
  · refine ⟨(k.2.2 x (.tail _ hx)).1, (k.2.2 x (.tail _ hx)).2.1, ?_⟩
    rw [put_ne (Ne.symm (List.rel_of_pairwise_cons k.2.1 hx : q ≠ x.1))]
    exact (k.2.2 x (.tail _ hx)).2.2
theorem Kp.perm (k : Kp a fs M0 M) (p : gs.Perm fs) : Kp a gs M0 M := ⟨k.1, (p.pairwise_iff (fun h e => h e.symm)).mpr k.2.1, fun x hx => k.2.2 x (p.mem_iff.mp hx)⟩
theorem Kp.come (k : Kp a fs M0 M) (d : Dr a M M') (n : M q = none) (e : M' q = some o) : Kp a ((q, o) :: fs) M0 M' := by
  have k2 := k.take d
  refine ⟨k2.1, .cons (fun y hy z => ?_) k.2.1, fun x hx => ?_⟩
  · have := (k.2.2 y hy).2.2
    rw [← show q = y.1 from z, n] at this; cases this
  · rcases List.mem_cons.mp hx with rfl | hx
    · exact ⟨(k.1.fresh n).2, (k.1.fresh n).1, e⟩
    · exact k2.2.2 x hx
theorem Kp.tail (k : Kp a (x :: fs) M0 M) : Kp a fs M0 M := ⟨k.1, k.2.1.of_cons, fun y hy => k.2.2 y (.tail _ hy)⟩
theorem Kp.tail2 (k : Kp a (x :: y :: fs) M0 M) : Kp a (x :: fs) M0 M := ⟨k.1, k.2.1.sublist (.cons_cons _ (.cons _ (List.Sublist.refl _))), fun z hz => k.2.2 z (by rcases List.mem_cons.mp hz with rfl | h; exact .head _; exact .tail _ (.tail _ h))⟩
theorem Kp.none (k : Kp a fs M0 M) : Kp a [] M0 M := ⟨k.1, .nil, fun y hy => nomatch hy⟩
theorem Kp.sw (k : Kp a (x :: y :: fs) M0 M) : Kp a (y :: x :: fs) M0 M := k.perm (.swap _ _ _)
/-- the third, the fourth to the front -/
theorem Kp.r2 (k : Kp a (x :: y :: z :: fs) M0 M) : Kp a (z :: x :: y :: fs) M0 M := k.perm ((List.Perm.swap x z _).trans ((List.Perm.swap y z _).cons x))
theorem Kp.g0 (k : Kp a ((q, o) :: fs) M0 M) : M q = some o := (k.2.2 _ (.head _)).2.2
theorem Kp.g1 (k : Kp a (x :: (q, o) :: fs) M0 M) : M q = some o := (k.2.2 _ (.tail _ (.head _))).2.2
theorem Kp.g2 (k : Kp a (x :: y :: (q, o) :: fs) M0 M) : M q = some o := (k.2.2 _ (.tail _ (.tail _ (.head _)))).2.2
theorem Kp.g3 (k : Kp a (x :: y :: z :: (q, o) :: fs) M0 M) : M q = some o := (k.2.2 _ (.tail _ (.tail _ (.tail _ (.head _))))).2.2
theorem Kp.g4 {u : Addr × Ob} (k : Kp a (x :: y :: z :: u :: (q, o) :: fs) M0 M) : M q = some o := (k.2.2 _ (.tail _ (.tail _ (.tail _ (.tail _ (.head _)))))).2.2
theorem Kp.f0 (k : Kp a ((q, o) :: fs) M0 M) : M0 q = Option.none := (k.2.2 _ (.head _)).2.1
theorem Kp.old (k : Kp a fs M0 M) (n : some q ≠ a) (e : M0 q = some o) : M q = some o := k.1.old n e
theorem Kp.old0 (k : Kp Option.none fs M0 M) (e : M0 q = some o) : M q = some o := k.1 _ _ e
theorem Kp.sub (k : Kp Option.none fs M0 M) : Sub M0 M := k.1
/-! steps -/
theorem Kp.fresh_go {Q : WK} {tg : Tg Q} (k : Kp a fs M0 M) (f : ∀ p M', Kp a ((p, o) :: fs) M0 M' → Sub M M' → Q (.ref p) M') : lz (frs o M) Q tg := fun p hp => f p _ (k.new hp) (Sub.new hp)
theorem Kp.app_go {xs : List W} {v : W} {Q : WK} {tg : Tg Q} (k : Kp a ((q, .lst xs) :: fs) M0 M) (h : xs.length ≤ 16000000) (f : ∀ M', Kp a ((q, .lst (xs ++ [v])) :: fs) M0 M' → Q .non M') : lz (rApp (.ref q) [v] M) Q tg := by
  show rApp (.ref q) [v] M Q
  unfold rApp
  dsimp only
  rw [k.g0]
  exact ⟨small_line h, f _ k.set⟩
theorem Kp.take_go' {sp : PSp} {ws : List W} {Q : WK} {tg : Tg Q} (h : sp ws M Q noX) : lz (spc sp ws M) Q tg := h
end
def sp_take : PSp := fun ws M Q _ => match ws with
  | [.ref a, .int m] => (∃ ds : List Int, M a = some (.lst (ds.map W.int))) ∧ 0 < m ∧ ∀ r M', 0 ≤ r → r < m → DrS a M M' → Q (.int r) M'
  | _ => False
theorem Kp.take_go {a : Addr} {fs : List (Addr × Ob)} {M0 M : Me} {m : Int} {Q : WK} {tg : Tg Q} (h : Kp (some a) fs M0 M) (hm : 0 < m) (k : ∀ r M', 0 ≤ r → r < m → Kp (some a) fs M0 M' → Q (.int r) M') : lz (spc sp_take [.ref a, .int m] M) Q tg :=
  ⟨h.1.2, hm, fun r M' h0 h1 d => k r M' h0 h1 (h.take d)⟩
theorem Kp.take_go2 {a : Addr} {fs : List (Addr × Ob)} {M0 M : Me} {m : Int} {Q : WK} {tg : Tg Q} (h : Kp (some a) fs M0 M) (hm : 0 < m) (k : ∀ r M', 0 ≤ r → r < m → DrS a M M' → Kp (some a) fs M0 M' → Q (.int r) M') : lz (spc sp_take [.ref a, .int m] M) Q tg :=
  ⟨h.1.2, hm, fun r M' h0 h1 d => k r M' h0 h1 d (h.take d)⟩
theorem b2i_0 {b : Bool} : 0 ≤ b2i b := by cases b <;> decide
theorem b2i_2 {b : Bool} : b2i b < 2 := by cases b <;> decide
theorem at_mem {xs : List W} {r : Int} (h0 : 0 ≤ r) (h1 : r < xs.length) : ∃ w ∈ xs, atI xs r = some w := by
  have hl : r.toNat < xs.length := by omega
  exact ⟨xs[r.toNat], List.getElem_mem hl, atI_of h0 (List.getElem?_eq_getElem hl)⟩
/-- places of a list of whole numbers -/
theorem at_int {ks : List Int} {r : Int} {P : Int → Prop} (h0 : 0 ≤ r) (h1 : r < ks.length) (hp : ∀ k ∈ ks, P k) : ∃ k, P k ∧ atI (ks.map W.int) r = some (.int k) := by
  have hl : r.toNat < ks.length := by omega
  exact ⟨ks[r.toNat], hp _ (List.getElem_mem hl), atI_of h0 (by rw [List.getElem?_map, List.getElem?_eq_getElem hl]; rfl)⟩
theorem cut_len {xs : List W} {lo hi : Option Int} : (cutW xs lo hi).length ≤ xs.length := by
  unfold cutW
  rw [List.length_take, List.length_drop]
  omega
theorem sq_0 {n : Nat} : seqIndex? 0 (n + 1) = some 0 := by
  unfold seqIndex?
  simp
end PV
set_option maxHeartbeats 1000000
/-! PV: order of nested tuples, list.index, a display of one pair. -/
namespace PV
open PySem PySem.Spec PyProof.Rows L2
section
variable {X : Cx} {Y : Cy} {e a b c : Expr} {pos : Pos} {K : PySem.W.Frag} {H : Hp} {M : Me}
theorem op_ltD (hu : X.A.units + 64 < cLine) : OpR X (compareOp .Lt) fun x y H Q => ∃ d e, Dp X.K H x d ∧ Dp X.K H y e ∧ PySem.W.alike d e = true ∧ d ≠ .none ∧ d.depth ≤ 60 ∧ Q (.bl (PySem.W.dataLt d e)) H := by
  intro pins s σ H x y v u Q I rx ry h
  obtain ⟨d, e, hd, he, al, nn, dp, q⟩ := h
  obtain ⟨as, r1⟩ := Dp.reads I d x v hd rx
  obtain ⟨bs, r2⟩ := Dp.reads I e y u he ry
  exact PySem.W.rcLt_alike d e X.A s v u as bs r1 r2 al nn (by omega) X.prog X.w _ _ ⟨.bl _, H, I, rfl, q⟩
def rLtD2 : R2W := fun x y M Q => (∃ i j, x = .int i ∧ y = .int j ∧ Q (.bl (decide (i < j))) M) ∨ ∃ d e, Dw M d x ∧ Dw M e y ∧ PySem.W.alike d e = true ∧ d ≠ .none ∧ d.depth ≤ 60 ∧ Q (.bl (PySem.W.dataLt d e)) M
theorem wop_ltD (hu : X.A.units + 64 < cLine) : OpW X (compareOp .Lt) fun x y M Q => ∃ d e, Dw M d x ∧ Dw M e y ∧ PySem.W.alike d e = true ∧ d ≠ .none ∧ d.depth ≤ 60 ∧ Q (.bl (PySem.W.dataLt d e)) M := OpR_imp (op_ltD hu) fun x y H Q ⟨wx, wy, M, Qw, rx, ry, m, ⟨d, e, h1, h2, s1, s2, s3, q⟩, k⟩ =>
  ⟨d, e, dw_dp m d wx x h1 rx, dw_dp m e wy y h2 ry, s1, s2, s3, k _ M _ H q (Go.refl _ _) rep_bl m⟩
theorem w_ltD (hu : X.A.units + 64 < cLine) : OpW X (compareOp .Lt) rLtD2 := OpW.or w_lt (wop_ltD hu) fun x y M Q h => by
  rcases h with ⟨i, j, rfl, rfl, h⟩ | h
  · exact .inl h
  · exact .inr h
/-- l.index(x), whole numbers -/
def rIndex2 : RMW := fun x ws M Q => match x, ws with
  | .ref a, [.int i] => ∃ ns : List Int, M a = some (.lst (ns.map W.int)) ∧ i ∈ ns ∧ Q (.int (ns.idxOf i : Nat)) M
  | _, _ => False
theorem w_index : MtR X "list.index" (upM X.kx rIndex2) := MtR_imp mt_index fun x vs H Q ⟨wx, ws, M, Qw, rx, rs, m, q, k⟩ => by
  unfold rIndex2 at q
  split at q
  · rename_i a i
    obtain ⟨ns, e, hi, q⟩ := q
    obtain ⟨v, ev, r⟩ := args1 rs
    subst ev
    obtain ⟨us, e1, r1⟩ := m a _ e
    have e2 := Reps.ints r1
    subst e2
    have hl : ns.idxOf i < ns.length := List.idxOf_lt_length_of_mem hi
    refine ⟨a, ns.map V.int, .int i, ns.idxOf i, .int i, un_ref rx, by rw [un_int r], .inl (.inl e1), rfl, ?_, ?_, ?_, ?_, k _ M _ H q (Go.refl _ _) rep_int m⟩
    · rw [List.all_map]; exact List.all_eq_true.mpr fun _ _ => rfl
    · rw [List.getElem?_map, List.getElem?_eq_getElem hl]
      simp
    · simp [eqV]
    · intro j z hj hz
      rw [List.getElem?_map] at hz
      have hjl : j < ns.length := by omega
      rw [List.getElem?_eq_getElem hjl] at hz
      cases hz
      have : ns[j] ≠ i := fun z => by
        have := List.not_of_lt_findIdx (p := (· == i)) (xs := ns) (i := j) hj
        simp [z] at this
      simp [eqV, this]
  · exact q.elim
def dkS (x : W) (k : Key → Prop) : Prop := match wkey x with
  | some kk => k kk
  | none => False
theorem dkS_i {i : Int} {k : Key → Prop} {tg : Tg k} : lz (dkS (.int i)) k tg = k (.inl i) := propext Iff.rfl
theorem dkS_s {z : Str} {k : Key → Prop} {tg : Tg k} : lz (dkS (.str z)) k tg = k (.inr z) := propext Iff.rfl
def dkF (x : W) (z : W) (M : Me) (Q : WK) (kk : Key) : Prop := match x with
  | .ref p => M p = some (.dK []) ∧ Q (.ref p) (put M p (.dK [(kk, z)]))
  | _ => False
theorem dkF_r {p : Addr} {z : W} {M : Me} {Q : WK} {kk : Key} : dkF (.ref p) z M Q kk = (M p = some (.dK []) ∧ Q (.ref p) (put M p (.dK [(kk, z)]))) := propext Iff.rfl
/-- {k: v} -/
def wDispK (tk tv : WE) : WE := fun ρ M Q => frs (.dK []) M fun x M0 => tk ρ M0 fun y M1 => tv ρ M1 fun z M2 => dkS y (dkF x z M2 Q)
theorem s_dispK {tk tv : WE} {ρ : En} {M : Me} {Q : WK} : wDispK tk tv ρ M Q = lz (frs (.dK []) M) (fun x M0 => tk ρ M0 fun y M1 => tv ρ M1 fun z M2 => lz (dkS y) (dkF x z M2 Q) .mk) .mk := propext Iff.rfl
theorem q_dispK {pk pv : Expr} {tk tv : WE} (_hu : Y.X.A.units + 64 < cLine) (hk : QE Y pk tk) (hv : QE Y pv tv) : QE Y (.Dict [some pk] [pv] pos) (wDispK tk tv) :=
  PE_imp (pe_disp (pps_cons hk hv pps_nil) rfl rfl (by simp) (by simp)) fun σ H Q ⟨ρ, M, Qw, so, h, k⟩ => fun p hp => by
    have so1 := so.step (Go.new (u := .dK []) hp) (so.mo.put (GoH.new (o := .dK []) hp) ⟨[], upd_same, .nil⟩)
    refine ⟨ρ, _, _, so1, h p (so.mo.free hp), fun wx M1 x H1 q1 g1 rx m1 => ⟨ρ, M1, _, so1.step g1 m1, q1, fun wy M2 y H2 q2 g2 ry m2 => ?_⟩⟩
    unfold dkS at q2
    split at q2
    · rename_i kk ek
      obtain ⟨e2, q2⟩ := q2
      obtain ⟨xs, h2, pr⟩ := m2 p _ e2
      cases pr
      have ex := wkey_V ek (rx.go g2.h)
      have g : GoH H2 (upd H2 p (.dK (mergeK [] [(kk, y)]))) := GoH.write h2 (fun _ z => nomatch z) (fun _ _ z => nomatch z)
      refine ⟨h2, [(kk, y)], by rw [ex]; rfl, by simp, k _ _ _ _ q2 ((((Go.new hp).trans g1).trans g2).trans (Go.put g e2)) rep_ref (m2.put g ⟨_, upd_same, ?_⟩)⟩
      exact .cons ⟨rfl, ry.go g⟩ .nil
    · exact q2.elim
variable {Q : WK} {tgQ : Tg Q} {i j : Int} {z z' : Str}
theorem iadd_i : lz (rIAdd2 (.int i) (.int j) M) Q tgQ = Q (.int (i + j)) M := propext Iff.rfl
theorem iadd_s : lz (rIAdd2 (.str z) (.str z') M) Q tgQ = (z.length + z'.length ≤ sizeLine ∧ Q (.str (z ++ z')) M) := propext Iff.rfl
theorem r2I_i {C : Int → Int → Prop} {f : Int → Int → W} : lz (r2I C f (.int i) (.int j) M) Q tgQ = (C i j ∧ Q (f i j) M) := propext Iff.rfl
theorem shl_go (h : CPow i j) (k : Q (.int (i * 2 ^ j.toNat)) M) : lz (rShl2 (.int i) (.int j) M) Q tgQ := ⟨h, k⟩
theorem shr_def : lz (rShr2 (.int i) (.int j) M) Q tgQ = rShr2 (.int i) (.int j) M Q := propext Iff.rfl
/-- < of nested tuples -/
def ltW (x y : W) : Bool := PySem.W.dataLt (pd x) (pd y)
theorem ltD_go {x y : W} (h1 : nr x = true) (h2 : nr y = true) (al : PySem.W.alike (pd x) (pd y) = true) (nn : pd x ≠ .none) (dx : dp x ≤ 60) (k : Q (.bl (ltW x y)) M) : lz (rLtD2 x y M) Q tgQ :=
  .inr ⟨pd x, pd y, pd_dw x h1, pd_dw y h2, al, nn, by rw [dp_depth]; exact dx, k⟩
theorem index_go {a : Addr} {ns : List Int} (e : M a = some (.lst (ns.map W.int))) (h : i ∈ ns) (k : Q (.int (ns.idxOf i : Nat)) M) : lz (rIndex2 (.ref a) [.int i] M) Q tgQ := ⟨ns, e, h, k⟩
end
end PV
set_option maxHeartbeats 4000000
namespace PV
open PySem PySem.Spec PyProof.Rows L2
def t_p_in_order  : WS := (wSeq (wAsg (wVar 0) (wgTup 3 (wgCons (wgName 2) (wgCons (wgName 3) (wgCons (wgName 4) wgNil))))) (wSeq (wSet 5 (wLst (wCons (wVar 1) wNil))) (wSeq (wSet 6 (wDispK (wVar 1) (wC (.int 0)))) (wSeq (wSet 7 (wC (.int 0))) (wSeq (wWhile (wB (wOp rLt2 (wVar 7) (wCall rLen (wCons (wVar 5) wNil)))) (wSeq (wFor (wiSeq (wTup (wCons (wOp rIx2 (wVar 3) (wOp rIx2 (wVar 5) (wVar 7))) (wCons (wOp rIx2 (wVar 4) (wOp rIx2 (wVar 5) (wVar 7))) wNil)))) (wgName 8) (wIfS (wB (wOp rNotIn2 (wVar 8) (wVar 6))) (wSeq (wAsg (wCall rLen (wCons (wVar 5) wNil)) (wgSub (wVar 6) (wVar 8) rSet3)) (wDrop (wMt rApp (wVar 5) (wCons (wVar 8) wNil)))) wNext)) (wAug 7 (wC (.int 1)) rIAdd2))) (wSeq (wSet 9 (wCall rTup (wCons (wLc (wiSeq (wVar 5)) (wgName 11) wYes (wOp rIx2 (wVar 2) (wVar 11)) [11]) wNil))) (wSeq (wSet 10 (wCall rTup (wCons (wLc (wiSeq (wVar 5)) (wgName 11) wYes (wOp rIx2 (wVar 6) (wOp rIx2 (wVar 3) (wVar 11))) [11]) wNil))) (wRet (wTup (wCons (wVar 9) (wCons (wVar 10) (wCons (wCall rTup (wCons (wLc (wiSeq (wVar 5)) (wgName 11) wYes (wOp rIx2 (wVar 6) (wOp rIx2 (wVar 4) (wVar 11))) [11]) wNil)) wNil))))))))))))

def t_p_plain_cell (c_p_in_order : PSp) : WS := (wRet (wFn c_p_in_order (wCons (wVar 0) (wCons (wC (.int 0)) wNil))))

def t_p_cell_misses  : WS := (wSeq (wAsg (wVar 0) (wgTup 3 (wgCons (wgName 2) (wgCons (wgName 3) (wgCons (wgName 4) wgNil))))) (wSeq (wSet 5 (wC (.int 0))) (wSeq (wSet 6 (wC (.int 0))) (wSeq (wFor (wiSeq (wVar 1)) (wgName 7) (wSeq (wIfS (wB (wOp rNe2 (wOp rIx2 (wVar 2) (wVar 5)) (wVar 7))) (wAug 6 (wC (.int 1)) rIAdd2) wNext) (wSet 5 (wIf (wB (wOp rEq2 (wVar 7) (wC (.int 0)))) (wOp rIx2 (wVar 3) (wVar 5)) (wOp rIx2 (wVar 4) (wVar 5)))))) (wRet (wVar 6))))))

def t_p_figures  : WS := (wSeq (wSet 3 (wLst wNil)) (wSeq (wFor (wiRng1 (wCons (wVar 2) wNil)) (wgName 4) (wSeq (wDrop (wMt rApp (wVar 3) (wCons (wOp rMod2 (wVar 0) (wVar 1)) wNil))) (wSet 0 (wOp rDiv2 (wVar 0) (wVar 1))))) (wRet (wCall rTup (wCons (wVar 3) wNil)))))

def t_p_power  : WS := (wSeq (wSet 2 (wC (.int 1))) (wSeq (wFor (wiRng1 (wCons (wVar 1) wNil)) (wgName 3) (wAug 2 (wVar 0) (r2I CMul fun i j => .int (i * j)))) (wRet (wVar 2))))

def t_p_cells_of (c_p_power : PSp) (c_p_figures : PSp) (c_p_plain_cell : PSp) : WS := (wSeq (wSet 1 (wLst wNil)) (wSeq (wFor (wiRng1 (wCons (wFn c_p_power (wCons (wC (.int 2)) (wCons (wVar 0) wNil))) wNil)) (wgName 2) (wFor (wiRng1 (wCons (wFn c_p_power (wCons (wVar 0) (wCons (wOp rMul2 (wC (.int 2)) (wVar 0)) wNil))) wNil)) (wgName 3) (wSeq (wSet 4 (wFn c_p_figures (wCons (wVar 3) (wCons (wVar 0) (wCons (wOp rMul2 (wC (.int 2)) (wVar 0)) wNil))))) (wSeq (wSet 5 (wTup (wCons (wFn c_p_figures (wCons (wVar 2) (wCons (wC (.int 2)) (wCons (wVar 0) wNil)))) (wCons (wSl (wVar 4) wNoPart (wPart (wVar 0))) (wCons (wSl (wVar 4) (wPart (wVar 0)) wNoPart) wNil))))) (wIfS (wB (wOp rEq2 (wFn c_p_plain_cell (wCons (wVar 5) wNil)) (wVar 5))) (wDrop (wMt rApp (wVar 1) (wCons (wVar 5) wNil))) wNext))))) (wRet (wVar 1))))

def t_p_best_cell (c_p_cells_of : PSp) (c_p_cell_misses : PSp) : WS := (wSeq (wSet 2 (wC .non)) (wSeq (wFor (wiRng2 (wCons (wC (.int 1)) (wCons (wOp rAdd2 (wVar 1) (wC (.int 1))) wNil))) (wgName 3) (wFor (wiSeq (wFn c_p_cells_of (wCons (wVar 3) wNil))) (wgName 4) (wSeq (wSet 5 (wTup (wCons (wFn c_p_cell_misses (wCons (wVar 4) (wCons (wVar 0) wNil))) (wCons (wVar 3) (wCons (wVar 4) wNil))))) (wIfS (wOr (wB (wOp rIs2 (wVar 2) (wC .non))) (wB (wOp rLtD2 (wVar 5) (wVar 2)))) (wSet 2 (wVar 5)) wNext)))) (wRet (wTup (wCons (wOp rIx2 (wVar 2) (wC (.int 0))) (wCons (wOp rIx2 (wVar 2) (wC (.int 2))) wNil))))))

def t_l_cell_at  : WS := (wSeq (wIfS (wB (wOp rLt2 (wVar 1) (wCall rLen (wCons (wVar 0) wNil)))) (wRet (wOp rIx2 (wVar 0) (wVar 1))) wNext) (wRet (wC (.int 0))))

def t_l_take  : WS := (wSeq (wIfS (wB (wOp rEq2 (wOp rIx2 (wVar 0) (wC (.int 1))) (wC (.int 0)))) (wSeq (wSet 2 (wOp rMod2 (wOp rIx2 (wVar 0) (wC (.int 0))) (wVar 1))) (wSeq (wAsg (wOp rDiv2 (wOp rIx2 (wVar 0) (wC (.int 0))) (wVar 1)) (wgSub (wVar 0) (wC (.int 0)) rSet3)) (wRet (wVar 2)))) wNext) (wSeq (wAsg (wOp rAdd2 (wOp rIx2 (wVar 0) (wC (.int 2))) (wC (.int 1))) (wgSub (wVar 0) (wC (.int 2)) rSet3)) (wSeq (wSet 3 (wOp rMul2 (wOp rMod2 (wOp rIx2 (wVar 0) (wC (.int 0))) (wC (.int 2147483647))) (wOp rAdd2 (wOp rMul2 (wOp rIx2 (wVar 0) (wC (.int 2))) (wOp rIx2 (wVar 0) (wC (.int 2)))) (wC (.int 48271))))) (wSeq (wSet 3 (wOp rMod2 (wOp rAdd2 (wOp rAdd2 (wVar 3) (wOp rIx2 (wVar 0) (wC (.int 2)))) (wC (.int 7))) (wC (.int 2147483629)))) (wSeq (wSet 3 (wOp rMod2 (wOp rMul2 (wVar 3) (wVar 3)) (wC (.int 2147483587)))) (wRet (wOp rMod2 (wOp rDiv2 (wOp rMod2 (wOp rMul2 (wVar 3) (wC (.int 69621))) (wC (.int 2147483563))) (wC (.int 8))) (wVar 1))))))))

def t_l_deck  : WS := (wSeq (wIfS (wB (wOp rGe2 (wVar 0) (wOp rPow2 (wC (.int 10)) (wC (.int 18))))) (wRet (wLst (wCons (wOp rSub2 (wVar 0) (wOp rPow2 (wC (.int 10)) (wC (.int 18)))) (wCons (wC (.int 0)) (wCons (wVar 1) wNil))))) wNext) (wRet (wLst (wCons (wVar 0) (wCons (wC (.int 1)) (wCons (wVar 1) wNil))))))

def t_l_cell (c_l_take : PSp) : WS := (wSeq (wSet 2 (wOp rAdd2 (wC (.int 1)) (wFn c_l_take (wCons (wVar 0) (wCons (wVar 1) wNil))))) (wSeq (wSet 3 (wCall rTup (wCons (wLc (wiRng1 (wCons (wVar 2) wNil)) (wgName 6) wYes (wFn c_l_take (wCons (wVar 0) (wCons (wC (.int 2)) wNil))) [6]) wNil))) (wSeq (wSet 4 (wCall rTup (wCons (wLc (wiRng1 (wCons (wVar 2) wNil)) (wgName 6) wYes (wFn c_l_take (wCons (wVar 0) (wCons (wVar 2) wNil))) [6]) wNil))) (wSeq (wSet 5 (wCall rTup (wCons (wLc (wiRng1 (wCons (wVar 2) wNil)) (wgName 6) wYes (wFn c_l_take (wCons (wVar 0) (wCons (wVar 2) wNil))) [6]) wNil))) (wRet (wTup (wCons (wVar 3) (wCons (wVar 4) (wCons (wVar 5) wNil)))))))))

def t_l_plain  : WS := (wSeq (wAsg (wVar 0) (wgTup 3 (wgCons (wgName 1) (wgCons (wgName 2) (wgCons (wgName 3) wgNil))))) (wSeq (wSet 4 (wLst (wCons (wC (.int 0)) wNil))) (wSeq (wSet 5 (wC (.int 0))) (wSeq (wWhile (wB (wOp rLt2 (wVar 5) (wCall rLen (wCons (wVar 4) wNil)))) (wSeq (wFor (wiSeq (wTup (wCons (wOp rIx2 (wVar 2) (wOp rIx2 (wVar 4) (wVar 5))) (wCons (wOp rIx2 (wVar 3) (wOp rIx2 (wVar 4) (wVar 5))) wNil)))) (wgName 6) (wIfS (wB (wOp rNotIn2 (wVar 6) (wVar 4))) (wDrop (wMt rApp (wVar 4) (wCons (wVar 6) wNil))) wNext)) (wSet 5 (wOp rAdd2 (wVar 5) (wC (.int 1)))))) (wSeq (wSet 7 (wCall rTup (wCons (wLc (wiSeq (wVar 4)) (wgName 9) wYes (wOp rIx2 (wVar 1) (wVar 9)) [9]) wNil))) (wSeq (wSet 8 (wCall rTup (wCons (wLc (wiSeq (wVar 4)) (wgName 9) wYes (wMt rIndex2 (wVar 4) (wCons (wOp rIx2 (wVar 2) (wVar 9)) wNil)) [9]) wNil))) (wRet (wTup (wCons (wVar 7) (wCons (wVar 8) (wCons (wCall rTup (wCons (wLc (wiSeq (wVar 4)) (wgName 9) wYes (wMt rIndex2 (wVar 4) (wCons (wOp rIx2 (wVar 3) (wVar 9)) wNil)) [9]) wNil)) wNil)))))))))))

def t_l_misses  : WS := (wSeq (wSet 2 (wC (.int 0))) (wSeq (wSet 3 (wC (.int 0))) (wSeq (wFor (wiSeq (wVar 1)) (wgName 4) (wSeq (wSet 3 (wOp rAdd2 (wVar 3) (wCall rInt (wCons (wOp rNe2 (wOp rIx2 (wOp rIx2 (wVar 0) (wC (.int 0))) (wVar 2)) (wVar 4)) wNil)))) (wSet 2 (wOp rIx2 (wOp rIx2 (wVar 0) (wOp rAdd2 (wC (.int 1)) (wVar 4))) (wVar 2))))) (wRet (wVar 3)))))

def t_l_ways (c_l_deck : PSp) (c_l_cell_at : PSp) (c_l_take : PSp) (c_l_cell : PSp) : WS := (wSeq (wSet 1 (wFn c_l_deck (wCons (wFn c_l_cell_at (wCons (wVar 0) (wCons (wC (.int 0)) wNil))) (wCons (wC (.int 9)) wNil)))) (wSeq (wSet 2 (wFn c_l_take (wCons (wVar 1) (wCons (wC (.int 3)) wNil)))) (wSeq (wIfS (wB (wOp rEq2 (wVar 2) (wC (.int 0)))) (wRet (wLc (wiSeq (wSl (wVar 0) (wPart (wC (.int 1))) (wPart (wC (.int 61))))) (wgName 3) wYes (wFn c_l_take (wCons (wFn c_l_deck (wCons (wVar 3) (wCons (wC (.int 2)) wNil))) (wCons (wC (.int 2)) wNil))) [3])) wNext) (wSeq (wSet 4 (wFn c_l_take (wCons (wVar 1) (wCons (wC (.int 61)) wNil)))) (wSeq (wIfS (wB (wOp rEq2 (wVar 2) (wC (.int 1)))) (wSeq (wSet 6 (wLc (wiRng1 (wCons (wOp rAdd2 (wC (.int 1)) (wFn c_l_take (wCons (wVar 1) (wCons (wC (.int 9)) wNil)))) wNil)) (wgName 5) wYes (wFn c_l_take (wCons (wVar 1) (wCons (wC (.int 2)) wNil))) [5])) (wRet (wLc (wiRng1 (wCons (wVar 4) wNil)) (wgName 5) wYes (wOp rIx2 (wVar 6) (wOp rMod2 (wVar 5) (wCall rLen (wCons (wVar 6) wNil)))) [5]))) wNext) (wSeq (wSet 3 (wFn c_l_cell (wCons (wVar 1) (wCons (wC (.int 5)) wNil)))) (wSeq (wSet 7 (wOp rAdd2 (wC (.int 2)) (wFn c_l_take (wCons (wVar 1) (wCons (wC (.int 30)) wNil))))) (wSeq (wSet 8 (wC (.int 0))) (wSeq (wSet 9 (wLst wNil)) (wSeq (wFor (wiRng1 (wCons (wVar 4) wNil)) (wgName 5) (wSeq (wSet 10 (wOp rIx2 (wOp rIx2 (wVar 3) (wC (.int 0))) (wVar 8))) (wSeq (wIfS (wB (wOp rEq2 (wOp rMod2 (wVar 5) (wVar 7)) (wOp rSub2 (wVar 7) (wC (.int 1))))) (wSet 10 (wOp rSub2 (wC (.int 1)) (wVar 10))) wNext) (wSeq (wDrop (wMt rApp (wVar 9) (wCons (wVar 10) wNil))) (wSet 8 (wOp rIx2 (wOp rIx2 (wVar 3) (wOp rAdd2 (wC (.int 1)) (wVar 10))) (wVar 8))))))) (wRet (wVar 9))))))))))))

def t_l_none_better (c_l_plain : PSp) (c_l_misses : PSp) : WS := (wSeq (wSet 4 (wTup (wCons (wOp rIx2 (wVar 3) (wC (.int 0))) (wCons (wCall rLen (wCons (wOp rIx2 (wOp rIx2 (wVar 3) (wC (.int 1))) (wC (.int 0))) wNil)) (wCons (wOp rIx2 (wVar 3) (wC (.int 1))) wNil))))) (wSeq (wFor (wiSeq (wVar 0)) (wgName 5) (wSeq (wSet 6 (wFn c_l_plain (wCons (wVar 5) wNil))) (wSeq (wSet 7 (wCall rLen (wCons (wOp rIx2 (wVar 6) (wC (.int 0))) wNil))) (wIfS (wAnd (wB (wOp rLe2 (wVar 7) (wVar 2))) (wB (wOp rLtD2 (wTup (wCons (wFn c_l_misses (wCons (wVar 6) (wCons (wVar 1) wNil))) (wCons (wVar 7) (wCons (wVar 6) wNil)))) (wVar 4)))) (wRet (wC (.bl false))) wNext)))) (wRet (wC (.bl true)))))

def t_l_is_whole  : WS := (wSeq (wIfS (wNot (wB (wIsi .tuple (wVar 0)))) (wRet (wC (.bl false))) wNext) (wSeq (wFor (wiSeq (wVar 0)) (wgName 1) (wSeq (wIfS (wNot (wB (wIsi .tuple (wVar 1)))) (wRet (wC (.bl false))) wNext) (wIfS (wB (wOp rNe2 (wLc (wiSeq (wVar 1)) (wgName 2) (wOr (wNot (wB (wIsi .int (wVar 2)))) (wB (wIsi .bool (wVar 2)))) (wVar 2) [2]) (wLst wNil))) (wRet (wC (.bl false))) wNext))) (wRet (wC (.bl true)))))

def t_lawm (c_l_ways : PSp) (c_l_cell : PSp) (c_l_deck : PSp) (c_p_best_cell : PSp) (c_l_is_whole : PSp) (c_l_plain : PSp) (c_l_misses : PSp) (c_l_none_better : PSp) : WS := (wSeq (wSet 1 (wFn c_l_ways (wCons (wVar 0) wNil))) (wSeq (wSet 2 (wLc (wiSeq (wSl (wVar 0) (wPart (wC (.int 1))) (wPart (wC (.int 41))))) (wgName 6) wYes (wFn c_l_cell (wCons (wFn c_l_deck (wCons (wVar 6) (wCons (wC (.int 5)) wNil))) (wCons (wC (.int 3)) wNil))) [6])) (wSeq (wSet 3 (wC .non)) (wSeq (wFor (wiSeq (wTup (wCons (wC (.int 1)) (wCons (wC (.int 2)) (wCons (wC (.int 3)) wNil))))) (wgName 4) (wSeq (wSet 5 (wFn c_p_best_cell (wCons (wCall rLst (wCons (wVar 1) wNil)) (wCons (wVar 4) wNil)))) (wSeq (wIfS (wOr (wNot (wB (wFn c_l_is_whole (wCons (wOp rIx2 (wVar 5) (wC (.int 1))) wNil)))) (wB (wIsi .bool (wOp rIx2 (wVar 5) (wC (.int 0)))))) (wRet (wC (.bl false))) wNext) (wSeq (wIfS (wOr (wB (wOp rGt2 (wCall rLen (wCons (wOp rIx2 (wOp rIx2 (wVar 5) (wC (.int 1))) (wC (.int 0))) wNil)) (wVar 4))) (wOr (wB (wOp rNe2 (wFn c_l_plain (wCons (wOp rIx2 (wVar 5) (wC (.int 1))) wNil)) (wOp rIx2 (wVar 5) (wC (.int 1))))) (wB (wOp rNe2 (wFn c_l_misses (wCons (wOp rIx2 (wVar 5) (wC (.int 1))) (wCons (wVar 1) wNil))) (wOp rIx2 (wVar 5) (wC (.int 0))))))) (wRet (wC (.bl false))) wNext) (wSeq (wIfS (wOr (wNot (wB (wFn c_l_none_better (wCons (wVar 2) (wCons (wVar 1) (wCons (wVar 4) (wCons (wVar 5) wNil))))))) (wAnd (wB (wOp rIsNot2 (wVar 3) (wC .non))) (wB (wOp rGt2 (wOp rIx2 (wVar 5) (wC (.int 0))) (wVar 3))))) (wRet (wC (.bl false))) wNext) (wSet 3 (wOp rIx2 (wVar 5) (wC (.int 0))))))))) (wRet (wOp rEq2 (wOp rIx2 (wFn c_p_best_cell (wCons (wLc (wiSeq (wVar 1)) (wgName 7) wYes (wOp rSub2 (wC (.int 1)) (wVar 7)) [7]) (wCons (wC (.int 2)) wNil))) (wC (.int 0))) (wOp rIx2 (wFn c_p_best_cell (wCons (wCall rLst (wCons (wVar 1) wNil)) (wCons (wC (.int 2)) wNil))) (wC (.int 0)))))))))

end PV
set_option maxHeartbeats 1000000
/-! cells in plain Lean -/
namespace PV
open PySem PySem.Spec PyProof.Rows L2
abbrev iT (xs : List Int) : W := .tup (xs.map W.int)
abbrev Cell := List Int × List Int × List Int
def cW (c : Cell) : W := .tup [iT c.1, iT c.2.1, iT c.2.2]
def ga (xs : List Int) (i : Int) : Int := xs.getD i.toNat 0
structure CellOk (n : Nat) (c : Cell) : Prop where
  l1 : c.1.length = n
  l2 : c.2.1.length = n
  l3 : c.2.2.length = n
  pos : 1 ≤ n
  g : ∀ x ∈ c.1, 0 ≤ x ∧ x < 2
  s : ∀ x ∈ c.2.1, 0 ≤ x ∧ x < n
  a : ∀ x ∈ c.2.2, 0 ≤ x ∧ x < n
theorem at_ga {xs : List Int} {i : Int} (h0 : 0 ≤ i) (h1 : i < xs.length) : atI (xs.map W.int) i = some (.int (ga xs i)) := by
  have hl : i.toNat < xs.length := by omega
  refine atI_of h0 ?_
  rw [List.getElem?_map, List.getElem?_eq_getElem hl]
  unfold ga
  rw [List.getD_eq_getElem?_getD, List.getElem?_eq_getElem hl]; rfl
theorem ga_mem {xs : List Int} {i : Int} (h0 : 0 ≤ i) (h1 : i < xs.length) : ga xs i ∈ xs := by
  have hl : i.toNat < xs.length := by omega
  unfold ga
  rw [List.getD_eq_getElem?_getD, List.getElem?_eq_getElem hl]
  exact List.getElem_mem hl
section
variable {n : Nat} {c : Cell}
theorem CellOk.gs (h : CellOk n c) {i : Int} (h0 : 0 ≤ i) (h1 : i < n) : 0 ≤ ga c.2.1 i ∧ ga c.2.1 i < n := h.s _ (ga_mem h0 (by rw [h.l2]; exact h1))
theorem CellOk.gaa (h : CellOk n c) {i : Int} (h0 : 0 ≤ i) (h1 : i < n) : 0 ≤ ga c.2.2 i ∧ ga c.2.2 i < n := h.a _ (ga_mem h0 (by rw [h.l3]; exact h1))
theorem CellOk.ag (h : CellOk n c) {i : Int} (h0 : 0 ≤ i) (h1 : i < n) : atI (c.1.map W.int) i = some (.int (ga c.1 i)) := at_ga h0 (by rw [h.l1]; exact h1)
theorem CellOk.as (h : CellOk n c) {i : Int} (h0 : 0 ≤ i) (h1 : i < n) : atI (c.2.1.map W.int) i = some (.int (ga c.2.1 i)) := at_ga h0 (by rw [h.l2]; exact h1)
theorem CellOk.aa (h : CellOk n c) {i : Int} (h0 : 0 ≤ i) (h1 : i < n) : atI (c.2.2.map W.int) i = some (.int (ga c.2.2 i)) := at_ga h0 (by rw [h.l3]; exact h1)
end
/-! misses -/
def nextC (c : Cell) (st way : Int) : Int := if way = 0 then ga c.2.1 st else ga c.2.2 st
def missC (c : Cell) : List Int → Int × Int → Int × Int
  | [], p => p
  | w :: ws, p => missC c ws (nextC c p.1 w, p.2 + b2i (!decide (ga c.1 p.1 = w)))
theorem missC_app (c : Cell) : ∀ (ws : List Int) (p : Int × Int) (w : Int), missC c (ws ++ [w]) p = (nextC c (missC c ws p).1 w, (missC c ws p).2 + b2i (!decide (ga c.1 (missC c ws p).1 = w)))
  | [], _, _ => rfl
  | x :: ws, p, w => missC_app c ws _ w
theorem missC_take {c : Cell} {ws : List Int} {i : Nat} {w : Int} {p : Int × Int} (h : ws[i]? = some w) : missC c (ws.take (i + 1)) p = (nextC c (missC c (ws.take i) p).1 w, (missC c (ws.take i) p).2 + b2i (!decide (ga c.1 (missC c (ws.take i) p).1 = w))) := by
  rw [List.take_succ, h]
  exact missC_app c _ p w
theorem nextC_ok {n : Nat} {c : Cell} (h : CellOk n c) {st w : Int} (h0 : 0 ≤ st) (h1 : st < n) : 0 ≤ nextC c st w ∧ nextC c st w < n := by
  unfold nextC
  split
  · exact h.gs h0 h1
  · exact h.gaa h0 h1
theorem missC_ok {n : Nat} {c : Cell} (h : CellOk n c) : ∀ (ws : List Int) (p : Int × Int), 0 ≤ p.1 ∧ p.1 < n → 0 ≤ (missC c ws p).1 ∧ (missC c ws p).1 < n
  | [], _, hp => hp
  | w :: ws, p, hp => missC_ok h ws _ (nextC_ok h hp.1 hp.2)
def missN (c : Cell) (ws : List Int) : Int := (missC c ws (0, 0)).2
/-! figures, power -/
def dv (num base : Int) : Nat → Int
  | 0 => num
  | k + 1 => dv num base k / base
def figs (num base : Int) (k : Nat) : List Int := (List.range k).map fun j => dv num base j % base
theorem figs_succ {num base : Int} {k : Nat} : figs num base (k + 1) = figs num base k ++ [dv num base k % base] := by
  unfold figs; rw [List.range_succ, List.map_append]; rfl
theorem figs_len {num base : Int} {k : Nat} : (figs num base k).length = k := by unfold figs; rw [List.length_map, List.length_range]
theorem figs_ok {num base : Int} {k : Nat} (h : 0 < base) : ∀ x ∈ figs num base k, 0 ≤ x ∧ x < base := fun x hx => by
  unfold figs at hx
  obtain ⟨j, _, rfl⟩ := List.mem_map.mp hx
  exact ⟨Int.emod_nonneg _ (by omega), Int.emod_lt_of_pos _ h⟩
/-! the order in which states are come to -/
def stO (o : List Int) (t : Int) : List Int := if t ∈ o then o else o ++ [t]
def stepO (c : Cell) (p : List Int × Nat) : List Int × Nat := match p.1[p.2]? with
  | some x => (stO (stO p.1 (ga c.2.1 x)) (ga c.2.2 x), p.2 + 1)
  | none => p
def itO (c : Cell) (f : Int) : Nat → List Int × Nat
  | 0 => ([f], 0)
  | k + 1 => stepO c (itO c f k)
def ordO (c : Cell) (f : Int) : List Int := (itO c f c.1.length).1
theorem stO_sub {o : List Int} {t x : Int} (h : x ∈ o) : x ∈ stO o t := by unfold stO; split; exact h; exact List.mem_append_left _ h
theorem stO_self {o : List Int} {t : Int} : t ∈ stO o t := by unfold stO; split <;> simp_all
theorem stO_len {o : List Int} {t : Int} : o.length ≤ (stO o t).length := by unfold stO; split <;> simp
theorem stO_get {o : List Int} {t : Int} {i : Nat} (h : i < o.length) : (stO o t)[i]? = o[i]? := by unfold stO; split; rfl; rw [List.getElem?_append_left h]
theorem stO_nodup {o : List Int} {t : Int} (h : o.Nodup) : (stO o t).Nodup := by
  unfold stO; split
  · exact h
  · rename_i hn
    rw [List.nodup_append]
    exact ⟨h, by simp, fun a ha b hb e => hn (by rw [List.mem_singleton] at hb; rw [← hb, ← e]; exact ha)⟩
theorem stO_all {o : List Int} {t : Int} {P : Int → Prop} (h : ∀ x ∈ o, P x) (ht : P t) : ∀ x ∈ stO o t, P x := fun x hx => by
  unfold stO at hx
  split at hx
  · exact h x hx
  · rcases List.mem_append.mp hx with hx | hx
    · exact h x hx
    · rw [List.mem_singleton.mp hx]; exact ht
/-- what holds of the order while it is made -/
structure OrdI (n : Nat) (c : Cell) (k : Nat) (o : List Int) : Prop where
  nd : o.Nodup
  bd : ∀ x ∈ o, 0 ≤ x ∧ x < n
  le : k ≤ o.length
  cl : ∀ (j : Nat) (x : Int), j < k → o[j]? = some x → ga c.2.1 x ∈ o ∧ ga c.2.2 x ∈ o
theorem nodup_sub : ∀ (l l' : List Int), l.Nodup → (∀ a ∈ l, a ∈ l') → l.length ≤ l'.length
  | [], _, _, _ => Nat.zero_le _
  | x :: l, l', nd, sb => by
    have hx := sb x (.head _)
    have nx := List.nodup_cons.mp nd
    have := nodup_sub l (l'.erase x) nx.2 (fun a ha => (List.mem_erase_of_ne (fun z => nx.1 (by rw [← z]; exact ha))).mpr (sb a (.tail _ ha)))
    rw [List.length_erase_of_mem hx] at this
    have hp : 0 < l'.length := List.length_pos_of_mem hx
    rw [List.length_cons]
    omega
theorem nodup_le {n : Nat} {o : List Int} (nd : o.Nodup) (bd : ∀ x ∈ o, 0 ≤ x ∧ x < n) : o.length ≤ n := by
  have := nodup_sub o ((List.range n).map fun (k : Nat) => (k : Int)) nd (fun x hx => by
    have := bd x hx
    exact List.mem_map.mpr ⟨x.toNat, List.mem_range.mpr (by omega), by omega⟩)
  simpa using this
section
variable {n k : Nat} {c : Cell} {o : List Int} {f x : Int}
theorem OrdI.start (h0 : 0 ≤ f) (h1 : f < n) : OrdI n c 0 [f] := ⟨by simp, fun x hx => by rw [List.mem_singleton.mp hx]; exact ⟨h0, h1⟩, Nat.zero_le _, fun j x hj => absurd hj (Nat.not_lt_zero _)⟩
theorem OrdI.step (h : OrdI n c k o) (hc : CellOk n c) (hx : o[k]? = some x) : OrdI n c (k + 1) (stO (stO o (ga c.2.1 x)) (ga c.2.2 x)) := by
  have bx := h.bd x (List.mem_of_getElem? hx)
  have hk : k < o.length := (List.getElem?_eq_some_iff.mp hx).1
  refine ⟨stO_nodup (stO_nodup h.nd), stO_all (stO_all h.bd (hc.gs bx.1 bx.2)) (hc.gaa bx.1 bx.2), Nat.le_trans hk (Nat.le_trans stO_len stO_len), fun j y hj hy => ?_⟩
  have hjo : j < o.length := by omega
  rw [stO_get (Nat.lt_of_lt_of_le hjo stO_len), stO_get hjo] at hy
  by_cases e : j = k
  · subst e
    rw [hx] at hy; cases hy
    exact ⟨stO_sub stO_self, stO_self⟩
  · have := h.cl j y (by omega) hy
    exact ⟨stO_sub (stO_sub this.1), stO_sub (stO_sub this.2)⟩
theorem itO_step (e : itO c f k = (o, k)) (hx : o[k]? = some x) : itO c f (k + 1) = (stO (stO o (ga c.2.1 x)) (ga c.2.2 x), k + 1) := by
  show stepO c (itO c f k) = _
  rw [e]
  unfold stepO
  rw [hx]
theorem itO_stop (e : itO c f k = (o, k)) (hk : o.length ≤ k) : ∀ j, itO c f (k + j) = (o, k)
  | 0 => e
  | j + 1 => by
    show stepO c (itO c f (k + j)) = _
    rw [itO_stop e hk j]
    unfold stepO
    rw [List.getElem?_eq_none hk]
theorem ordO_of (hc : CellOk n c) (h : OrdI n c k o) (e : itO c f k = (o, k)) (hk : o.length ≤ k) : ordO c f = o := by
  have hn := nodup_le h.nd h.bd
  have hk2 := h.le
  unfold ordO
  rw [hc.l1, show n = k + (n - k) by omega, itO_stop e hk]
end
/-- the cell in order -/
def plC (c : Cell) (f : Int) : Cell := ((ordO c f).map (ga c.1), (ordO c f).map fun x => ((ordO c f).idxOf (ga c.2.1 x) : Int), (ordO c f).map fun x => ((ordO c f).idxOf (ga c.2.2 x) : Int))
/-- places as a dict -/
def kvO (o : List Int) : List (Key × W) := o.zipIdx.map fun p => (Sum.inl p.1, W.int (p.2 : Nat))
theorem kvO_len {o : List Int} : (kvO o).length = o.length := by unfold kvO; simp
theorem look_zip : ∀ (o : List Int) (m : Nat) (x : Int), look ((o.zipIdx m).map fun p => ((Sum.inl p.1 : Key), W.int (p.2 : Nat))) (Sum.inl x) = if x ∈ o then some (.int ((m + o.idxOf x : Nat) : Int)) else none
  | [], _, _ => rfl
  | y :: o, m, x => by
    have ih := look_zip o (m + 1) x
    unfold look at ih ⊢
    rw [List.zipIdx_cons, List.map_cons, List.find?_cons]
    by_cases e : y = x
    · subst e
      simp
    · have e2 : decide ((Sum.inl y : Key) = Sum.inl x) = false := decide_eq_false fun z => e (Sum.inl.inj z)
      rw [e2]
      simp only [ih, List.mem_cons, List.idxOf_cons]
      have e3 : (y == x) = false := beq_eq_false_iff_ne.mpr e
      rw [e3]
      by_cases hm : x ∈ o
      · rw [if_pos hm, if_pos (.inr hm)]
        simp
        omega
      · rw [if_neg hm, if_neg (by rintro (h | h); exact e h.symm; exact hm h)]
theorem look_kvO {o : List Int} {x : Int} : look (kvO o) (Sum.inl x) = if x ∈ o then some (.int (o.idxOf x : Nat)) else none := by
  have := look_zip o 0 x
  rw [Nat.zero_add] at this
  exact this
theorem kvO_snoc {o : List Int} {x : Int} (h : x ∉ o) : place (kvO o) (Sum.inl x) (.int (o.length : Nat)) = kvO (o ++ [x]) := by
  unfold place
  rw [look_kvO, if_neg h]
  rw [if_neg (by simp)]
  unfold kvO
  rw [List.zipIdx_append, List.map_append]
  simp
end PV
set_option maxHeartbeats 1000000
/-! the plain form of a cell -/
namespace PV
open PySem PySem.Spec PyProof.Rows L2
section
variable {n : Nat} {c : Cell} {f : Int}
/-- the order at its end -/
def EndO (n : Nat) (c : Cell) (f : Int) (o : List Int) : Prop := OrdI n c o.length o ∧ itO c f o.length = (o, o.length)
theorem endO_ex (hc : CellOk n c) (f0 : 0 ≤ f) (f1 : f < n) : ∀ k : Nat, (∃ o, itO c f k = (o, k) ∧ OrdI n c k o) ∨ ∃ o, EndO n c f o
  | 0 => .inl ⟨[f], rfl, .start f0 f1⟩
  | k + 1 => by
    rcases endO_ex hc f0 f1 k with ⟨o, e, ho⟩ | h
    · by_cases hk : k < o.length
      · have hx := List.getElem?_eq_getElem hk
        exact .inl ⟨_, itO_step e hx, ho.step hc hx⟩
      · have : o.length = k := by have := ho.le; omega
        exact .inr ⟨o, by rw [this]; exact ho, by rw [this]; exact e⟩
    · exact .inr h
theorem endO (hc : CellOk n c) (f0 : 0 ≤ f) (f1 : f < n) : ∃ o, EndO n c f o := by
  rcases endO_ex hc f0 f1 n with ⟨o, e, ho⟩ | h
  · have h1 := nodup_le ho.nd ho.bd
    have h2 := ho.le
    have : o.length = n := by omega
    exact ⟨o, by rw [this]; exact ho, by rw [this]; exact e⟩
  · exact h
theorem EndO.eq {o : List Int} (h : EndO n c f o) (hc : CellOk n c) : ordO c f = o := ordO_of hc h.1 h.2 (Nat.le_refl _)
theorem EndO.cl {o : List Int} (h : EndO n c f o) {x : Int} (hx : x ∈ o) : ga c.2.1 x ∈ o ∧ ga c.2.2 x ∈ o := by
  obtain ⟨j, hj⟩ := List.getElem?_of_mem hx
  exact h.1.cl j x (List.getElem?_eq_some_iff.mp hj).1 hj
theorem itO_first (c : Cell) (f : Int) : ∀ k, f ∈ (itO c f k).1
  | 0 => by simp [itO]
  | k + 1 => by
    have ih := itO_first c f k
    show f ∈ (stepO c (itO c f k)).1
    unfold stepO
    split
    · exact stO_sub (stO_sub ih)
    · exact ih
theorem EndO.first {o : List Int} (h : EndO n c f o) : f ∈ o := by
  have := itO_first c f o.length
  rw [h.2] at this; exact this
end
/-- ga of a map, at the place of x -/
theorem ga_map {o : List Int} {v : Int → Int} {x : Int} (h : x ∈ o) : ga (o.map v) (o.idxOf x : Nat) = v x := by
  have hl := List.idxOf_lt_length_of_mem h
  unfold ga
  rw [Int.toNat_natCast, List.getD_eq_getElem?_getD, List.getElem?_map, List.getElem?_eq_getElem hl]
  simp
abbrev ix (o : List Int) (x : Int) : Int := (o.idxOf x : Nat)
theorem ix_inj {o : List Int} {x y : Int} (hx : x ∈ o) (hy : y ∈ o) (h : ix o x = ix o y) : x = y := by
  have h1 := List.idxOf_lt_length_of_mem hx
  have h2 := List.idxOf_lt_length_of_mem hy
  have e1 : o[o.idxOf x] = x := List.getElem_idxOf h1
  have e2 : o[o.idxOf y] = y := List.getElem_idxOf h2
  have h3 : o.idxOf x = o.idxOf y := by unfold ix at h; omega
  rw [← e1, ← e2]
  simp only [h3]
theorem mem_ix {o r : List Int} {t : Int} (ht : t ∈ o) (hr : ∀ x ∈ r, x ∈ o) : ix o t ∈ r.map (ix o) ↔ t ∈ r := by
  rw [List.mem_map]
  constructor
  · rintro ⟨x, hx, e⟩
    rw [← ix_inj (hr x hx) ht e]; exact hx
  · exact fun h => ⟨t, h, rfl⟩
theorem stO_ix {o r : List Int} {t : Int} (ht : t ∈ o) (hr : ∀ x ∈ r, x ∈ o) : stO (r.map (ix o)) (ix o t) = (stO r t).map (ix o) := by
  unfold stO
  by_cases h : t ∈ r
  · rw [if_pos h, if_pos ((mem_ix ht hr).mpr h)]
  · rw [if_neg h, if_neg (fun z => h ((mem_ix ht hr).mp z)), List.map_append]; rfl
section
variable {n : Nat} {c : Cell} {o : List Int}
theorem plC_eq (h : EndO n c 0 o) (hc : CellOk n c) : plC c 0 = (o.map (ga c.1), o.map fun x => ix o (ga c.2.1 x), o.map fun x => ix o (ga c.2.2 x)) := by unfold plC; rw [h.eq hc]
theorem itO_sub (h : EndO n c 0 o) : ∀ k, ∀ x ∈ (itO c 0 k).1, x ∈ o
  | 0 => fun x hx => by
    have : x = 0 := by simpa [itO] using hx
    rw [this]; exact h.first
  | k + 1 => by
    have ih := itO_sub h k
    intro x hx
    change x ∈ (stepO c (itO c 0 k)).1 at hx
    unfold stepO at hx
    split at hx
    · rename_i y hy
      have hyo := ih y (List.mem_of_getElem? hy)
      exact stO_all (P := fun z => z ∈ o) (stO_all (P := fun z => z ∈ o) ih (h.cl hyo).1) (h.cl hyo).2 x hx
    · exact ih x hx
theorem ix_0 (h : EndO n c 0 o) : ix o 0 = 0 := by
  have hk : ∀ k, (itO c 0 k).1[0]? = some 0 := fun k => by
    induction k with
    | zero => rfl
    | succ k ih =>
      show (stepO c (itO c 0 k)).1[0]? = some 0
      unfold stepO
      split
      · have hl : 0 < (itO c 0 k).1.length := (List.getElem?_eq_some_iff.mp ih).1
        rw [stO_get (Nat.lt_of_lt_of_le hl stO_len), stO_get hl]; exact ih
      · exact ih
  have h0 := hk o.length
  rw [h.2] at h0
  match o, h0 with
  | x :: r, h0 =>
    have : x = 0 := by simpa using h0
    subst this
    unfold ix
    simp
theorem itO_pl (h : EndO n c 0 o) (hc : CellOk n c) : ∀ k, itO (plC c 0) 0 k = ((itO c 0 k).1.map (ix o), (itO c 0 k).2)
  | 0 => by
    show ([0], 0) = (([0] : List Int).map (ix o), 0)
    rw [List.map_cons, ix_0 h]; rfl
  | k + 1 => by
    have ih := itO_pl h hc k
    have sb := itO_sub h k
    show stepO (plC c 0) (itO (plC c 0) 0 k) = ((stepO c (itO c 0 k)).1.map (ix o), (stepO c (itO c 0 k)).2)
    rw [ih, plC_eq h hc]
    unfold stepO
    dsimp only
    rw [List.getElem?_map]
    cases e : (itO c 0 k).1[(itO c 0 k).2]? with
    | none => rfl
    | some x =>
      have hx := sb x (List.mem_of_getElem? e)
      have hcl := h.cl hx
      simp only [Option.map_some]
      rw [ga_map (v := fun x => ix o (ga c.2.1 x)) hx, ga_map (v := fun x => ix o (ga c.2.2 x)) hx, stO_ix hcl.1 sb,
        stO_ix hcl.2 (stO_all (P := fun z => z ∈ o) sb hcl.1)]
theorem plC_ok (h : EndO n c 0 o) (hc : CellOk n c) : CellOk o.length (plC c 0) := by
  rw [plC_eq h hc]
  refine ⟨by simp, by simp, by simp, List.length_pos_of_mem h.first, fun x hx => ?_, fun x hx => ?_, fun x hx => ?_⟩
  · obtain ⟨y, hy, rfl⟩ := List.mem_map.mp hx
    have b := h.1.bd y hy
    exact hc.g _ (ga_mem b.1 (by rw [hc.l1]; exact b.2))
  · obtain ⟨y, hy, rfl⟩ := List.mem_map.mp hx
    have := List.idxOf_lt_length_of_mem (h.cl hy).1
    exact ⟨Int.natCast_nonneg _, by show ((o.idxOf (ga c.2.1 y) : Nat) : Int) < _; omega⟩
  · obtain ⟨y, hy, rfl⟩ := List.mem_map.mp hx
    have := List.idxOf_lt_length_of_mem (h.cl hy).2
    exact ⟨Int.natCast_nonneg _, by show ((o.idxOf (ga c.2.2 y) : Nat) : Int) < _; omega⟩
theorem map_ix (nd : o.Nodup) : o.map (ix o) = (List.range o.length).map fun (k : Nat) => (k : Int) := by
  apply List.ext_getElem?
  intro j
  rw [List.getElem?_map, List.getElem?_map]
  by_cases hj : j < o.length
  · rw [List.getElem?_eq_getElem hj, List.getElem?_range hj]
    simp only [Option.map_some]
    unfold ix
    rw [List.Nodup.idxOf_getElem nd]
  · rw [List.getElem?_eq_none (by omega), List.getElem?_eq_none (by simp; omega)]; rfl
theorem nodup_mapix (nd : o.Nodup) : (o.map (ix o)).Nodup := by
  rw [map_ix nd]
  unfold List.Nodup
  rw [List.pairwise_map]
  exact List.nodup_range.imp fun h z => h (by omega)
theorem idx_mapix (nd : o.Nodup) {x : Int} (hx : x ∈ o) : (o.map (ix o)).idxOf (ix o x) = o.idxOf x := by
  have hl := List.idxOf_lt_length_of_mem hx
  have e : (o.map (ix o))[o.idxOf x]'(by rw [List.length_map]; exact hl) = ix o x := by
    rw [List.getElem_map, List.getElem_idxOf hl]
  rw [← e, List.Nodup.idxOf_getElem (nodup_mapix nd)]
theorem plC_pl (h : EndO n c 0 o) (hc : CellOk n c) : plC (plC c 0) 0 = plC c 0 := by
  have e1 := itO_pl h hc o.length
  rw [h.2] at e1
  have e2 : ordO (plC c 0) 0 = o.map (ix o) := by
    unfold ordO
    rw [(plC_ok h hc).l1, e1]
  have hp := plC_eq h hc
  have nd := h.1.nd
  show (((ordO (plC c 0) 0).map (ga (plC c 0).1), (ordO (plC c 0) 0).map fun x => ((ordO (plC c 0) 0).idxOf (ga (plC c 0).2.1 x) : Int), (ordO (plC c 0) 0).map fun x => ((ordO (plC c 0) 0).idxOf (ga (plC c 0).2.2 x) : Int)) : Cell) = plC c 0
  rw [e2, hp]
  refine Prod.ext ?_ (Prod.ext ?_ ?_)
  · show (o.map (ix o)).map (ga (o.map (ga c.1))) = o.map (ga c.1)
    rw [List.map_map]
    exact List.map_congr_left fun x hx => ga_map hx
  · show ((o.map (ix o)).map fun x => ((o.map (ix o)).idxOf (ga (o.map fun x => ix o (ga c.2.1 x)) x) : Int)) = o.map fun x => ix o (ga c.2.1 x)
    rw [List.map_map]
    refine List.map_congr_left fun x hx => ?_
    show (((o.map (ix o)).idxOf (ga (o.map fun x => ix o (ga c.2.1 x)) (o.idxOf x : Nat)) : Nat) : Int) = ix o (ga c.2.1 x)
    rw [ga_map (v := fun x => ix o (ga c.2.1 x)) hx, idx_mapix nd (h.cl hx).1]
  · show ((o.map (ix o)).map fun x => ((o.map (ix o)).idxOf (ga (o.map fun x => ix o (ga c.2.2 x)) x) : Int)) = o.map fun x => ix o (ga c.2.2 x)
    rw [List.map_map]
    refine List.map_congr_left fun x hx => ?_
    show (((o.map (ix o)).idxOf (ga (o.map fun x => ix o (ga c.2.2 x)) (o.idxOf x : Nat)) : Nat) : Int) = ix o (ga c.2.2 x)
    rw [ga_map (v := fun x => ix o (ga c.2.2 x)) hx, idx_mapix nd (h.cl hx).2]
/-- the plain form misses alike -/
theorem miss_pl (h : EndO n c 0 o) (hc : CellOk n c) : ∀ (ws : List Int) (x : Int) (m : Int), x ∈ o → (missC (plC c 0) ws (ix o x, m)).2 = (missC c ws (x, m)).2
  | [], _, _, _ => rfl
  | w :: ws, x, m, hx => by
    have hp := plC_eq h hc
    have hcl := h.cl hx
    show (missC (plC c 0) ws (nextC (plC c 0) (ix o x) w, m + b2i (!decide (ga (plC c 0).1 (ix o x) = w)))).2 = (missC c ws (nextC c x w, m + b2i (!decide (ga c.1 x = w)))).2
    have e1 : ga (plC c 0).1 (ix o x) = ga c.1 x := by rw [hp]; exact ga_map hx
    have e2 : nextC (plC c 0) (ix o x) w = ix o (nextC c x w) := by
      unfold nextC
      rw [hp]
      split
      · exact ga_map (v := fun x => ix o (ga c.2.1 x)) hx
      · exact ga_map (v := fun x => ix o (ga c.2.2 x)) hx
    rw [e1, e2]
    refine miss_pl h hc ws _ _ ?_
    unfold nextC
    split
    · exact hcl.1
    · exact hcl.2
theorem missN_pl (h : EndO n c 0 o) (hc : CellOk n c) (ws : List Int) : missN (plC c 0) ws = missN c ws := by
  have := miss_pl h hc ws 0 0 h.first
  rw [ix_0 h] at this
  exact this
end
/-! figures reach all -/
theorem dv_succ {num base : Int} : ∀ j : Nat, dv num base (j + 1) = dv (num / base) base j
  | 0 => rfl
  | j + 1 => by
    show dv num base (j + 1) / base = dv (num / base) base j / base
    rw [dv_succ j]
theorem figs_cons {num base : Int} {k : Nat} : figs num base (k + 1) = (num % base) :: figs (num / base) base k := by
  unfold figs
  rw [List.range_succ_eq_map, List.map_cons, List.map_map]
  congr 1
  exact List.map_congr_left fun j _ => by show dv num base (j + 1) % base = _; rw [dv_succ]
theorem figs_all {base : Nat} (hb : 0 < base) : ∀ xs : List Int, (∀ x ∈ xs, 0 ≤ x ∧ x < base) → ∃ N : Nat, N < base ^ xs.length ∧ figs N base xs.length = xs
  | [], _ => ⟨0, by simp, rfl⟩
  | x :: xs, h => by
    obtain ⟨N, hN, e⟩ := figs_all hb xs fun y hy => h y (.tail _ hy)
    have hx := h x (.head _)
    obtain ⟨a, ha⟩ : ∃ a : Nat, x = a := ⟨x.toNat, by omega⟩
    have hab : a < base := by omega
    refine ⟨a + base * N, ?_, ?_⟩
    · rw [List.length_cons, Nat.pow_succ]
      calc a + base * N < base + base * N := by omega
        _ = base * (N + 1) := by rw [Nat.mul_add, Nat.mul_one]; omega
        _ ≤ base * base ^ xs.length := Nat.mul_le_mul_left _ hN
        _ = base ^ xs.length * base := Nat.mul_comm _ _
    · rw [List.length_cons, figs_cons]
      have e1 : ((a + base * N : Nat) : Int) % (base : Int) = x := by
        rw [ha]
        have : (a + base * N) % base = a := by rw [Nat.add_mul_mod_self_left, Nat.mod_eq_of_lt hab]
        exact_mod_cast this
      have e2 : ((a + base * N : Nat) : Int) / (base : Int) = (N : Int) := by
        have : (a + base * N) / base = N := by rw [Nat.add_mul_div_left _ _ hb, Nat.div_eq_of_lt hab, Nat.zero_add]
        exact_mod_cast this
      rw [e1, e2, e]
end PV
set_option maxHeartbeats 4000000
namespace PV
open PySem PySem.Spec PyProof.Rows L2
local macro_rules | `(tactic| walk_at "pv") => `(tactic| try simp only [↓s_seq, ↓s_next, ↓s_ret, ↓s_retN, ↓s_drop, ↓s_set, ↓s_ifS, ↓s_asg, ↓s_gname, ↓s_gnil, ↓s_gcons, ↓s_gtup, tg1_t, ↓s_gsub, ↓s_par, par2_e, ↓s_aug, ↓s_var, ov_some, ↓s_c, ↓s_op, ↓s_un, ↓s_B, ↓s_chain, ↓s_and, ↓s_or, ↓s_not, ↓s_andV, ↓s_orV, ↓s_notV, ↓s_if, ↓s_nil, ↓s_cons, ↓s_tup, ↓s_lst, ↓s_call, ↓s_fn, ↓s_isi, ↓s_mt, ↓s_mt0, ↓s_sl, ↓s_part, ↓s_nopart, ↓s_newK, ↓s_newN, ↓s_yes, wWipe, ↓s_for, ↓s_seqI, ↓s_rng1, ↓s_rng2, ↓s_lc,
  brn_t, brn_f, gt_some, onB_b, itS_tup, itS_cl, itS_ref, rgO_i, rgT_i, prt_i, mtS_r, mtZ_r,
  isQ_int_non, isQ_int_bl, isQ_int_int, isQ_int_str, isQ_int_tup, isQ_int_l, isQ_int_k, isQ_bool_non, isQ_bool_bl, isQ_bool_int, isQ_bool_str, isQ_bool_tup, isQ_bool_l, isQ_bool_k, isQ_str_non, isQ_str_bl, isQ_str_int, isQ_str_str, isQ_str_tup, isQ_str_l, isQ_str_k, isQ_tuple_non, isQ_tuple_bl, isQ_tuple_int, isQ_tuple_str, isQ_tuple_tup, isQ_tuple_l, isQ_tuple_k, isQ_list_non, isQ_list_bl, isQ_list_int, isQ_list_str, isQ_list_tup, isQ_list_l, isQ_list_k, isQ_dict_non, isQ_dict_bl, isQ_dict_int, isQ_dict_str, isQ_dict_tup, isQ_dict_l, isQ_dict_k,
  add_i, add_s, add_t, add_l, addO_l, sub_i, mul_i, mul_t, mul_l, mulO_l, lt_i, le_i, gt_i, ge_i, is_n, isnot_n, is_b, is_bf, isnot_b, isnot_bf, eq_i, eq_s, eq_b, eq_t, eq_l, eqO_l, eqO_ll, ne_i, ne_s, ne_b, ne_t, ne_l, neO_l, neO_ll, ix_t, ix_c, ix_r, ixO_l, ixO_k, ixO_lk, ixO_n, ixO_ln, in_t, in_r, nin_t, nin_r, inO_l, inO_k, inO_lk, inO_n, inO_ln, wkey_i, wkey_s, sl_t, sl_c, sl_r, slO_l, len_t, len_c, len_s, len_r, lenO_l, abs_i, max_i, min_i, int_i, int_b, tup_t, tup_r, tuO_l, lst_t, lst_c, lst_r, lsO_l, set_r, seO_l, seO_k, seO_n, app_r, apO_l, ext_r, exO_l, pop_z, pop_i, poZ_l, poO_l, neg_i,
  ↓s_dispK, dkS_i, dkS_s, dkF_r, iadd_i, iadd_s, r2I_i, wst1, wst2, wst3, wst4, wst5, obOf, isN, rdl_l, put_same, put_put, Option.isSome_some, true_and, and_true, decide_true, decide_false, Option.bind_some, atI_0, atI_1, atI_2, atI_3, atI_4, atI_m1, atI_m2, atI_m3, atI_m4, atI_m5, cut_1, List.map_cons, List.map_nil, List.cons_append, List.nil_append, List.getElem?_cons_zero, List.getElem?_cons_succ, List.length_cons, List.length_nil, List.length_map, List.isEmpty_cons, List.isEmpty_nil, List.set_cons_zero, List.set_cons_succ, List.replicate, Nat.reduceAdd, Nat.reduceSub, Nat.reduceLeDiff, Int.reduceNeg, le_line, lt_line, Bool.not_true, Bool.not_false])
local macro_rules | `(tactic| walk_at "pvh") => `(tactic| try simp only [↓s_seq, ↓s_next, ↓s_ret, ↓s_retN, ↓s_drop, ↓s_set, ↓s_ifS, ↓s_asg, ↓s_gname, ↓s_gnil, ↓s_gcons, ↓s_gtup, tg1_t, ↓s_gsub, ↓s_par, par2_e, ↓s_aug, ↓s_var, ov_some, ↓s_c, ↓s_op, ↓s_un, ↓s_B, ↓s_chain, ↓s_and, ↓s_or, ↓s_not, ↓s_andV, ↓s_orV, ↓s_notV, ↓s_if, ↓s_nil, ↓s_cons, ↓s_tup, ↓s_lst, ↓s_call, ↓s_fn, ↓s_isi, ↓s_mt, ↓s_mt0, ↓s_sl, ↓s_part, ↓s_nopart, ↓s_newK, ↓s_newN, ↓s_yes, wWipe, ↓s_for, ↓s_seqI, ↓s_rng1, ↓s_rng2, ↓s_lc,
  brn_t, brn_f, gt_some, onB_b, itS_tup, itS_cl, itS_ref, rgO_i, rgT_i, prt_i, mtS_r, mtZ_r,
  isQ_int_non, isQ_int_bl, isQ_int_int, isQ_int_str, isQ_int_tup, isQ_int_l, isQ_int_k, isQ_bool_non, isQ_bool_bl, isQ_bool_int, isQ_bool_str, isQ_bool_tup, isQ_bool_l, isQ_bool_k, isQ_str_non, isQ_str_bl, isQ_str_int, isQ_str_str, isQ_str_tup, isQ_str_l, isQ_str_k, isQ_tuple_non, isQ_tuple_bl, isQ_tuple_int, isQ_tuple_str, isQ_tuple_tup, isQ_tuple_l, isQ_tuple_k, isQ_list_non, isQ_list_bl, isQ_list_int, isQ_list_str, isQ_list_tup, isQ_list_l, isQ_list_k, isQ_dict_non, isQ_dict_bl, isQ_dict_int, isQ_dict_str, isQ_dict_tup, isQ_dict_l, isQ_dict_k,
  add_i, add_s, add_t, add_l, addO_l, sub_i, mul_i, mul_t, mul_l, mulO_l, lt_i, le_i, gt_i, ge_i, is_n, isnot_n, is_b, is_bf, isnot_b, isnot_bf, eq_i, eq_s, eq_b, eq_t, eq_l, eqO_l, eqO_ll, ne_i, ne_s, ne_b, ne_t, ne_l, neO_l, neO_ll, ix_t, ix_c, ix_r, ixO_l, ixO_k, ixO_lk, ixO_n, ixO_ln, in_t, in_r, nin_t, nin_r, inO_l, inO_k, inO_lk, inO_n, inO_ln, wkey_i, wkey_s, sl_t, sl_c, sl_r, slO_l, len_t, len_c, len_s, len_r, lenO_l, abs_i, max_i, min_i, int_i, int_b, tup_t, tup_r, tuO_l, lst_t, lst_c, lst_r, lsO_l, set_r, seO_l, seO_k, seO_n, app_r, apO_l, ext_r, exO_l, pop_z, pop_i, poZ_l, poO_l, neg_i,
  ↓s_dispK, dkS_i, dkS_s, dkF_r, iadd_i, iadd_s, r2I_i, wst1, wst2, wst3, wst4, wst5, obOf, isN, rdl_l, put_same, put_put, Option.isSome_some, true_and, and_true, decide_true, decide_false, Option.bind_some, atI_0, atI_1, atI_2, atI_3, atI_4, atI_m1, atI_m2, atI_m3, atI_m4, atI_m5, cut_1, List.map_cons, List.map_nil, List.cons_append, List.nil_append, List.getElem?_cons_zero, List.getElem?_cons_succ, List.length_cons, List.length_nil, List.length_map, List.isEmpty_cons, List.isEmpty_nil, List.set_cons_zero, List.set_cons_succ, List.replicate, Nat.reduceAdd, Nat.reduceSub, Nat.reduceLeDiff, Int.reduceNeg, le_line, lt_line, Bool.not_true, Bool.not_false, put_ne1, put_ne2, *])
/-! mutable things handed in -/
def del (M : Me) (a : Addr) : Me := fun b => if b = a then none else M b
theorem del_sub {M : Me} {a : Addr} : Sub (del M a) M := fun b o e => by
  unfold del at e
  split at e
  · cases e
  · exact e
theorem Kp.own {M : Me} {a : Addr} {o : Ob} (h : M a = some o) : Kp Option.none [(a, o)] (del M a) M := ⟨del_sub, by simp, fun x hx => by
  rw [List.mem_singleton.mp hx]
  exact ⟨Option.some_ne_none _, by unfold del; simp, h⟩⟩
theorem Kp.back {M M' : Me} {a : Addr} {o : Ob} {fs : List (Addr × Ob)} (k : Kp Option.none ((a, o) :: fs) (del M a) M') : Sub (put M a o) M' := fun b u e => by
  by_cases h : b = a
  · subst h
    rw [put_same] at e; cases e
    exact k.g0
  · rw [put_ne h] at e
    exact k.1 b u (by unfold del; rw [if_neg h]; exact e)
def sp_cell_misses : PSp := fun ws M Q _ => match ws with
  | [cw, .ref a] => ∃ (n : Nat) (c : Cell) (ways : List Int), cw = cW c ∧ CellOk n c ∧ M a = some (.lst (ways.map W.int)) ∧ (∀ w ∈ ways, w = 0 ∨ w = 1) ∧ Q (.int (missN c ways)) M
  | _ => False
theorem missN_all {c : Cell} {ways : List Int} : (missC c (ways.take ways.length) (0, 0)).2 = missN c ways := by rw [List.take_length]; rfl
theorem rd_cell_misses (ws M Q E) (h : sp_cell_misses ws M Q E) : t_p_cell_misses (wEnd Q) (wStart ["cell", "ways", "guesses", "straight", "aside", "state", "misses", "way"] ws) M := by
  unfold sp_cell_misses at h
  split at h
  · rename_i cw a
    obtain ⟨n, c, ways, rfl, hc, e, hw, q⟩ := h
    rw [wst2]
    unfold t_p_cell_misses cW
    walk_at "pv"
    rw [e]
    walk_at "pv"
    refine for_l (a := a) (ws := ways.map W.int) (fun i ρ M' => M' = M ∧ ∃ w, ρ = [some (cW c), some (.ref a), some (iT c.1), some (iT c.2.1), some (iT c.2.2), some (.int (missC c (ways.take i) (0, 0)).1), some (.int (missC c (ways.take i) (0, 0)).2), w]) ⟨rfl, _, rfl⟩ (fun i ρ M' h => by rw [h.1]; exact e) ?_ ?_
    · rintro i w ρ M' hi ⟨rfl, w0, rfl⟩
      rw [List.getElem?_map] at hi
      obtain ⟨w, hi2, rfl⟩ := Option.map_eq_some_iff.mp hi
      clear hi
      have ok := missC_ok hc (ways.take i) (0, 0) ⟨Int.le_refl 0, by have := hc.pos; show (0 : Int) < n; omega⟩
      have nx := missC_take (c := c) (p := (0, 0)) hi2
      generalize missC c (ways.take i) (0, 0) = p at ok nx
      have hw := hw w (List.mem_of_getElem? hi2)
      walk_at "pv"
      refine gt_of (hc.ag ok.1 ok.2) ?_
      walk_at "pv"
      have fin : ∀ m, m = p.2 + b2i (!decide (ga c.1 p.1 = w)) → wSet 5 (wIf (wB (wOp rEq2 (wVar 7) (wC (.int 0)))) (wOp rIx2 (wVar 3) (wVar 5)) (wOp rIx2 (wVar 4) (wVar 5))) (nxt { nx := wRet (wVar 6) (wEnd Q), rt := (wEnd Q).rt, bk := (wEnd Q).bk, ct := (wEnd Q).ct } fun ρ M'_1 => M'_1 = M' ∧ ∃ w, ρ = [some (cW c), some (.ref a), some (iT c.1), some (iT c.2.1), some (iT c.2.2), some (.int (missC c (ways.take (i + 1)) (0, 0)).1), some (.int (missC c (ways.take (i + 1)) (0, 0)).2), w])
          [some (cW c), some (.ref a), some (iT c.1), some (iT c.2.1), some (iT c.2.2), some (.int p.1), some (.int m), some (.int w)] M' := by
        intro m hm
        walk_at "pv"
        rw [nx, ← hm]
        refine brn_dec (fun h => ?_) (fun h => ?_)
        · walk_at "pv"
          refine gt_of (hc.as ok.1 ok.2) ?_
          exact ⟨_, Sub.refl _, rfl, _, by unfold nextC; rw [if_pos h]⟩
        · walk_at "pv"
          refine gt_of (hc.aa ok.1 ok.2) ?_
          exact ⟨_, Sub.refl _, rfl, _, by unfold nextC; rw [if_neg h]⟩
      by_cases hg : ga c.1 p.1 = w
      · simp only [hg, decide_true, Bool.not_true]
        walk_at "pv"
        exact fin _ (by simp [hg, b2i])
      · simp only [hg, decide_false, Bool.not_false]
        walk_at "pv"
        exact fin _ (by simp [hg, b2i])
    · rintro ρ M' ⟨rfl, w0, rfl⟩
      walk_at "pv"
      rw [missN_all]
      exact ⟨_, Sub.refl _, q⟩
  · exact h.elim
end PV
set_option maxHeartbeats 4000000
namespace PV
open PySem PySem.Spec PyProof.Rows L2
local macro_rules | `(tactic| walk_at "pv") => `(tactic| try simp only [↓s_seq, ↓s_next, ↓s_ret, ↓s_retN, ↓s_drop, ↓s_set, ↓s_ifS, ↓s_asg, ↓s_gname, ↓s_gnil, ↓s_gcons, ↓s_gtup, tg1_t, ↓s_gsub, ↓s_par, par2_e, ↓s_aug, ↓s_var, ov_some, ↓s_c, ↓s_op, ↓s_un, ↓s_B, ↓s_chain, ↓s_and, ↓s_or, ↓s_not, ↓s_andV, ↓s_orV, ↓s_notV, ↓s_if, ↓s_nil, ↓s_cons, ↓s_tup, ↓s_lst, ↓s_call, ↓s_fn, ↓s_isi, ↓s_mt, ↓s_mt0, ↓s_sl, ↓s_part, ↓s_nopart, ↓s_newK, ↓s_newN, ↓s_yes, wWipe, ↓s_for, ↓s_seqI, ↓s_rng1, ↓s_rng2, ↓s_lc,
  brn_t, brn_f, gt_some, onB_b, itS_tup, itS_cl, itS_ref, rgO_i, rgT_i, prt_i, mtS_r, mtZ_r,
  isQ_int_non, isQ_int_bl, isQ_int_int, isQ_int_str, isQ_int_tup, isQ_int_l, isQ_int_k, isQ_bool_non, isQ_bool_bl, isQ_bool_int, isQ_bool_str, isQ_bool_tup, isQ_bool_l, isQ_bool_k, isQ_str_non, isQ_str_bl, isQ_str_int, isQ_str_str, isQ_str_tup, isQ_str_l, isQ_str_k, isQ_tuple_non, isQ_tuple_bl, isQ_tuple_int, isQ_tuple_str, isQ_tuple_tup, isQ_tuple_l, isQ_tuple_k, isQ_list_non, isQ_list_bl, isQ_list_int, isQ_list_str, isQ_list_tup, isQ_list_l, isQ_list_k, isQ_dict_non, isQ_dict_bl, isQ_dict_int, isQ_dict_str, isQ_dict_tup, isQ_dict_l, isQ_dict_k,
  add_i, add_s, add_t, add_l, addO_l, sub_i, mul_i, mul_t, mul_l, mulO_l, lt_i, le_i, gt_i, ge_i, is_n, isnot_n, is_b, is_bf, isnot_b, isnot_bf, eq_i, eq_s, eq_b, eq_t, eq_l, eqO_l, eqO_ll, ne_i, ne_s, ne_b, ne_t, ne_l, neO_l, neO_ll, ix_t, ix_c, ix_r, ixO_l, ixO_k, ixO_lk, ixO_n, ixO_ln, in_t, in_r, nin_t, nin_r, inO_l, inO_k, inO_lk, inO_n, inO_ln, wkey_i, wkey_s, sl_t, sl_c, sl_r, slO_l, len_t, len_c, len_s, len_r, lenO_l, abs_i, max_i, min_i, int_i, int_b, tup_t, tup_r, tuO_l, lst_t, lst_c, lst_r, lsO_l, set_r, seO_l, seO_k, seO_n, app_r, apO_l, ext_r, exO_l, pop_z, pop_i, poZ_l, poO_l, neg_i,
  ↓s_dispK, dkS_i, dkS_s, dkF_r, iadd_i, iadd_s, r2I_i, wst1, wst2, wst3, wst4, wst5, obOf, isN, rdl_l, put_same, put_put, Option.isSome_some, true_and, and_true, decide_true, decide_false, Option.bind_some, atI_0, atI_1, atI_2, atI_3, atI_4, atI_m1, atI_m2, atI_m3, atI_m4, atI_m5, cut_1, List.map_cons, List.map_nil, List.cons_append, List.nil_append, List.getElem?_cons_zero, List.getElem?_cons_succ, List.length_cons, List.length_nil, List.length_map, List.isEmpty_cons, List.isEmpty_nil, List.set_cons_zero, List.set_cons_succ, List.replicate, Nat.reduceAdd, Nat.reduceSub, Nat.reduceLeDiff, Int.reduceNeg, le_line, lt_line, Bool.not_true, Bool.not_false])
local macro_rules | `(tactic| walk_at "pvh") => `(tactic| try simp only [↓s_seq, ↓s_next, ↓s_ret, ↓s_retN, ↓s_drop, ↓s_set, ↓s_ifS, ↓s_asg, ↓s_gname, ↓s_gnil, ↓s_gcons, ↓s_gtup, tg1_t, ↓s_gsub, ↓s_par, par2_e, ↓s_aug, ↓s_var, ov_some, ↓s_c, ↓s_op, ↓s_un, ↓s_B, ↓s_chain, ↓s_and, ↓s_or, ↓s_not, ↓s_andV, ↓s_orV, ↓s_notV, ↓s_if, ↓s_nil, ↓s_cons, ↓s_tup, ↓s_lst, ↓s_call, ↓s_fn, ↓s_isi, ↓s_mt, ↓s_mt0, ↓s_sl, ↓s_part, ↓s_nopart, ↓s_newK, ↓s_newN, ↓s_yes, wWipe, ↓s_for, ↓s_seqI, ↓s_rng1, ↓s_rng2, ↓s_lc,
  brn_t, brn_f, gt_some, onB_b, itS_tup, itS_cl, itS_ref, rgO_i, rgT_i, prt_i, mtS_r, mtZ_r,
  isQ_int_non, isQ_int_bl, isQ_int_int, isQ_int_str, isQ_int_tup, isQ_int_l, isQ_int_k, isQ_bool_non, isQ_bool_bl, isQ_bool_int, isQ_bool_str, isQ_bool_tup, isQ_bool_l, isQ_bool_k, isQ_str_non, isQ_str_bl, isQ_str_int, isQ_str_str, isQ_str_tup, isQ_str_l, isQ_str_k, isQ_tuple_non, isQ_tuple_bl, isQ_tuple_int, isQ_tuple_str, isQ_tuple_tup, isQ_tuple_l, isQ_tuple_k, isQ_list_non, isQ_list_bl, isQ_list_int, isQ_list_str, isQ_list_tup, isQ_list_l, isQ_list_k, isQ_dict_non, isQ_dict_bl, isQ_dict_int, isQ_dict_str, isQ_dict_tup, isQ_dict_l, isQ_dict_k,
  add_i, add_s, add_t, add_l, addO_l, sub_i, mul_i, mul_t, mul_l, mulO_l, lt_i, le_i, gt_i, ge_i, is_n, isnot_n, is_b, is_bf, isnot_b, isnot_bf, eq_i, eq_s, eq_b, eq_t, eq_l, eqO_l, eqO_ll, ne_i, ne_s, ne_b, ne_t, ne_l, neO_l, neO_ll, ix_t, ix_c, ix_r, ixO_l, ixO_k, ixO_lk, ixO_n, ixO_ln, in_t, in_r, nin_t, nin_r, inO_l, inO_k, inO_lk, inO_n, inO_ln, wkey_i, wkey_s, sl_t, sl_c, sl_r, slO_l, len_t, len_c, len_s, len_r, lenO_l, abs_i, max_i, min_i, int_i, int_b, tup_t, tup_r, tuO_l, lst_t, lst_c, lst_r, lsO_l, set_r, seO_l, seO_k, seO_n, app_r, apO_l, ext_r, exO_l, pop_z, pop_i, poZ_l, poO_l, neg_i,
  ↓s_dispK, dkS_i, dkS_s, dkF_r, iadd_i, iadd_s, r2I_i, wst1, wst2, wst3, wst4, wst5, obOf, isN, rdl_l, put_same, put_put, Option.isSome_some, true_and, and_true, decide_true, decide_false, Option.bind_some, atI_0, atI_1, atI_2, atI_3, atI_4, atI_m1, atI_m2, atI_m3, atI_m4, atI_m5, cut_1, List.map_cons, List.map_nil, List.cons_append, List.nil_append, List.getElem?_cons_zero, List.getElem?_cons_succ, List.length_cons, List.length_nil, List.length_map, List.isEmpty_cons, List.isEmpty_nil, List.set_cons_zero, List.set_cons_succ, List.replicate, Nat.reduceAdd, Nat.reduceSub, Nat.reduceLeDiff, Int.reduceNeg, le_line, lt_line, Bool.not_true, Bool.not_false, put_ne1, put_ne2, *])
theorem rd_misses (ws M Q E) (h : sp_cell_misses ws M Q E) : t_l_misses (wEnd Q) (wStart ["cell", "ways", "state", "misses", "way"] ws) M := by
  unfold sp_cell_misses at h
  split at h
  · rename_i cw a
    obtain ⟨n, c, ways, rfl, hc, e, hw, q⟩ := h
    rw [wst2]
    unfold t_l_misses
    walk_at "pv"
    rw [e]
    walk_at "pv"
    refine for_l (a := a) (ws := ways.map W.int) (fun i ρ M' => M' = M ∧ ∃ w, ρ = [some (cW c), some (.ref a), some (.int (missC c (ways.take i) (0, 0)).1), some (.int (missC c (ways.take i) (0, 0)).2), w]) ⟨rfl, _, rfl⟩ (fun i ρ M' h => by rw [h.1]; exact e) ?_ ?_
    · rintro i w ρ M' hi ⟨rfl, w0, rfl⟩
      rw [List.getElem?_map] at hi
      obtain ⟨w, hi2, rfl⟩ := Option.map_eq_some_iff.mp hi
      clear hi
      have ok := missC_ok hc (ways.take i) (0, 0) ⟨Int.le_refl 0, by have := hc.pos; show (0 : Int) < n; omega⟩
      have nx := missC_take (c := c) (p := (0, 0)) hi2
      generalize missC c (ways.take i) (0, 0) = p at ok nx
      have hw := hw w (List.mem_of_getElem? hi2)
      unfold cW
      walk_at "pv"
      refine gt_of (hc.ag ok.1 ok.2) ?_
      walk_at "pv"
      rw [nx]
      rcases hw with rfl | rfl
      · rw [show (1 : Int) + 0 = 1 from rfl]
        walk_at "pv"
        refine gt_of (hc.as ok.1 ok.2) ?_
        exact ⟨_, Sub.refl _, rfl, _, rfl⟩
      · rw [show (1 : Int) + 1 = 2 from rfl]
        walk_at "pv"
        refine gt_of (hc.aa ok.1 ok.2) ?_
        exact ⟨_, Sub.refl _, rfl, _, rfl⟩
    · rintro ρ M' ⟨rfl, w0, rfl⟩
      walk_at "pv"
      rw [missN_all]
      exact ⟨_, Sub.refl _, q⟩
  · exact h.elim
def sp_figures : PSp := fun ws M Q _ => match ws with
  | [.int num, .int base, .int many] => 0 < base ∧ base < 2 ^ 64 ∧ 0 ≤ many ∧ many ≤ 1000 ∧ Q (iT (figs num base many.toNat)) M
  | _ => False
theorem rd_figures (ws M Q E) (h : sp_figures ws M Q E) : t_p_figures (wEnd Q) (wStart ["number", "base", "many", "found", "k"] ws) M := by
  unfold sp_figures at h
  split at h
  · rename_i num base many
    obtain ⟨hb, hb2, hm, hm2, q⟩ := h
    rw [wst3]
    unfold t_p_figures
    walk_at "pv"
    refine Kp.start0.fresh_go fun p M1 k _ => ?_
    walk_at "pv"
    refine ⟨rgB_of (by omega) (by omega), for_r (fun i ρ M' => i ≤ many.toNat ∧ Kp none [(p, .lst ((figs num base i).map W.int))] M M' ∧ ∃ x, ρ = [some (.int (dv num base i)), some (.int base), some (.int many), some (.ref p), x]) ⟨Nat.zero_le _, k, _, rfl⟩ ?_ ?_⟩
    · clear k
      rintro i ρ M2 hi ⟨hi2, k, x, rfl⟩
      walk_at "pv"
      refine ⟨by rw [k.g0]; rfl, ?_⟩
      walk_at "pv"
      refine mod_go hb ?_
      walk_at "pv"
      rw [k.g0]
      walk_at "pv"
      refine ⟨small_line (by rw [figs_len]; omega), ?_⟩
      refine div_go hb hb2 ?_
      walk_at "pv"
      exact ⟨_, Sub.refl _, by omega, by rw [figs_succ, List.map_append]; exact k.set, _, rfl⟩
    · rintro ρ M2 ⟨hi2, k, x, rfl⟩
      walk_at "pv"
      rw [k.g0]
      walk_at "pv"
      rw [show (many - 0).toNat = many.toNat by omega]
      exact ⟨_, k.sub, q⟩
  · exact h.elim
def sp_power : PSp := fun ws M Q _ => match ws with
  | [.int base, .int many] => 0 < base ∧ base < 1000 ∧ 0 ≤ many ∧ many ≤ 1000 ∧ Q (.int (base ^ many.toNat)) M
  | _ => False
theorem rd_power (ws M Q E) (h : sp_power ws M Q E) : t_p_power (wEnd Q) (wStart ["base", "many", "found", "k"] ws) M := by
  unfold sp_power at h
  split at h
  · rename_i base many
    obtain ⟨hb, hb2, hm, hm2, q⟩ := h
    rw [wst2]
    unfold t_p_power
    walk_at "pv"
    refine ⟨rgB_of (by omega) (by omega), for_r (fun i ρ M' => M' = M ∧ ∃ x, ρ = [some (.int base), some (.int many), some (.int (base ^ i)), x]) ⟨rfl, none, by rw [Int.pow_zero]⟩ ?_ ?_⟩
    · rintro i ρ M2 hi ⟨rfl, x, rfl⟩
      walk_at "pv"
      exact ⟨.inr ⟨by omega, by omega⟩, _, Sub.refl _, rfl, _, by rw [Int.pow_succ]⟩
    · rintro ρ M2 ⟨rfl, x, rfl⟩
      walk_at "pv"
      rw [show (many - 0).toNat = many.toNat by omega]
      exact ⟨_, Sub.refl _, q⟩
  · exact h.elim
/-! the deck -/
def sp_cell_at : PSp := fun ws M Q _ => match ws with
  | [.cl xs, .int k] => ∃ ns : List Int, xs = ns.map W.int ∧ 0 ≤ k ∧ Q (.int (ns.getD k.toNat 0)) M
  | _ => False
theorem rd_cell_at (ws M Q E) (h : sp_cell_at ws M Q E) : t_l_cell_at (wEnd Q) (wStart ["script", "k"] ws) M := by
  unfold sp_cell_at at h
  split at h
  · rename_i xs k
    obtain ⟨ns, rfl, hk, q⟩ := h
    rw [wst2]
    unfold t_l_cell_at
    walk_at "pv"
    refine brn_dec (fun h => ?_) (fun h => ?_)
    · walk_at "pv"
      refine gt_of (at_ga hk h) ?_
      exact ⟨_, Sub.refl _, q⟩
    · walk_at "pv"
      rw [List.getD_eq_getElem?_getD, List.getElem?_eq_none (by omega)] at q
      exact ⟨_, Sub.refl _, q⟩
  · exact h.elim
abbrev dkO (a b c : Int) : Ob := .lst [.int a, .int b, .int c]
def sp_dtake : PSp := fun ws M Q _ => match ws with
  | [.ref d, .int m] => ∃ a b c : Int, M d = some (dkO a b c) ∧ 0 ≤ c ∧ c < 1000000 ∧ 0 < m ∧ m < 2 ^ 64 ∧ ∀ r a' c', 0 ≤ r → r < m → 0 ≤ c' → c' ≤ c + 1 → Q (.int r) (put M d (dkO a' b c'))
  | _ => False
theorem rd_dtake (ws M Q E) (h : sp_dtake ws M Q E) : t_l_take (wEnd Q) (wStart ["deck", "many", "come", "number"] ws) M := by
  unfold sp_dtake at h
  split at h
  · rename_i d m
    obtain ⟨a, b, c, e, c0, c1, hm, hm2, q⟩ := h
    rw [wst2]
    unfold t_l_take
    have k := Kp.own e
    walk_at "pv"
    rw [k.g0]
    walk_at "pv"
    refine brn_dec (fun h => ?_) (fun h => ?_)
    · walk_at "pv"
      rw [k.g0]
      walk_at "pv"
      refine mod_go hm ?_
      walk_at "pv"
      rw [k.g0]
      walk_at "pv"
      refine div_go hm hm2 ?_
      walk_at "pv"
      rw [k.g0]
      walk_at "pv"
      refine gt_of (w := 0) rfl ?_
      walk_at "pv"
      exact ⟨_, Sub.refl _, q _ _ _ (Int.emod_nonneg _ (by omega)) (Int.emod_lt_of_pos _ hm) c0 (by omega)⟩
    · walk_at "pv"
      rw [k.g0]
      walk_at "pv"
      rw [k.g0]
      walk_at "pv"
      refine gt_of (w := 2) rfl ?_
      walk_at "pv"
      refine mod_any (by decide) fun r1 h1 l1 => ?_
      walk_at "pv"
      refine ⟨.left (by omega) (by omega), ?_⟩
      refine ⟨.left (by omega) (by omega), ?_⟩
      walk_at "pv"
      refine mod_any (by decide) fun r2 h2 l2 => ?_
      walk_at "pv"
      refine ⟨.left (by omega) (by omega), mod_any (by decide) fun r3 h3 l3 => ?_⟩
      walk_at "pv"
      refine ⟨.right (by decide) (by decide), mod_any (by decide) fun r4 h4 l4 => ?_⟩
      walk_at "pv"
      refine div_any ⟨by decide, by decide⟩ fun r5 => ?_
      walk_at "pv"
      exact mod_go hm ⟨_, Sub.refl _, q _ _ _ (Int.emod_nonneg _ (by omega)) (Int.emod_lt_of_pos _ hm) (by omega) (by omega)⟩
  · exact h.elim
theorem Kp.deck_go {x : Option Addr} {fs : List (Addr × Ob)} {M0 M : Me} {d : Addr} {a b c m : Int} {Q : WK} {tg : Tg Q} (k : Kp x ((d, dkO a b c) :: fs) M0 M) (c0 : 0 ≤ c) (c1 : c < 1000000) (hm : 0 < m) (hm2 : m < 2 ^ 64)
    (f : ∀ r a' c' M', 0 ≤ r → r < m → 0 ≤ c' → c' ≤ c + 1 → Kp x ((d, dkO a' b c') :: fs) M0 M' → Q (.int r) M') : lz (spc sp_dtake [.ref d, .int m] M) Q tg :=
  ⟨a, b, c, k.g0, c0, c1, hm, hm2, fun r a' c' h0 h1 h2 h3 => f r a' c' _ h0 h1 h2 h3 k.set⟩
def sp_deck : PSp := fun ws M Q _ => match ws with
  | [.int _, .int k] => ∀ p (a b : Int) M', M p = none → Sub M M' → M' p = some (dkO a b k) → Q (.ref p) M'
  | _ => False
theorem rd_deck (ws M Q E) (h : sp_deck ws M Q E) : t_l_deck (wEnd Q) (wStart ["cell", "k"] ws) M := by
  unfold sp_deck at h
  split at h
  · rename_i x k
    rw [wst2]
    unfold t_l_deck
    walk_at "pv"
    refine pow_any ⟨by decide, by decide, by decide⟩ fun big => ?_
    walk_at "pv"
    refine brn_dec (fun _ => ?_) (fun _ => ?_)
    · walk_at "pv"
      refine pow_any ⟨by decide, by decide, by decide⟩ fun big => ?_
      walk_at "pv"
      exact fun p hp => ⟨_, Sub.refl _, h p _ _ _ hp (Sub.new hp) put_same⟩
    · walk_at "pv"
      exact fun p hp => ⟨_, Sub.refl _, h p _ _ _ hp (Sub.new hp) put_same⟩
  · exact h.elim
end PV
set_option maxHeartbeats 4000000
namespace PV
open PySem PySem.Spec PyProof.Rows L2
local macro_rules | `(tactic| walk_at "pv") => `(tactic| try simp only [↓s_seq, ↓s_next, ↓s_ret, ↓s_retN, ↓s_drop, ↓s_set, ↓s_ifS, ↓s_asg, ↓s_gname, ↓s_gnil, ↓s_gcons, ↓s_gtup, tg1_t, ↓s_gsub, ↓s_par, par2_e, ↓s_aug, ↓s_var, ov_some, ↓s_c, ↓s_op, ↓s_un, ↓s_B, ↓s_chain, ↓s_and, ↓s_or, ↓s_not, ↓s_andV, ↓s_orV, ↓s_notV, ↓s_if, ↓s_nil, ↓s_cons, ↓s_tup, ↓s_lst, ↓s_call, ↓s_fn, ↓s_isi, ↓s_mt, ↓s_mt0, ↓s_sl, ↓s_part, ↓s_nopart, ↓s_newK, ↓s_newN, ↓s_yes, wWipe, ↓s_for, ↓s_seqI, ↓s_rng1, ↓s_rng2, ↓s_lc,
  brn_t, brn_f, gt_some, onB_b, itS_tup, itS_cl, itS_ref, rgO_i, rgT_i, prt_i, mtS_r, mtZ_r,
  isQ_int_non, isQ_int_bl, isQ_int_int, isQ_int_str, isQ_int_tup, isQ_int_l, isQ_int_k, isQ_bool_non, isQ_bool_bl, isQ_bool_int, isQ_bool_str, isQ_bool_tup, isQ_bool_l, isQ_bool_k, isQ_str_non, isQ_str_bl, isQ_str_int, isQ_str_str, isQ_str_tup, isQ_str_l, isQ_str_k, isQ_tuple_non, isQ_tuple_bl, isQ_tuple_int, isQ_tuple_str, isQ_tuple_tup, isQ_tuple_l, isQ_tuple_k, isQ_list_non, isQ_list_bl, isQ_list_int, isQ_list_str, isQ_list_tup, isQ_list_l, isQ_list_k, isQ_dict_non, isQ_dict_bl, isQ_dict_int, isQ_dict_str, isQ_dict_tup, isQ_dict_l, isQ_dict_k,
  add_i, add_s, add_t, add_l, addO_l, sub_i, mul_i, mul_t, mul_l, mulO_l, lt_i, le_i, gt_i, ge_i, is_n, isnot_n, is_b, is_bf, isnot_b, isnot_bf, eq_i, eq_s, eq_b, eq_t, eq_l, eqO_l, eqO_ll, ne_i, ne_s, ne_b, ne_t, ne_l, neO_l, neO_ll, ix_t, ix_c, ix_r, ixO_l, ixO_k, ixO_lk, ixO_n, ixO_ln, in_t, in_r, nin_t, nin_r, inO_l, inO_k, inO_lk, inO_n, inO_ln, wkey_i, wkey_s, sl_t, sl_c, sl_r, slO_l, len_t, len_c, len_s, len_r, lenO_l, abs_i, max_i, min_i, int_i, int_b, tup_t, tup_r, tuO_l, lst_t, lst_c, lst_r, lsO_l, set_r, seO_l, seO_k, seO_n, app_r, apO_l, ext_r, exO_l, pop_z, pop_i, poZ_l, poO_l, neg_i,
  ↓s_dispK, dkS_i, dkS_s, dkF_r, iadd_i, iadd_s, r2I_i, wst1, wst2, wst3, wst4, wst5, obOf, isN, rdl_l, put_same, put_put, Option.isSome_some, true_and, and_true, decide_true, decide_false, Option.bind_some, atI_0, atI_1, atI_2, atI_3, atI_4, atI_m1, atI_m2, atI_m3, atI_m4, atI_m5, cut_1, List.map_cons, List.map_nil, List.cons_append, List.nil_append, List.getElem?_cons_zero, List.getElem?_cons_succ, List.length_cons, List.length_nil, List.length_map, List.isEmpty_cons, List.isEmpty_nil, List.set_cons_zero, List.set_cons_succ, List.replicate, Nat.reduceAdd, Nat.reduceSub, Nat.reduceLeDiff, Int.reduceNeg, le_line, lt_line, Bool.not_true, Bool.not_false])
local macro_rules | `(tactic| walk_at "pvh") => `(tactic| try simp only [↓s_seq, ↓s_next, ↓s_ret, ↓s_retN, ↓s_drop, ↓s_set, ↓s_ifS, ↓s_asg, ↓s_gname, ↓s_gnil, ↓s_gcons, ↓s_gtup, tg1_t, ↓s_gsub, ↓s_par, par2_e, ↓s_aug, ↓s_var, ov_some, ↓s_c, ↓s_op, ↓s_un, ↓s_B, ↓s_chain, ↓s_and, ↓s_or, ↓s_not, ↓s_andV, ↓s_orV, ↓s_notV, ↓s_if, ↓s_nil, ↓s_cons, ↓s_tup, ↓s_lst, ↓s_call, ↓s_fn, ↓s_isi, ↓s_mt, ↓s_mt0, ↓s_sl, ↓s_part, ↓s_nopart, ↓s_newK, ↓s_newN, ↓s_yes, wWipe, ↓s_for, ↓s_seqI, ↓s_rng1, ↓s_rng2, ↓s_lc,
  brn_t, brn_f, gt_some, onB_b, itS_tup, itS_cl, itS_ref, rgO_i, rgT_i, prt_i, mtS_r, mtZ_r,
  isQ_int_non, isQ_int_bl, isQ_int_int, isQ_int_str, isQ_int_tup, isQ_int_l, isQ_int_k, isQ_bool_non, isQ_bool_bl, isQ_bool_int, isQ_bool_str, isQ_bool_tup, isQ_bool_l, isQ_bool_k, isQ_str_non, isQ_str_bl, isQ_str_int, isQ_str_str, isQ_str_tup, isQ_str_l, isQ_str_k, isQ_tuple_non, isQ_tuple_bl, isQ_tuple_int, isQ_tuple_str, isQ_tuple_tup, isQ_tuple_l, isQ_tuple_k, isQ_list_non, isQ_list_bl, isQ_list_int, isQ_list_str, isQ_list_tup, isQ_list_l, isQ_list_k, isQ_dict_non, isQ_dict_bl, isQ_dict_int, isQ_dict_str, isQ_dict_tup, isQ_dict_l, isQ_dict_k,
  add_i, add_s, add_t, add_l, addO_l, sub_i, mul_i, mul_t, mul_l, mulO_l, lt_i, le_i, gt_i, ge_i, is_n, isnot_n, is_b, is_bf, isnot_b, isnot_bf, eq_i, eq_s, eq_b, eq_t, eq_l, eqO_l, eqO_ll, ne_i, ne_s, ne_b, ne_t, ne_l, neO_l, neO_ll, ix_t, ix_c, ix_r, ixO_l, ixO_k, ixO_lk, ixO_n, ixO_ln, in_t, in_r, nin_t, nin_r, inO_l, inO_k, inO_lk, inO_n, inO_ln, wkey_i, wkey_s, sl_t, sl_c, sl_r, slO_l, len_t, len_c, len_s, len_r, lenO_l, abs_i, max_i, min_i, int_i, int_b, tup_t, tup_r, tuO_l, lst_t, lst_c, lst_r, lsO_l, set_r, seO_l, seO_k, seO_n, app_r, apO_l, ext_r, exO_l, pop_z, pop_i, poZ_l, poO_l, neg_i,
  ↓s_dispK, dkS_i, dkS_s, dkF_r, iadd_i, iadd_s, r2I_i, wst1, wst2, wst3, wst4, wst5, obOf, isN, rdl_l, put_same, put_put, Option.isSome_some, true_and, and_true, decide_true, decide_false, Option.bind_some, atI_0, atI_1, atI_2, atI_3, atI_4, atI_m1, atI_m2, atI_m3, atI_m4, atI_m5, cut_1, List.map_cons, List.map_nil, List.cons_append, List.nil_append, List.getElem?_cons_zero, List.getElem?_cons_succ, List.length_cons, List.length_nil, List.length_map, List.isEmpty_cons, List.isEmpty_nil, List.set_cons_zero, List.set_cons_succ, List.replicate, Nat.reduceAdd, Nat.reduceSub, Nat.reduceLeDiff, Int.reduceNeg, le_line, lt_line, Bool.not_true, Bool.not_false, put_ne1, put_ne2, *])
theorem while_b {c : WT} {tb : WS} {D : Eds} {ρ : En} {M : Me} (I : Nat → En → Me → Prop) (m : Nat) (h0 : I m ρ M) (hs : ∀ m ρ M, I m ρ M → c ρ M fun x M1 => lz (brn x) (tb (nxt D (fun ρ' M' => ∃ m', m' < m ∧ I m' ρ' M')) ρ M1, D.nx ρ M1) .mk) : wWhile c tb D ρ M :=
  while_w I m h0 fun m ρ M h => by
    have e : (fun (x : Bool) (M1 : Me) => (match x with
      | true => tb (nxt D (fun ρ' M' => ∃ m', m' < m ∧ I m' ρ' M')) ρ M1
      | false => D.nx ρ M1)) = fun x M1 => lz (brn x) (tb (nxt D (fun ρ' M' => ∃ m', m' < m ∧ I m' ρ' M')) ρ M1, D.nx ρ M1) .mk := by
      funext x M1; cases x <;> rfl
    have := hs m ρ M h
    rw [← e] at this
    exact this
theorem lc_int {f : ItW} {g : WG} {te : WE} {ρ : En} {M : Me} {Q : WK} {vs : List Nat} {o : List Int} (hf : f M = some (o.map W.int)) (hz : o.length ≤ 16000000) (v : Int → Int)
    (hs : ∀ x ∈ o, ∀ R : WK, (∀ M4, Sub M M4 → R (.int (v x)) M4) → g (.int x) (wWipe ρ vs) M fun ρ2 M2 => te ρ2 M2 R) (hd : ∀ q, M q = none → Q (.ref q) (put M q (.lst ((o.map v).map W.int)))) : wLcB f g wYes te vs ρ M Q := by
  refine lc_m hf (by rw [List.length_map]; exact hz) (fun w => match w with
    | .int x => .int (v x)
    | w => w) (fun i w hw R h => ?_) fun q hq => ?_
  · rw [List.getElem?_map] at hw
    obtain ⟨x, hx, rfl⟩ := Option.map_eq_some_iff.mp hw
    exact hs x (List.mem_of_getElem? hx) R h
  · have := hd q hq
    rw [List.map_map] at this ⊢
    exact this
def sp_in_order : PSp := fun ws M Q _ => match ws with
  | [cw, .int f] => ∃ (n : Nat) (c : Cell), cw = cW c ∧ CellOk n c ∧ n ≤ 1000 ∧ 0 ≤ f ∧ f < n ∧ Q (cW (plC c f)) M
  | _ => False
theorem take0 {o : List Int} {x y : Int} : ([x, y].take 0).foldl stO o = o := rfl
theorem take1 {o : List Int} {x y : Int} : ([x, y].take 1).foldl stO o = stO o x := rfl
theorem take2 {o : List Int} {x y : Int} : ([x, y].take 2).foldl stO o = stO (stO o x) y := rfl
theorem wkI {x : Int} : wkey (.int x) = some (Sum.inl x) := rfl
theorem stO_bd {n : Nat} {o : List Int} {t : Int} (nd : o.Nodup) (bd : ∀ x ∈ o, 0 ≤ x ∧ x < n) (h0 : 0 ≤ t) (h1 : t < n) : (stO o t).Nodup ∧ ∀ x ∈ stO o t, 0 ≤ x ∧ x < n := ⟨stO_nodup nd, stO_all bd ⟨h0, h1⟩⟩
theorem rd_in_order (ws M Q E) (h : sp_in_order ws M Q E) : t_p_in_order (wEnd Q) (wStart ["cell", "first", "guesses", "straight", "aside", "order", "places", "at", "behind", "told", "ahead", "state"] ws) M := by
  unfold sp_in_order at h
  split at h
  · rename_i cw f
    obtain ⟨n, c, rfl, hc, hn, f0, f1, q⟩ := h
    rw [wst2]
    unfold t_p_in_order cW
    walk_at "pv"
    refine Kp.start0.fresh_go fun p M1 k _ => ?_
    walk_at "pv"
    refine fun dp hdp => ?_
    walk_at "pv"
    have k := k.new (o := .dK [(Sum.inl f, .int 0)]) hdp
    refine while_b (fun m ρ M' => ∃ (k : Nat) (o : List Int) (bh : Option W), k + m = n ∧ OrdI n c k o ∧ itO c f k = (o, k) ∧ Kp none [(dp, .dK (kvO o)), (p, .lst (o.map W.int))] M M' ∧
      ρ = [some (cW c), some (.int f), some (iT c.1), some (iT c.2.1), some (iT c.2.2), some (.ref p), some (.ref dp), some (.int k), bh, none, none, none]) n ⟨0, [f], _, by omega, .start f0 f1, rfl, k, rfl⟩ ?_
    clear k
    rintro m ρ M2 ⟨k, o, bh, hk, ho, eo, kp, rfl⟩
    have hln := nodup_le ho.nd ho.bd
    walk_at "pv"
    rw [kp.g1]
    walk_at "pv"
    refine brn_dec (fun h => ?_) (fun h => ?_)
    · have hlt : k < o.length := by omega
      obtain ⟨x, hx⟩ : ∃ x, o[k]? = some x := ⟨_, List.getElem?_eq_getElem hlt⟩
      have bx := ho.bd x (List.mem_of_getElem? hx)
      have ax : atI (o.map W.int) (k : Int) = some (.int x) := atI_of (by omega) (by rw [Int.toNat_natCast, List.getElem?_map, hx]; rfl)
      have hs := hc.gs bx.1 bx.2
      have ha := hc.gaa bx.1 bx.2
      walk_at "pv"
      rw [kp.g1]
      walk_at "pv"
      refine gt_of ax ?_
      walk_at "pv"
      refine gt_of (hc.as bx.1 bx.2) ?_
      walk_at "pv"
      rw [kp.g1]
      walk_at "pv"
      refine gt_of ax ?_
      walk_at "pv"
      refine gt_of (hc.aa bx.1 bx.2) ?_
      walk_at "pv"
      refine for_c (fun i ρ M' => ∃ (bh : Option W), (([ga c.2.1 x, ga c.2.2 x].take i).foldl stO o).Nodup ∧ (∀ z ∈ ([ga c.2.1 x, ga c.2.2 x].take i).foldl stO o, 0 ≤ z ∧ z < n) ∧ Kp none [(dp, .dK (kvO (([ga c.2.1 x, ga c.2.2 x].take i).foldl stO o))), (p, .lst ((([ga c.2.1 x, ga c.2.2 x].take i).foldl stO o).map W.int))] M M' ∧
        ρ = [some (cW c), some (.int f), some (iT c.1), some (iT c.2.1), some (iT c.2.2), some (.ref p), some (.ref dp), some (.int k), bh, none, none, none]) ⟨_, ho.nd, ho.bd, kp, rfl⟩ ?_ ?_
      · clear kp
        rintro i w ρ M3 hw ⟨bh, nd, bd, kp, rfl⟩
        obtain ⟨y, rfl, hy, e1⟩ : ∃ y, w = .int y ∧ (0 ≤ y ∧ y < n) ∧ ([ga c.2.1 x, ga c.2.2 x].take (i + 1)).foldl stO o = stO (([ga c.2.1 x, ga c.2.2 x].take i).foldl stO o) y := by
          match i, hw with
          | 0, hw => exact ⟨_, by simpa using hw.symm, hs, rfl⟩
          | 1, hw => exact ⟨_, by simpa using hw.symm, ha, rfl⟩
        rw [e1]
        generalize ([ga c.2.1 x, ga c.2.2 x].take i).foldl stO o = o' at *
        have hl' := nodup_le nd bd
        walk_at "pv"
        rw [kp.g0]
        walk_at "pv"
        rw [look_kvO]
        by_cases hm : y ∈ o'
        · rw [if_pos hm]
          walk_at "pv"
          have e2 : stO o' y = o' := by unfold stO; rw [if_pos hm]
          rw [e2]
          exact ⟨_, Sub.refl _, _, nd, bd, kp, rfl⟩
        · rw [if_neg hm]
          have e2 : stO o' y = o' ++ [y] := by unfold stO; rw [if_neg hm]
          have nb := stO_bd nd bd hy.1 hy.2
          rw [e2] at nb ⊢
          simp only [Option.isSome_none, Bool.not_false]
          walk_at "pv"
          rw [kp.g1]
          walk_at "pv"
          rw [kp.g0]
          walk_at "pv"
          refine ⟨small_line (by rw [kvO_len]; omega), ?_⟩
          have kp := kp.set (o' := .dK (kvO (o' ++ [y])))
          rw [kvO_snoc hm]
          refine ⟨by rw [kp.g1]; rfl, ?_⟩
          rw [kp.g1]
          walk_at "pv"
          refine ⟨small_line (by omega), _, Sub.refl _, _, nb.1, nb.2, ?_, rfl⟩
          have := kp.sw.set (o' := .lst ((o' ++ [y]).map W.int))
          rw [List.map_append] at this ⊢
          exact this.sw
      · rintro ρ M3 ⟨bh, nd, bd, kp, rfl⟩
        walk_at "pv"
        have ho2 := ho.step hc hx
        have e2 := itO_step eo hx
        exact ⟨_, Sub.refl _, m - 1, by omega, k + 1, _, _, by omega, ho2, e2, kp, rfl⟩
    · have eF := ordO_of hc ho eo (by omega)
      have hcl : ∀ x ∈ o, ga c.2.1 x ∈ o ∧ ga c.2.2 x ∈ o := fun x hx => by
        obtain ⟨j, hj⟩ := List.getElem?_of_mem hx
        have hjl := (List.getElem?_eq_some_iff.mp hj).1
        exact ho.cl j x (by omega) hj
      walk_at "pv"
      refine ⟨by rw [kp.g1]; rfl, lc_int (o := o) (by rw [kp.g1]; rfl) (by omega) (ga c.1) (fun x hx R h => ?_) fun q1 hq1 => ?_⟩
      · walk_at "pv"
        refine gt_of (hc.ag (ho.bd x hx).1 (ho.bd x hx).2) ?_
        exact h _ (Sub.refl _)
      have kp := kp.new (o := .lst ((o.map (ga c.1)).map W.int)) hq1
      generalize put M2 q1 (.lst ((o.map (ga c.1)).map W.int)) = M3 at kp
      walk_at "pv"
      rw [kp.g0]
      have kp := kp.tail
      walk_at "pv"
      refine ⟨by rw [kp.g1]; rfl, lc_int (o := o) (by rw [kp.g1]; rfl) (by omega) (fun x => (o.idxOf (ga c.2.1 x) : Int)) (fun x hx R h => ?_) fun q1 hq1 => ?_⟩
      · walk_at "pv"
        refine gt_of (hc.as (ho.bd x hx).1 (ho.bd x hx).2) ?_
        walk_at "pv"
        rw [kp.g0]
        walk_at "pv"
        refine gt_of (w := .int (o.idxOf (ga c.2.1 x) : Nat)) (by rw [look_kvO, if_pos (hcl x hx).1]) ?_
        exact h _ (Sub.refl _)
      have kp := kp.new (o := .lst ((o.map fun x => (o.idxOf (ga c.2.1 x) : Int)).map W.int)) hq1
      generalize put M3 q1 (.lst ((o.map fun x => (o.idxOf (ga c.2.1 x) : Int)).map W.int)) = M4 at kp
      walk_at "pv"
      rw [kp.g0]
      have kp := kp.tail
      walk_at "pv"
      refine ⟨by rw [kp.g1]; rfl, lc_int (o := o) (by rw [kp.g1]; rfl) (by omega) (fun x => (o.idxOf (ga c.2.2 x) : Int)) (fun x hx R h => ?_) fun q1 hq1 => ?_⟩
      · walk_at "pv"
        refine gt_of (hc.aa (ho.bd x hx).1 (ho.bd x hx).2) ?_
        walk_at "pv"
        rw [kp.g0]
        walk_at "pv"
        refine gt_of (w := .int (o.idxOf (ga c.2.2 x) : Nat)) (by rw [look_kvO, if_pos (hcl x hx).2]) ?_
        exact h _ (Sub.refl _)
      have kp := kp.new (o := .lst ((o.map fun x => (o.idxOf (ga c.2.2 x) : Int)).map W.int)) hq1
      generalize put M4 q1 (.lst ((o.map fun x => (o.idxOf (ga c.2.2 x) : Int)).map W.int)) = M5 at kp
      walk_at "pv"
      rw [kp.g0]
      walk_at "pv"
      have e9 : cW (plC c f) = .tup [iT (o.map (ga c.1)), iT (o.map fun x => (o.idxOf (ga c.2.1 x) : Int)), iT (o.map fun x => (o.idxOf (ga c.2.2 x) : Int))] := by unfold cW plC; rw [eF]
      rw [e9] at q
      exact ⟨_, kp.sub, q⟩
  · exact h.elim
end PV
set_option maxHeartbeats 4000000
namespace PV
open PySem PySem.Spec PyProof.Rows L2
local macro_rules | `(tactic| walk_at "pv") => `(tactic| try simp only [↓s_seq, ↓s_next, ↓s_ret, ↓s_retN, ↓s_drop, ↓s_set, ↓s_ifS, ↓s_asg, ↓s_gname, ↓s_gnil, ↓s_gcons, ↓s_gtup, tg1_t, ↓s_gsub, ↓s_par, par2_e, ↓s_aug, ↓s_var, ov_some, ↓s_c, ↓s_op, ↓s_un, ↓s_B, ↓s_chain, ↓s_and, ↓s_or, ↓s_not, ↓s_andV, ↓s_orV, ↓s_notV, ↓s_if, ↓s_nil, ↓s_cons, ↓s_tup, ↓s_lst, ↓s_call, ↓s_fn, ↓s_isi, ↓s_mt, ↓s_mt0, ↓s_sl, ↓s_part, ↓s_nopart, ↓s_newK, ↓s_newN, ↓s_yes, wWipe, ↓s_for, ↓s_seqI, ↓s_rng1, ↓s_rng2, ↓s_lc,
  brn_t, brn_f, gt_some, onB_b, itS_tup, itS_cl, itS_ref, rgO_i, rgT_i, prt_i, mtS_r, mtZ_r,
  isQ_int_non, isQ_int_bl, isQ_int_int, isQ_int_str, isQ_int_tup, isQ_int_l, isQ_int_k, isQ_bool_non, isQ_bool_bl, isQ_bool_int, isQ_bool_str, isQ_bool_tup, isQ_bool_l, isQ_bool_k, isQ_str_non, isQ_str_bl, isQ_str_int, isQ_str_str, isQ_str_tup, isQ_str_l, isQ_str_k, isQ_tuple_non, isQ_tuple_bl, isQ_tuple_int, isQ_tuple_str, isQ_tuple_tup, isQ_tuple_l, isQ_tuple_k, isQ_list_non, isQ_list_bl, isQ_list_int, isQ_list_str, isQ_list_tup, isQ_list_l, isQ_list_k, isQ_dict_non, isQ_dict_bl, isQ_dict_int, isQ_dict_str, isQ_dict_tup, isQ_dict_l, isQ_dict_k,
  add_i, add_s, add_t, add_l, addO_l, sub_i, mul_i, mul_t, mul_l, mulO_l, lt_i, le_i, gt_i, ge_i, is_n, isnot_n, is_b, is_bf, isnot_b, isnot_bf, eq_i, eq_s, eq_b, eq_t, eq_l, eqO_l, eqO_ll, ne_i, ne_s, ne_b, ne_t, ne_l, neO_l, neO_ll, ix_t, ix_c, ix_r, ixO_l, ixO_k, ixO_lk, ixO_n, ixO_ln, in_t, in_r, nin_t, nin_r, inO_l, inO_k, inO_lk, inO_n, inO_ln, wkey_i, wkey_s, sl_t, sl_c, sl_r, slO_l, len_t, len_c, len_s, len_r, lenO_l, abs_i, max_i, min_i, int_i, int_b, tup_t, tup_r, tuO_l, lst_t, lst_c, lst_r, lsO_l, set_r, seO_l, seO_k, seO_n, app_r, apO_l, ext_r, exO_l, pop_z, pop_i, poZ_l, poO_l, neg_i,
  ↓s_dispK, dkS_i, dkS_s, dkF_r, iadd_i, iadd_s, r2I_i, wst1, wst2, wst3, wst4, wst5, obOf, isN, rdl_l, put_same, put_put, Option.isSome_some, true_and, and_true, decide_true, decide_false, Option.bind_some, atI_0, atI_1, atI_2, atI_3, atI_4, atI_m1, atI_m2, atI_m3, atI_m4, atI_m5, cut_1, List.map_cons, List.map_nil, List.cons_append, List.nil_append, List.getElem?_cons_zero, List.getElem?_cons_succ, List.length_cons, List.length_nil, List.length_map, List.isEmpty_cons, List.isEmpty_nil, List.set_cons_zero, List.set_cons_succ, List.replicate, Nat.reduceAdd, Nat.reduceSub, Nat.reduceLeDiff, Int.reduceNeg, le_line, lt_line, Bool.not_true, Bool.not_false])
local macro_rules | `(tactic| walk_at "pvh") => `(tactic| try simp only [↓s_seq, ↓s_next, ↓s_ret, ↓s_retN, ↓s_drop, ↓s_set, ↓s_ifS, ↓s_asg, ↓s_gname, ↓s_gnil, ↓s_gcons, ↓s_gtup, tg1_t, ↓s_gsub, ↓s_par, par2_e, ↓s_aug, ↓s_var, ov_some, ↓s_c, ↓s_op, ↓s_un, ↓s_B, ↓s_chain, ↓s_and, ↓s_or, ↓s_not, ↓s_andV, ↓s_orV, ↓s_notV, ↓s_if, ↓s_nil, ↓s_cons, ↓s_tup, ↓s_lst, ↓s_call, ↓s_fn, ↓s_isi, ↓s_mt, ↓s_mt0, ↓s_sl, ↓s_part, ↓s_nopart, ↓s_newK, ↓s_newN, ↓s_yes, wWipe, ↓s_for, ↓s_seqI, ↓s_rng1, ↓s_rng2, ↓s_lc,
  brn_t, brn_f, gt_some, onB_b, itS_tup, itS_cl, itS_ref, rgO_i, rgT_i, prt_i, mtS_r, mtZ_r,
  isQ_int_non, isQ_int_bl, isQ_int_int, isQ_int_str, isQ_int_tup, isQ_int_l, isQ_int_k, isQ_bool_non, isQ_bool_bl, isQ_bool_int, isQ_bool_str, isQ_bool_tup, isQ_bool_l, isQ_bool_k, isQ_str_non, isQ_str_bl, isQ_str_int, isQ_str_str, isQ_str_tup, isQ_str_l, isQ_str_k, isQ_tuple_non, isQ_tuple_bl, isQ_tuple_int, isQ_tuple_str, isQ_tuple_tup, isQ_tuple_l, isQ_tuple_k, isQ_list_non, isQ_list_bl, isQ_list_int, isQ_list_str, isQ_list_tup, isQ_list_l, isQ_list_k, isQ_dict_non, isQ_dict_bl, isQ_dict_int, isQ_dict_str, isQ_dict_tup, isQ_dict_l, isQ_dict_k,
  add_i, add_s, add_t, add_l, addO_l, sub_i, mul_i, mul_t, mul_l, mulO_l, lt_i, le_i, gt_i, ge_i, is_n, isnot_n, is_b, is_bf, isnot_b, isnot_bf, eq_i, eq_s, eq_b, eq_t, eq_l, eqO_l, eqO_ll, ne_i, ne_s, ne_b, ne_t, ne_l, neO_l, neO_ll, ix_t, ix_c, ix_r, ixO_l, ixO_k, ixO_lk, ixO_n, ixO_ln, in_t, in_r, nin_t, nin_r, inO_l, inO_k, inO_lk, inO_n, inO_ln, wkey_i, wkey_s, sl_t, sl_c, sl_r, slO_l, len_t, len_c, len_s, len_r, lenO_l, abs_i, max_i, min_i, int_i, int_b, tup_t, tup_r, tuO_l, lst_t, lst_c, lst_r, lsO_l, set_r, seO_l, seO_k, seO_n, app_r, apO_l, ext_r, exO_l, pop_z, pop_i, poZ_l, poO_l, neg_i,
  ↓s_dispK, dkS_i, dkS_s, dkF_r, iadd_i, iadd_s, r2I_i, wst1, wst2, wst3, wst4, wst5, obOf, isN, rdl_l, put_same, put_put, Option.isSome_some, true_and, and_true, decide_true, decide_false, Option.bind_some, atI_0, atI_1, atI_2, atI_3, atI_4, atI_m1, atI_m2, atI_m3, atI_m4, atI_m5, cut_1, List.map_cons, List.map_nil, List.cons_append, List.nil_append, List.getElem?_cons_zero, List.getElem?_cons_succ, List.length_cons, List.length_nil, List.length_map, List.isEmpty_cons, List.isEmpty_nil, List.set_cons_zero, List.set_cons_succ, List.replicate, Nat.reduceAdd, Nat.reduceSub, Nat.reduceLeDiff, Int.reduceNeg, le_line, lt_line, Bool.not_true, Bool.not_false, put_ne1, put_ne2, *])
def sp_plain : PSp := fun ws M Q _ => match ws with
  | [cw] => ∃ (n : Nat) (c : Cell), cw = cW c ∧ CellOk n c ∧ n ≤ 1000 ∧ Q (cW (plC c 0)) M
  | _ => False
theorem rd_plain_cell (ws M Q E) (h : sp_plain ws M Q E) : t_p_plain_cell sp_in_order (wEnd Q) (wStart ["cell"] ws) M := by
  unfold sp_plain at h
  split at h
  · rename_i cw
    obtain ⟨n, c, rfl, hc, hn, q⟩ := h
    rw [wst1]
    unfold t_p_plain_cell
    walk_at "pv"
    exact ⟨n, c, rfl, hc, hn, by omega, by have := hc.pos; omega, _, Sub.refl _, q⟩
  · exact h.elim
theorem flat_ints {o : List Int} : (o.map W.int).all flatW = true := by rw [List.all_map]; exact List.all_eq_true.mpr fun _ _ => rfl
theorem inW_int {y : Int} {o : List Int} : inW (.int y) (o.map W.int) = decide (y ∈ o) := by
  unfold inW
  rw [List.any_map, Bool.eq_iff_iff, List.any_eq_true, decide_eq_true_eq]
  constructor
  · rintro ⟨x, hx, e⟩
    have : x = y := by simpa [eqF, fv] using e
    rw [← this]; exact hx
  · exact fun h => ⟨y, h, by simp [eqF, fv]⟩
theorem rd_plain (ws M Q E) (h : sp_plain ws M Q E) : t_l_plain (wEnd Q) (wStart ["cell", "guesses", "straight", "aside", "order", "at", "there", "first", "second", "state"] ws) M := by
  unfold sp_plain at h
  split at h
  · rename_i cw
    obtain ⟨n, c, rfl, hc, hn, q⟩ := h
    have hpos := hc.pos
    rw [wst1]
    unfold t_l_plain cW
    walk_at "pv"
    refine Kp.start0.fresh_go fun p M1 k _ => ?_
    walk_at "pv"
    refine while_b (fun m ρ M' => ∃ (k : Nat) (o : List Int) (bh : Option W), k + m = n ∧ OrdI n c k o ∧ itO c 0 k = (o, k) ∧ Kp none [(p, .lst (o.map W.int))] M M' ∧
      ρ = [some (cW c), some (iT c.1), some (iT c.2.1), some (iT c.2.2), some (.ref p), some (.int k), bh, none, none, none]) n ⟨0, [0], _, by omega, .start (by decide) (by omega), rfl, k, rfl⟩ ?_
    clear k
    rintro m ρ M2 ⟨k, o, bh, hk, ho, eo, kp, rfl⟩
    have hln := nodup_le ho.nd ho.bd
    walk_at "pv"
    rw [kp.g0]
    walk_at "pv"
    refine brn_dec (fun h => ?_) (fun h => ?_)
    · have hlt : k < o.length := by omega
      obtain ⟨x, hx⟩ : ∃ x, o[k]? = some x := ⟨_, List.getElem?_eq_getElem hlt⟩
      have bx := ho.bd x (List.mem_of_getElem? hx)
      have ax : atI (o.map W.int) (k : Int) = some (.int x) := atI_of (by omega) (by rw [Int.toNat_natCast, List.getElem?_map, hx]; rfl)
      have hs := hc.gs bx.1 bx.2
      have ha := hc.gaa bx.1 bx.2
      walk_at "pv"
      rw [kp.g0]
      walk_at "pv"
      refine gt_of ax ?_
      walk_at "pv"
      refine gt_of (hc.as bx.1 bx.2) ?_
      walk_at "pv"
      rw [kp.g0]
      walk_at "pv"
      refine gt_of ax ?_
      walk_at "pv"
      refine gt_of (hc.aa bx.1 bx.2) ?_
      walk_at "pv"
      refine for_c (fun i ρ M' => ∃ (bh : Option W), (([ga c.2.1 x, ga c.2.2 x].take i).foldl stO o).Nodup ∧ (∀ z ∈ ([ga c.2.1 x, ga c.2.2 x].take i).foldl stO o, 0 ≤ z ∧ z < n) ∧ Kp none [(p, .lst ((([ga c.2.1 x, ga c.2.2 x].take i).foldl stO o).map W.int))] M M' ∧
        ρ = [some (cW c), some (iT c.1), some (iT c.2.1), some (iT c.2.2), some (.ref p), some (.int k), bh, none, none, none]) ⟨_, ho.nd, ho.bd, kp, rfl⟩ ?_ ?_
      · clear kp
        rintro i w ρ M3 hw ⟨bh, nd, bd, kp, rfl⟩
        obtain ⟨y, rfl, hy, e1⟩ : ∃ y, w = .int y ∧ (0 ≤ y ∧ y < n) ∧ ([ga c.2.1 x, ga c.2.2 x].take (i + 1)).foldl stO o = stO (([ga c.2.1 x, ga c.2.2 x].take i).foldl stO o) y := by
          match i, hw with
          | 0, hw => exact ⟨_, by simpa using hw.symm, hs, rfl⟩
          | 1, hw => exact ⟨_, by simpa using hw.symm, ha, rfl⟩
        rw [e1]
        generalize ([ga c.2.1 x, ga c.2.2 x].take i).foldl stO o = o' at *
        have hl' := nodup_le nd bd
        walk_at "pv"
        rw [kp.g0]
        walk_at "pv"
        refine ⟨by rw [flat_ints]; rfl, ?_⟩
        rw [inW_int]
        by_cases hm : y ∈ o'
        · rw [decide_eq_true hm]
          walk_at "pv"
          have e2 : stO o' y = o' := by unfold stO; rw [if_pos hm]
          rw [e2]
          exact ⟨_, Sub.refl _, _, nd, bd, kp, rfl⟩
        · rw [decide_eq_false hm]
          have e2 : stO o' y = o' ++ [y] := by unfold stO; rw [if_neg hm]
          have nb := stO_bd nd bd hy.1 hy.2
          rw [e2] at nb ⊢
          walk_at "pv"
          refine ⟨by rw [kp.g0]; rfl, ?_⟩
          rw [kp.g0]
          walk_at "pv"
          refine ⟨small_line (by omega), _, Sub.refl _, _, nb.1, nb.2, ?_, rfl⟩
          have := kp.set (o' := .lst ((o' ++ [y]).map W.int))
          rw [List.map_append] at this ⊢
          exact this
      · rintro ρ M3 ⟨bh, nd, bd, kp, rfl⟩
        walk_at "pv"
        exact ⟨_, Sub.refl _, m - 1, by omega, k + 1, _, _, by omega, ho.step hc hx, itO_step eo hx, kp, rfl⟩
    · have eF := ordO_of hc ho eo (by omega)
      have hcl : ∀ x ∈ o, ga c.2.1 x ∈ o ∧ ga c.2.2 x ∈ o := fun x hx => by
        obtain ⟨j, hj⟩ := List.getElem?_of_mem hx
        have hjl := (List.getElem?_eq_some_iff.mp hj).1
        exact ho.cl j x (by omega) hj
      walk_at "pv"
      refine ⟨by rw [kp.g0]; rfl, lc_int (o := o) (by rw [kp.g0]; rfl) (by omega) (ga c.1) (fun x hx R h => ?_) fun q1 hq1 => ?_⟩
      · walk_at "pv"
        refine gt_of (hc.ag (ho.bd x hx).1 (ho.bd x hx).2) ?_
        exact h _ (Sub.refl _)
      have kp := kp.new (o := .lst ((o.map (ga c.1)).map W.int)) hq1
      generalize put M2 q1 (.lst ((o.map (ga c.1)).map W.int)) = M3 at kp
      walk_at "pv"
      rw [kp.g0]
      have kp := kp.tail
      walk_at "pv"
      refine ⟨by rw [kp.g0]; rfl, lc_int (o := o) (by rw [kp.g0]; rfl) (by omega) (fun x => (o.idxOf (ga c.2.1 x) : Int)) (fun x hx R h => ?_) fun q1 hq1 => ?_⟩
      · walk_at "pv"
        refine ⟨by rw [kp.g0]; rfl, gt_of (hc.as (ho.bd x hx).1 (ho.bd x hx).2) ?_⟩
        walk_at "pv"
        exact index_go kp.g0 (hcl x hx).1 (h _ (Sub.refl _))
      have kp := kp.new (o := .lst ((o.map fun x => (o.idxOf (ga c.2.1 x) : Int)).map W.int)) hq1
      generalize put M3 q1 (.lst ((o.map fun x => (o.idxOf (ga c.2.1 x) : Int)).map W.int)) = M4 at kp
      walk_at "pv"
      rw [kp.g0]
      have kp := kp.tail
      walk_at "pv"
      refine ⟨by rw [kp.g0]; rfl, lc_int (o := o) (by rw [kp.g0]; rfl) (by omega) (fun x => (o.idxOf (ga c.2.2 x) : Int)) (fun x hx R h => ?_) fun q1 hq1 => ?_⟩
      · walk_at "pv"
        refine ⟨by rw [kp.g0]; rfl, gt_of (hc.aa (ho.bd x hx).1 (ho.bd x hx).2) ?_⟩
        walk_at "pv"
        exact index_go kp.g0 (hcl x hx).2 (h _ (Sub.refl _))
      have kp := kp.new (o := .lst ((o.map fun x => (o.idxOf (ga c.2.2 x) : Int)).map W.int)) hq1
      generalize put M4 q1 (.lst ((o.map fun x => (o.idxOf (ga c.2.2 x) : Int)).map W.int)) = M5 at kp
      walk_at "pv"
      rw [kp.g0]
      walk_at "pv"
      have e9 : cW (plC c 0) = .tup [iT (o.map (ga c.1)), iT (o.map fun x => (o.idxOf (ga c.2.1 x) : Int)), iT (o.map fun x => (o.idxOf (ga c.2.2 x) : Int))] := by unfold cW plC; rw [eF]
      rw [e9] at q
      exact ⟨_, kp.sub, q⟩
  · exact h.elim
def sp_whole : PSp := fun ws M Q _ => match ws with
  | [cw] => (∃ c : Cell, cw = cW c ∧ c.1.length ≤ 1000 ∧ c.2.1.length ≤ 1000 ∧ c.2.2.length ≤ 1000) ∧ Q (.bl true) M
  | _ => False
theorem rd_whole (ws M Q E) (h : sp_whole ws M Q E) : t_l_is_whole (wEnd Q) (wStart ["cell", "row", "one"] ws) M := by
  unfold sp_whole at h
  split at h
  · obtain ⟨⟨c, rfl, l1, l2, l3⟩, q⟩ := h
    rw [wst1]
    unfold t_l_is_whole cW
    walk_at "pv"
    refine for_c (fun i ρ M' => M' = M ∧ ∃ x, ρ = [some (cW c), x, none]) ⟨rfl, _, rfl⟩ ?_ ?_
    · rintro i w ρ M1 hw ⟨rfl, x, rfl⟩
      obtain ⟨row, rfl, hr⟩ : ∃ row : List Int, w = iT row ∧ row.length ≤ 1000 := by
        match i, hw with
        | 0, hw => exact ⟨_, by simpa using hw.symm, l1⟩
        | 1, hw => exact ⟨_, by simpa using hw.symm, l2⟩
        | 2, hw => exact ⟨_, by simpa using hw.symm, l3⟩
      walk_at "pv"
      refine lc_fm rfl (by rw [List.length_map]; omega) (fun _ => false) id (fun j y hy R R0 h1 h0 => ?_) fun p hp => ?_
      · rw [List.getElem?_map] at hy
        obtain ⟨z, hz, rfl⟩ := Option.map_eq_some_iff.mp hy
        walk_at "pv"
        exact h0 rfl _ (Sub.refl _)
      · rw [show (List.filter (fun _ => false) (row.map W.int)).map id = [] by simp]
        walk_at "pv"
        refine fun p2 hp2 => ?_
        obtain ⟨n2, hp3⟩ := put_none.mp hp2
        walk_at "pv"
        rw [put_ne (Ne.symm n2), put_same]
        walk_at "pv"
        exact ⟨_, (Sub.new hp).trans (Sub.new hp2), rfl, _, rfl⟩
    · rintro ρ M1 ⟨rfl, x, rfl⟩
      walk_at "pv"
      exact ⟨_, Sub.refl _, q⟩
  · exact h.elim
end PV
set_option maxHeartbeats 4000000
namespace PV
open PySem PySem.Spec PyProof.Rows L2
local macro_rules | `(tactic| walk_at "pv") => `(tactic| try simp only [↓s_seq, ↓s_next, ↓s_ret, ↓s_retN, ↓s_drop, ↓s_set, ↓s_ifS, ↓s_asg, ↓s_gname, ↓s_gnil, ↓s_gcons, ↓s_gtup, tg1_t, ↓s_gsub, ↓s_par, par2_e, ↓s_aug, ↓s_var, ov_some, ↓s_c, ↓s_op, ↓s_un, ↓s_B, ↓s_chain, ↓s_and, ↓s_or, ↓s_not, ↓s_andV, ↓s_orV, ↓s_notV, ↓s_if, ↓s_nil, ↓s_cons, ↓s_tup, ↓s_lst, ↓s_call, ↓s_fn, ↓s_isi, ↓s_mt, ↓s_mt0, ↓s_sl, ↓s_part, ↓s_nopart, ↓s_newK, ↓s_newN, ↓s_yes, wWipe, ↓s_for, ↓s_seqI, ↓s_rng1, ↓s_rng2, ↓s_lc,
  brn_t, brn_f, gt_some, onB_b, itS_tup, itS_cl, itS_ref, rgO_i, rgT_i, prt_i, mtS_r, mtZ_r,
  isQ_int_non, isQ_int_bl, isQ_int_int, isQ_int_str, isQ_int_tup, isQ_int_l, isQ_int_k, isQ_bool_non, isQ_bool_bl, isQ_bool_int, isQ_bool_str, isQ_bool_tup, isQ_bool_l, isQ_bool_k, isQ_str_non, isQ_str_bl, isQ_str_int, isQ_str_str, isQ_str_tup, isQ_str_l, isQ_str_k, isQ_tuple_non, isQ_tuple_bl, isQ_tuple_int, isQ_tuple_str, isQ_tuple_tup, isQ_tuple_l, isQ_tuple_k, isQ_list_non, isQ_list_bl, isQ_list_int, isQ_list_str, isQ_list_tup, isQ_list_l, isQ_list_k, isQ_dict_non, isQ_dict_bl, isQ_dict_int, isQ_dict_str, isQ_dict_tup, isQ_dict_l, isQ_dict_k,
  add_i, add_s, add_t, add_l, addO_l, sub_i, mul_i, mul_t, mul_l, mulO_l, lt_i, le_i, gt_i, ge_i, is_n, isnot_n, is_b, is_bf, isnot_b, isnot_bf, eq_i, eq_s, eq_b, eq_t, eq_l, eqO_l, eqO_ll, ne_i, ne_s, ne_b, ne_t, ne_l, neO_l, neO_ll, ix_t, ix_c, ix_r, ixO_l, ixO_k, ixO_lk, ixO_n, ixO_ln, in_t, in_r, nin_t, nin_r, inO_l, inO_k, inO_lk, inO_n, inO_ln, wkey_i, wkey_s, sl_t, sl_c, sl_r, slO_l, len_t, len_c, len_s, len_r, lenO_l, abs_i, max_i, min_i, int_i, int_b, tup_t, tup_r, tuO_l, lst_t, lst_c, lst_r, lsO_l, set_r, seO_l, seO_k, seO_n, app_r, apO_l, ext_r, exO_l, pop_z, pop_i, poZ_l, poO_l, neg_i,
  ↓s_dispK, dkS_i, dkS_s, dkF_r, iadd_i, iadd_s, r2I_i, wst1, wst2, wst3, wst4, wst5, obOf, isN, rdl_l, put_same, put_put, Option.isSome_some, true_and, and_true, decide_true, decide_false, Option.bind_some, atI_0, atI_1, atI_2, atI_3, atI_4, atI_m1, atI_m2, atI_m3, atI_m4, atI_m5, cut_1, List.map_cons, List.map_nil, List.cons_append, List.nil_append, List.getElem?_cons_zero, List.getElem?_cons_succ, List.length_cons, List.length_nil, List.length_map, List.isEmpty_cons, List.isEmpty_nil, List.set_cons_zero, List.set_cons_succ, List.replicate, Nat.reduceAdd, Nat.reduceSub, Nat.reduceLeDiff, Int.reduceNeg, le_line, lt_line, Bool.not_true, Bool.not_false])
local macro_rules | `(tactic| walk_at "pvh") => `(tactic| try simp only [↓s_seq, ↓s_next, ↓s_ret, ↓s_retN, ↓s_drop, ↓s_set, ↓s_ifS, ↓s_asg, ↓s_gname, ↓s_gnil, ↓s_gcons, ↓s_gtup, tg1_t, ↓s_gsub, ↓s_par, par2_e, ↓s_aug, ↓s_var, ov_some, ↓s_c, ↓s_op, ↓s_un, ↓s_B, ↓s_chain, ↓s_and, ↓s_or, ↓s_not, ↓s_andV, ↓s_orV, ↓s_notV, ↓s_if, ↓s_nil, ↓s_cons, ↓s_tup, ↓s_lst, ↓s_call, ↓s_fn, ↓s_isi, ↓s_mt, ↓s_mt0, ↓s_sl, ↓s_part, ↓s_nopart, ↓s_newK, ↓s_newN, ↓s_yes, wWipe, ↓s_for, ↓s_seqI, ↓s_rng1, ↓s_rng2, ↓s_lc,
  brn_t, brn_f, gt_some, onB_b, itS_tup, itS_cl, itS_ref, rgO_i, rgT_i, prt_i, mtS_r, mtZ_r,
  isQ_int_non, isQ_int_bl, isQ_int_int, isQ_int_str, isQ_int_tup, isQ_int_l, isQ_int_k, isQ_bool_non, isQ_bool_bl, isQ_bool_int, isQ_bool_str, isQ_bool_tup, isQ_bool_l, isQ_bool_k, isQ_str_non, isQ_str_bl, isQ_str_int, isQ_str_str, isQ_str_tup, isQ_str_l, isQ_str_k, isQ_tuple_non, isQ_tuple_bl, isQ_tuple_int, isQ_tuple_str, isQ_tuple_tup, isQ_tuple_l, isQ_tuple_k, isQ_list_non, isQ_list_bl, isQ_list_int, isQ_list_str, isQ_list_tup, isQ_list_l, isQ_list_k, isQ_dict_non, isQ_dict_bl, isQ_dict_int, isQ_dict_str, isQ_dict_tup, isQ_dict_l, isQ_dict_k,
  add_i, add_s, add_t, add_l, addO_l, sub_i, mul_i, mul_t, mul_l, mulO_l, lt_i, le_i, gt_i, ge_i, is_n, isnot_n, is_b, is_bf, isnot_b, isnot_bf, eq_i, eq_s, eq_b, eq_t, eq_l, eqO_l, eqO_ll, ne_i, ne_s, ne_b, ne_t, ne_l, neO_l, neO_ll, ix_t, ix_c, ix_r, ixO_l, ixO_k, ixO_lk, ixO_n, ixO_ln, in_t, in_r, nin_t, nin_r, inO_l, inO_k, inO_lk, inO_n, inO_ln, wkey_i, wkey_s, sl_t, sl_c, sl_r, slO_l, len_t, len_c, len_s, len_r, lenO_l, abs_i, max_i, min_i, int_i, int_b, tup_t, tup_r, tuO_l, lst_t, lst_c, lst_r, lsO_l, set_r, seO_l, seO_k, seO_n, app_r, apO_l, ext_r, exO_l, pop_z, pop_i, poZ_l, poO_l, neg_i,
  ↓s_dispK, dkS_i, dkS_s, dkF_r, iadd_i, iadd_s, r2I_i, wst1, wst2, wst3, wst4, wst5, obOf, isN, rdl_l, put_same, put_put, Option.isSome_some, true_and, and_true, decide_true, decide_false, Option.bind_some, atI_0, atI_1, atI_2, atI_3, atI_4, atI_m1, atI_m2, atI_m3, atI_m4, atI_m5, cut_1, List.map_cons, List.map_nil, List.cons_append, List.nil_append, List.getElem?_cons_zero, List.getElem?_cons_succ, List.length_cons, List.length_nil, List.length_map, List.isEmpty_cons, List.isEmpty_nil, List.set_cons_zero, List.set_cons_succ, List.replicate, Nat.reduceAdd, Nat.reduceSub, Nat.reduceLeDiff, Int.reduceNeg, le_line, lt_line, Bool.not_true, Bool.not_false, put_ne1, put_ne2, *])
theorem lc_deck {x : Option Addr} {fs : List (Addr × Ob)} {M0 M : Me} {d : Addr} {a b c m many : Int} {g : WG} {te : WE} {vs : List Nat} {ρ : En} {Q : WK} (k : Kp x ((d, dkO a b c) :: fs) M0 M) (c0 : 0 ≤ c) (c1 : c + many < 1000000) (hm : 0 < m) (hm2 : m < 2 ^ 64) (hn : 0 ≤ many) (hn2 : many ≤ 1000)
    (hs : ∀ (w : W) M' (R : WK), lz (spc sp_dtake [.ref d, .int m] M') R .mk → g w (wWipe ρ vs) M' fun ρ2 M2 => te ρ2 M2 R)
    (hd : ∀ (xs : List Int) a' c' q M', xs.length = many.toNat → (∀ x ∈ xs, 0 ≤ x ∧ x < m) → 0 ≤ c' → c' ≤ c + many → Kp x ((q, .lst (xs.map W.int)) :: (d, dkO a' b c') :: fs) M0 M' → Q (.ref q) M') : wLcB (fun _ => some (rngW 0 many)) g wYes te vs ρ M Q := by
  refine lc_c (by rw [rngW_len]; omega) (fun i acc M' => ∃ (xs : List Int) (a' c' : Int), acc = xs.map W.int ∧ xs.length = i ∧ (∀ x ∈ xs, 0 ≤ x ∧ x < m) ∧ 0 ≤ c' ∧ c' ≤ c + i ∧ Kp x ((d, dkO a' b c') :: fs) M0 M') ⟨[], a, c, rfl, rfl, (fun x h => nomatch h), c0, by omega, k⟩ ?_ ?_
  · rintro i acc w M1 hw ⟨xs, a', c', rfl, hl, hx, h0, h1, k⟩
    obtain ⟨rfl, hi⟩ := rngW_get hw
    refine hs _ M1 _ ?_
    refine k.deck_go h0 (by omega) hm hm2 fun r a2 c2 M2 r0 r1 q0 q1 k => ?_
    refine ⟨M2, Sub.refl _, xs ++ [r], a2, c2, map_snoc, by rw [List.length_append, hl]; rfl, fun y hy => ?_, q0, by omega, k⟩
    rcases List.mem_append.mp hy with hy | hy
    · exact hx y hy
    · rw [List.mem_singleton.mp hy]; exact ⟨r0, r1⟩
  · rintro acc M1 ⟨xs, a', c', rfl, hl, hx, h0, h1, k⟩ q hq
    rw [rngW_len] at hl h1
    exact hd xs a' c' q _ (by omega) hx h0 (by omega) (k.new hq)
def sp_dcell : PSp := fun ws M Q _ => match ws with
  | [.ref d, .int most] => ∃ a b c : Int, M d = some (dkO a b c) ∧ 0 ≤ c ∧ c < 900000 ∧ 1 ≤ most ∧ most ≤ 1000 ∧ ∀ (n : Nat) (cell : Cell) a' c', CellOk n cell → n ≤ most → 0 ≤ c' → c' ≤ c + 4000 → Q (cW cell) (put M d (dkO a' b c'))
  | _ => False
theorem rd_dcell (ws M Q E) (h : sp_dcell ws M Q E) : t_l_cell sp_dtake (wEnd Q) (wStart ["deck", "most", "many", "guesses", "straight", "aside", "k"] ws) M := by
  unfold sp_dcell at h
  split at h
  · rename_i d most
    obtain ⟨a, b, c, e, c0, c1, m0, m1, q⟩ := h
    rw [wst2]
    unfold t_l_cell
    have k := Kp.own e
    walk_at "pv"
    refine k.deck_go c0 (by omega) (by omega) (by omega) fun r a1 cc M1 r0 r1 h0 h1 k => ?_
    walk_at "pv"
    refine ⟨rgB_of (by omega) (by omega), lc_deck k h0 (by omega) (m := 2) (by decide) (by decide) (by omega) (by omega) (fun w M' R h => ?_) fun gs a2 c2 q2 M2 l2 hg h2 h3 k => ?_⟩
    · walk_at "pv"
      exact h
    walk_at "pv"
    rw [k.g0]
    have k := k.tail
    walk_at "pv"
    refine ⟨rgB_of (by omega) (by omega), lc_deck k h2 (by omega) (m := 1 + r) (by omega) (by omega) (by omega) (by omega) (fun w M' R h => ?_) fun ss a3 c3 q3 M3 l3 hs h4 h5 k => ?_⟩
    · walk_at "pv"
      exact h
    walk_at "pv"
    rw [k.g0]
    have k := k.tail
    walk_at "pv"
    refine ⟨rgB_of (by omega) (by omega), lc_deck k h4 (by omega) (m := 1 + r) (by omega) (by omega) (by omega) (by omega) (fun w M' R h => ?_) fun as a4 c4 q4 M4 l4 ha h6 h7 k => ?_⟩
    · walk_at "pv"
      exact h
    walk_at "pv"
    rw [k.g0]
    have k := k.tail
    walk_at "pv"
    have hr : ((1 + r).toNat : Int) = 1 + r := by omega
    exact ⟨_, k.back, q (1 + r).toNat (gs, ss, as) a4 c4 ⟨l2, l3, l4, by omega, hg, by rw [hr]; exact hs, by rw [hr]; exact ha⟩ (by omega) h6 (by omega)⟩
  · exact h.elim
end PV
set_option maxHeartbeats 4000000
namespace PV
open PySem PySem.Spec PyProof.Rows L2
local macro_rules | `(tactic| walk_at "pv") => `(tactic| try simp only [↓s_seq, ↓s_next, ↓s_ret, ↓s_retN, ↓s_drop, ↓s_set, ↓s_ifS, ↓s_asg, ↓s_gname, ↓s_gnil, ↓s_gcons, ↓s_gtup, tg1_t, ↓s_gsub, ↓s_par, par2_e, ↓s_aug, ↓s_var, ov_some, ↓s_c, ↓s_op, ↓s_un, ↓s_B, ↓s_chain, ↓s_and, ↓s_or, ↓s_not, ↓s_andV, ↓s_orV, ↓s_notV, ↓s_if, ↓s_nil, ↓s_cons, ↓s_tup, ↓s_lst, ↓s_call, ↓s_fn, ↓s_isi, ↓s_mt, ↓s_mt0, ↓s_sl, ↓s_part, ↓s_nopart, ↓s_newK, ↓s_newN, ↓s_yes, wWipe, ↓s_for, ↓s_seqI, ↓s_rng1, ↓s_rng2, ↓s_lc,
  brn_t, brn_f, gt_some, onB_b, itS_tup, itS_cl, itS_ref, rgO_i, rgT_i, prt_i, mtS_r, mtZ_r,
  isQ_int_non, isQ_int_bl, isQ_int_int, isQ_int_str, isQ_int_tup, isQ_int_l, isQ_int_k, isQ_bool_non, isQ_bool_bl, isQ_bool_int, isQ_bool_str, isQ_bool_tup, isQ_bool_l, isQ_bool_k, isQ_str_non, isQ_str_bl, isQ_str_int, isQ_str_str, isQ_str_tup, isQ_str_l, isQ_str_k, isQ_tuple_non, isQ_tuple_bl, isQ_tuple_int, isQ_tuple_str, isQ_tuple_tup, isQ_tuple_l, isQ_tuple_k, isQ_list_non, isQ_list_bl, isQ_list_int, isQ_list_str, isQ_list_tup, isQ_list_l, isQ_list_k, isQ_dict_non, isQ_dict_bl, isQ_dict_int, isQ_dict_str, isQ_dict_tup, isQ_dict_l, isQ_dict_k,
  add_i, add_s, add_t, add_l, addO_l, sub_i, mul_i, mul_t, mul_l, mulO_l, lt_i, le_i, gt_i, ge_i, is_n, isnot_n, is_b, is_bf, isnot_b, isnot_bf, eq_i, eq_s, eq_b, eq_t, eq_l, eqO_l, eqO_ll, ne_i, ne_s, ne_b, ne_t, ne_l, neO_l, neO_ll, ix_t, ix_c, ix_r, ixO_l, ixO_k, ixO_lk, ixO_n, ixO_ln, in_t, in_r, nin_t, nin_r, inO_l, inO_k, inO_lk, inO_n, inO_ln, wkey_i, wkey_s, sl_t, sl_c, sl_r, slO_l, len_t, len_c, len_s, len_r, lenO_l, abs_i, max_i, min_i, int_i, int_b, tup_t, tup_r, tuO_l, lst_t, lst_c, lst_r, lsO_l, set_r, seO_l, seO_k, seO_n, app_r, apO_l, ext_r, exO_l, pop_z, pop_i, poZ_l, poO_l, neg_i,
  ↓s_dispK, dkS_i, dkS_s, dkF_r, iadd_i, iadd_s, r2I_i, wst1, wst2, wst3, wst4, wst5, obOf, isN, rdl_l, put_same, put_put, Option.isSome_some, true_and, and_true, decide_true, decide_false, Option.bind_some, atI_0, atI_1, atI_2, atI_3, atI_4, atI_m1, atI_m2, atI_m3, atI_m4, atI_m5, cut_1, List.map_cons, List.map_nil, List.cons_append, List.nil_append, List.getElem?_cons_zero, List.getElem?_cons_succ, List.length_cons, List.length_nil, List.length_map, List.isEmpty_cons, List.isEmpty_nil, List.set_cons_zero, List.set_cons_succ, List.replicate, Nat.reduceAdd, Nat.reduceSub, Nat.reduceLeDiff, Int.reduceNeg, le_line, lt_line, Bool.not_true, Bool.not_false])
local macro_rules | `(tactic| walk_at "pvh") => `(tactic| try simp only [↓s_seq, ↓s_next, ↓s_ret, ↓s_retN, ↓s_drop, ↓s_set, ↓s_ifS, ↓s_asg, ↓s_gname, ↓s_gnil, ↓s_gcons, ↓s_gtup, tg1_t, ↓s_gsub, ↓s_par, par2_e, ↓s_aug, ↓s_var, ov_some, ↓s_c, ↓s_op, ↓s_un, ↓s_B, ↓s_chain, ↓s_and, ↓s_or, ↓s_not, ↓s_andV, ↓s_orV, ↓s_notV, ↓s_if, ↓s_nil, ↓s_cons, ↓s_tup, ↓s_lst, ↓s_call, ↓s_fn, ↓s_isi, ↓s_mt, ↓s_mt0, ↓s_sl, ↓s_part, ↓s_nopart, ↓s_newK, ↓s_newN, ↓s_yes, wWipe, ↓s_for, ↓s_seqI, ↓s_rng1, ↓s_rng2, ↓s_lc,
  brn_t, brn_f, gt_some, onB_b, itS_tup, itS_cl, itS_ref, rgO_i, rgT_i, prt_i, mtS_r, mtZ_r,
  isQ_int_non, isQ_int_bl, isQ_int_int, isQ_int_str, isQ_int_tup, isQ_int_l, isQ_int_k, isQ_bool_non, isQ_bool_bl, isQ_bool_int, isQ_bool_str, isQ_bool_tup, isQ_bool_l, isQ_bool_k, isQ_str_non, isQ_str_bl, isQ_str_int, isQ_str_str, isQ_str_tup, isQ_str_l, isQ_str_k, isQ_tuple_non, isQ_tuple_bl, isQ_tuple_int, isQ_tuple_str, isQ_tuple_tup, isQ_tuple_l, isQ_tuple_k, isQ_list_non, isQ_list_bl, isQ_list_int, isQ_list_str, isQ_list_tup, isQ_list_l, isQ_list_k, isQ_dict_non, isQ_dict_bl, isQ_dict_int, isQ_dict_str, isQ_dict_tup, isQ_dict_l, isQ_dict_k,
  add_i, add_s, add_t, add_l, addO_l, sub_i, mul_i, mul_t, mul_l, mulO_l, lt_i, le_i, gt_i, ge_i, is_n, isnot_n, is_b, is_bf, isnot_b, isnot_bf, eq_i, eq_s, eq_b, eq_t, eq_l, eqO_l, eqO_ll, ne_i, ne_s, ne_b, ne_t, ne_l, neO_l, neO_ll, ix_t, ix_c, ix_r, ixO_l, ixO_k, ixO_lk, ixO_n, ixO_ln, in_t, in_r, nin_t, nin_r, inO_l, inO_k, inO_lk, inO_n, inO_ln, wkey_i, wkey_s, sl_t, sl_c, sl_r, slO_l, len_t, len_c, len_s, len_r, lenO_l, abs_i, max_i, min_i, int_i, int_b, tup_t, tup_r, tuO_l, lst_t, lst_c, lst_r, lsO_l, set_r, seO_l, seO_k, seO_n, app_r, apO_l, ext_r, exO_l, pop_z, pop_i, poZ_l, poO_l, neg_i,
  ↓s_dispK, dkS_i, dkS_s, dkF_r, iadd_i, iadd_s, r2I_i, wst1, wst2, wst3, wst4, wst5, obOf, isN, rdl_l, put_same, put_put, Option.isSome_some, true_and, and_true, decide_true, decide_false, Option.bind_some, atI_0, atI_1, atI_2, atI_3, atI_4, atI_m1, atI_m2, atI_m3, atI_m4, atI_m5, cut_1, List.map_cons, List.map_nil, List.cons_append, List.nil_append, List.getElem?_cons_zero, List.getElem?_cons_succ, List.length_cons, List.length_nil, List.length_map, List.isEmpty_cons, List.isEmpty_nil, List.set_cons_zero, List.set_cons_succ, List.replicate, Nat.reduceAdd, Nat.reduceSub, Nat.reduceLeDiff, Int.reduceNeg, le_line, lt_line, Bool.not_true, Bool.not_false, put_ne1, put_ne2, *])
/-! cells as data -/
theorem nrs_ints : ∀ o : List Int, nrs (o.map W.int) = true
  | [] => rfl
  | x :: o => by
    show (nr (.int x) && nrs (o.map W.int)) = true
    rw [nrs_ints o]; rfl
theorem dps_ints : ∀ o : List Int, dps (o.map W.int) = 0
  | [] => by simp [dps]
  | x :: o => by
    rw [List.map_cons]
    simp [dps, dp, dps_ints o]
theorem nr_iT {o : List Int} : nr (iT o) = true := by unfold iT nr; exact nrs_ints o
theorem dp_iT {o : List Int} : dp (iT o) = 1 := by unfold iT dp; rw [dps_ints]
theorem nr_cW {c : Cell} : nr (cW c) = true := by
  unfold cW nr
  simp [nrs, nr_iT]
theorem dp_cW {c : Cell} : dp (cW c) = 2 := by
  unfold cW dp
  simp [dps, dp_iT]
theorem flt_cW {c : Cell} : flt (cW c) = true := by unfold flt; rw [nr_cW, dp_cW]; rfl
theorem pds_ints : ∀ o : List Int, pds (o.map W.int) = o.map PyData.int
  | [] => by simp [pds]
  | x :: o => by
    rw [List.map_cons, List.map_cons]
    simp [pds, pd, pds_ints o]
theorem pd_iT {o : List Int} : pd (iT o) = .tuple (o.map PyData.int) := by unfold iT; simp [pd, pds_ints]
theorem pd_cW {c : Cell} : pd (cW c) = .tuple [.tuple (c.1.map .int), .tuple (c.2.1.map .int), .tuple (c.2.2.map .int)] := by unfold cW; simp [pd, pds, pds_ints]
theorem alike_cW {c e : Cell} : PySem.W.alike (pd (cW c)) (pd (cW e)) = true := by
  rw [pd_cW, pd_cW]
  simp [PySem.W.alike, PySem.W.alikeAll, PySem.W.alike_ints]
theorem weq_cW {c : Cell} : weq (cW c) (cW c) = true := PySem.W.eqv_refl_alike _ alike_cW
def toldW (ways : List Int) (m : Nat) (c : Cell) : W := .tup [.int (missN c ways), .int m, cW c]
theorem nr_told {ways : List Int} {m : Nat} {c : Cell} : nr (toldW ways m c) = true := by unfold toldW nr; simp [nrs, nr, nr_cW]
theorem dp_told {ways : List Int} {m : Nat} {c : Cell} : dp (toldW ways m c) ≤ 60 := by unfold toldW dp; simp [dps, dp, dp_cW]
theorem alike_told {ways ways' : List Int} {m m' : Nat} {c c' : Cell} : PySem.W.alike (pd (toldW ways m c)) (pd (toldW ways' m' c')) = true := by
  unfold toldW
  simp only [pd, pds]
  have := alike_cW (c := c) (e := c')
  simp [PySem.W.alike, PySem.W.alikeAll, this]
theorem told_nn {ways : List Int} {m : Nat} {c : Cell} : pd (toldW ways m c) ≠ .none := by unfold toldW; simp [pd]
theorem eqC_go {M : Me} {Q : WK} {tg : Tg Q} {c e : Cell} (k : Q (.bl (weq (cW c) (cW e))) M) : lz (rEq2 (cW c) (cW e) M) Q tg := by
  show (flt (cW c) && flt (cW e)) = true ∧ Q (.bl (weq (cW c) (cW e))) M
  exact ⟨by rw [flt_cW, flt_cW]; rfl, k⟩
theorem neC_go {M : Me} {Q : WK} {tg : Tg Q} {c e : Cell} (k : Q (.bl (!weq (cW c) (cW e))) M) : lz (rNe2 (cW c) (cW e) M) Q tg := by
  show (flt (cW c) && flt (cW e)) = true ∧ Q (.bl (!weq (cW c) (cW e))) M
  exact ⟨by rw [flt_cW, flt_cW]; rfl, k⟩
/-! all cells -/
def cellAt (m : Nat) (one other : Int) : Cell := (figs one 2 m, (figs other m (2 * m)).take m, (figs other m (2 * m)).drop m)
theorem cellAt_ok {m : Nat} {one other : Int} (h : 1 ≤ m) : CellOk m (cellAt m one other) := by
  have f1 := figs_ok (num := other) (base := m) (k := 2 * m) (by omega)
  exact ⟨figs_len, by show (List.take _ _).length = m; rw [List.length_take, figs_len]; omega, by show (List.drop _ _).length = m; rw [List.length_drop, figs_len]; omega, h, figs_ok (by decide), fun x hx => f1 x (List.mem_of_mem_take hx), fun x hx => f1 x (List.mem_of_mem_drop hx)⟩
theorem cW_at {m : Nat} {one other : Int} : cW (cellAt m one other) = .tup [iT (figs one 2 m), .tup (cutW ((figs other m (2 * m)).map W.int) none (some (m : Int))), .tup (cutW ((figs other m (2 * m)).map W.int) (some (m : Int)) none)] := by
  rw [cut_to, cut_from]
  unfold cW cellAt iT
  rw [List.map_take, List.map_drop]
def plainB (c : Cell) : Bool := weq (cW (plC c 0)) (cW c)
def rowC (m : Nat) (one : Int) (j : Nat) : List Cell := (List.range j).map fun (o : Nat) => cellAt m one (o : Int)
def nOth (m : Nat) : Nat := m ^ (2 * m)
def allC (m i : Nat) : List Cell := (List.range i).flatMap fun (one : Nat) => rowC m one (nOth m)
theorem rowC_succ {m j : Nat} {one : Int} : rowC m one (j + 1) = rowC m one j ++ [cellAt m one j] := by unfold rowC; rw [List.range_succ, List.map_append]; rfl
theorem allC_succ {m i : Nat} : allC m (i + 1) = allC m i ++ rowC m i (nOth m) := by unfold allC; rw [List.range_succ, List.flatMap_append]; simp
theorem rowC_len {m j : Nat} {one : Int} : (rowC m one j).length = j := by unfold rowC; simp
theorem allC_len {m : Nat} : ∀ i : Nat, (allC m i).length = i * nOth m
  | 0 => by simp [allC]
  | i + 1 => by rw [allC_succ, List.length_append, allC_len i, rowC_len, Nat.add_mul, Nat.one_mul]
theorem rowC_mem {m j : Nat} {one : Int} (h : 1 ≤ m) : ∀ c ∈ rowC m one j, CellOk m c := fun c hc => by
  unfold rowC at hc
  obtain ⟨o, _, rfl⟩ := List.mem_map.mp hc
  exact cellAt_ok h
theorem allC_mem {m i : Nat} (h : 1 ≤ m) : ∀ c ∈ allC m i, CellOk m c := fun c hc => by
  unfold allC at hc
  obtain ⟨o, _, h2⟩ := List.mem_flatMap.mp hc
  exact rowC_mem h c h2
def celW (m i : Nat) (j : Nat) : List W := ((allC m i ++ rowC m i j).filter plainB).map cW
theorem celW_len {m i j : Nat} : (celW m i j).length ≤ i * nOth m + j := by
  unfold celW
  rw [List.length_map]
  refine Nat.le_trans (List.length_filter_le _ _) ?_
  rw [List.length_append, allC_len, rowC_len]
  exact Nat.le_refl _
theorem nOth_small {m : Nat} (h1 : 1 ≤ m) (h2 : m ≤ 3) : 1 ≤ nOth m ∧ nOth m ≤ 729 := by
  have : m = 1 ∨ m = 2 ∨ m = 3 := by omega
  rcases this with rfl | rfl | rfl <;> decide
theorem two_small {m : Nat} (h1 : 1 ≤ m) (h2 : m ≤ 3) : 2 ^ m ≤ 8 := by
  have : m = 1 ∨ m = 2 ∨ m = 3 := by omega
  rcases this with rfl | rfl | rfl <;> decide
def cellsW (m : Nat) : List W := ((allC m (2 ^ m)).filter plainB).map cW
def sp_cells_of : PSp := fun ws M Q _ => match ws with
  | [.int m'] => ∃ m : Nat, m' = m ∧ 1 ≤ m ∧ m ≤ 3 ∧ ∀ p M', M p = none → Sub M M' → M' p = some (.lst (cellsW m)) → Q (.ref p) M'
  | _ => False
theorem rd_cells_of (ws M Q E) (h : sp_cells_of ws M Q E) : t_p_cells_of sp_power sp_figures sp_plain (wEnd Q) (wStart ["many", "found", "one", "other", "ways", "cell"] ws) M := by
  unfold sp_cells_of at h
  split at h
  · obtain ⟨m, rfl, h1, h3, q⟩ := h
    have hn := nOth_small h1 h3
    obtain ⟨N, eN⟩ : ∃ N : Nat, N = 2 ^ m := ⟨_, rfl⟩
    have h2 := two_small h1 h3
    rw [← eN] at h2
    obtain ⟨T, eT⟩ : ∃ T : Nat, T = nOth m := ⟨_, rfl⟩
    have en : (m : Int) ^ (2 * (m : Int)).toNat = (nOth m : Int) := by
      unfold nOth
      rw [show (2 * (m : Int)).toNat = 2 * m by omega, Int.natCast_pow]
    have e2 : (2 : Int) ^ (m : Int).toNat = (N : Int) := by rw [eN, Int.toNat_natCast, Int.natCast_pow]; rfl
    rw [wst1]
    unfold t_p_cells_of
    walk_at "pv"
    refine Kp.start0.fresh_go fun p M1 k _ => ?_
    walk_at "pv"
    refine ⟨by decide, by decide, by omega, by omega, ?_⟩
    rw [e2]
    walk_at "pv"
    refine ⟨rgB_of (by omega) (by omega), for_r (fun i ρ M' => i ≤ N ∧ Kp none [(p, .lst (celW m i 0))] M M' ∧ ∃ a b c d, ρ = [some (.int m), some (.ref p), a, b, c, d]) ⟨Nat.zero_le _, k, _, _, _, _, rfl⟩ ?_ ?_⟩
    · clear k
      rintro i ρ M2 hi ⟨hi2, k, a, b, c, d, rfl⟩
      walk_at "pv"
      refine ⟨.left (by decide) (by decide), ?_⟩
      walk_at "pv"
      refine ⟨by omega, by omega, by omega, by omega, ?_⟩
      rw [en]
      walk_at "pv"
      refine ⟨rgB_of (by omega) (by omega), for_r (fun j ρ M' => j ≤ nOth m ∧ Kp none [(p, .lst (celW m i j))] M M' ∧ ∃ b c d, ρ = [some (.int m), some (.ref p), some (.int (0 + (i : Int))), b, c, d]) ⟨Nat.zero_le _, k, _, _, _, rfl⟩ ?_ ?_⟩
      · clear k
        rintro j ρ M3 hj ⟨hj2, k, b, c, d, rfl⟩
        walk_at "pv"
        refine ⟨.left (by decide) (by decide), ?_⟩
        walk_at "pv"
        refine ⟨by omega, by omega, by omega, by omega, ?_⟩
        walk_at "pv"
        refine ⟨by decide, by decide, by omega, by omega, ?_⟩
        walk_at "pv"
        rw [show (2 * (m : Int)).toNat = 2 * m by omega, Int.toNat_natCast, Int.zero_add, Int.zero_add, ← cW_at]
        refine ⟨m, _, rfl, cellAt_ok h1, by omega, ?_⟩
        have er : celW m i (j + 1) = celW m i j ++ (if plainB (cellAt m i j) = true then [cW (cellAt m i j)] else []) := by
          unfold celW
          rw [rowC_succ, ← List.append_assoc, List.filter_append, List.map_append]
          by_cases hp : plainB (cellAt m i j) = true
          · rw [if_pos hp, List.filter_cons, if_pos hp]; rfl
          · rw [if_neg hp, List.filter_cons, if_neg hp]; rfl
        have hlen := celW_len (m := m) (i := i) (j := j)
        have hm : i * nOth m ≤ 8 * 729 := Nat.mul_le_mul (by omega) hn.2
        walk_at "pv"
        refine eqC_go ?_
        walk_at "pv"
        rw [er]
        refine brn_i (fun hp => ?_) (fun hp => ?_)
        · rw [if_pos (show plainB (cellAt m i j) = true from hp)]
          walk_at "pv"
          refine ⟨by rw [k.g0]; rfl, ?_⟩
          rw [k.g0]
          walk_at "pv"
          exact ⟨small_line (by omega), _, Sub.refl _, by omega, k.set, _, _, _, rfl⟩
        · rw [if_neg (show ¬ plainB (cellAt m i j) = true from by show ¬ weq _ _ = true; rw [hp]; exact Bool.false_ne_true), List.append_nil]
          exact ⟨_, Sub.refl _, by omega, k, _, _, _, rfl⟩
      · rintro ρ M3 ⟨hj2, k, b, c, d, rfl⟩
        refine ⟨_, Sub.refl _, by omega, ?_, _, _, _, _, rfl⟩
        have e3 : celW m i ((nOth m : Int) - 0).toNat = celW m (i + 1) 0 := by
          unfold celW
          rw [show ((nOth m : Int) - 0).toNat = nOth m by omega, ← allC_succ]
          simp [rowC]
        rw [← e3]; exact k
    · rintro ρ M3 ⟨hj2, k, a, b, c, d, rfl⟩
      walk_at "pv"
      have e3 : celW m ((N : Int) - 0).toNat 0 = cellsW m := by
        unfold celW cellsW
        rw [show ((N : Int) - 0).toNat = N by omega, eN]
        simp [rowC]
      rw [e3] at k
      exact ⟨_, Sub.refl _, q p _ k.f0 k.sub k.g0⟩
  · exact h.elim
end PV
set_option maxHeartbeats 4000000
namespace PV
open PySem PySem.Spec PyProof.Rows L2
local macro_rules | `(tactic| walk_at "pv") => `(tactic| try simp only [↓s_seq, ↓s_next, ↓s_ret, ↓s_retN, ↓s_drop, ↓s_set, ↓s_ifS, ↓s_asg, ↓s_gname, ↓s_gnil, ↓s_gcons, ↓s_gtup, tg1_t, ↓s_gsub, ↓s_par, par2_e, ↓s_aug, ↓s_var, ov_some, ↓s_c, ↓s_op, ↓s_un, ↓s_B, ↓s_chain, ↓s_and, ↓s_or, ↓s_not, ↓s_andV, ↓s_orV, ↓s_notV, ↓s_if, ↓s_nil, ↓s_cons, ↓s_tup, ↓s_lst, ↓s_call, ↓s_fn, ↓s_isi, ↓s_mt, ↓s_mt0, ↓s_sl, ↓s_part, ↓s_nopart, ↓s_newK, ↓s_newN, ↓s_yes, wWipe, ↓s_for, ↓s_seqI, ↓s_rng1, ↓s_rng2, ↓s_lc,
  brn_t, brn_f, gt_some, onB_b, itS_tup, itS_cl, itS_ref, rgO_i, rgT_i, prt_i, mtS_r, mtZ_r,
  isQ_int_non, isQ_int_bl, isQ_int_int, isQ_int_str, isQ_int_tup, isQ_int_l, isQ_int_k, isQ_bool_non, isQ_bool_bl, isQ_bool_int, isQ_bool_str, isQ_bool_tup, isQ_bool_l, isQ_bool_k, isQ_str_non, isQ_str_bl, isQ_str_int, isQ_str_str, isQ_str_tup, isQ_str_l, isQ_str_k, isQ_tuple_non, isQ_tuple_bl, isQ_tuple_int, isQ_tuple_str, isQ_tuple_tup, isQ_tuple_l, isQ_tuple_k, isQ_list_non, isQ_list_bl, isQ_list_int, isQ_list_str, isQ_list_tup, isQ_list_l, isQ_list_k, isQ_dict_non, isQ_dict_bl, isQ_dict_int, isQ_dict_str, isQ_dict_tup, isQ_dict_l, isQ_dict_k,
  add_i, add_s, add_t, add_l, addO_l, sub_i, mul_i, mul_t, mul_l, mulO_l, lt_i, le_i, gt_i, ge_i, is_n, isnot_n, is_b, is_bf, isnot_b, isnot_bf, eq_i, eq_s, eq_b, eq_t, eq_l, eqO_l, eqO_ll, ne_i, ne_s, ne_b, ne_t, ne_l, neO_l, neO_ll, ix_t, ix_c, ix_r, ixO_l, ixO_k, ixO_lk, ixO_n, ixO_ln, in_t, in_r, nin_t, nin_r, inO_l, inO_k, inO_lk, inO_n, inO_ln, wkey_i, wkey_s, sl_t, sl_c, sl_r, slO_l, len_t, len_c, len_s, len_r, lenO_l, abs_i, max_i, min_i, int_i, int_b, tup_t, tup_r, tuO_l, lst_t, lst_c, lst_r, lsO_l, set_r, seO_l, seO_k, seO_n, app_r, apO_l, ext_r, exO_l, pop_z, pop_i, poZ_l, poO_l, neg_i,
  ↓s_dispK, dkS_i, dkS_s, dkF_r, iadd_i, iadd_s, r2I_i, wst1, wst2, wst3, wst4, wst5, obOf, isN, rdl_l, put_same, put_put, Option.isSome_some, true_and, and_true, decide_true, decide_false, Option.bind_some, atI_0, atI_1, atI_2, atI_3, atI_4, atI_m1, atI_m2, atI_m3, atI_m4, atI_m5, cut_1, List.map_cons, List.map_nil, List.cons_append, List.nil_append, List.getElem?_cons_zero, List.getElem?_cons_succ, List.length_cons, List.length_nil, List.length_map, List.isEmpty_cons, List.isEmpty_nil, List.set_cons_zero, List.set_cons_succ, List.replicate, Nat.reduceAdd, Nat.reduceSub, Nat.reduceLeDiff, Int.reduceNeg, le_line, lt_line, Bool.not_true, Bool.not_false])
local macro_rules | `(tactic| walk_at "pvh") => `(tactic| try simp only [↓s_seq, ↓s_next, ↓s_ret, ↓s_retN, ↓s_drop, ↓s_set, ↓s_ifS, ↓s_asg, ↓s_gname, ↓s_gnil, ↓s_gcons, ↓s_gtup, tg1_t, ↓s_gsub, ↓s_par, par2_e, ↓s_aug, ↓s_var, ov_some, ↓s_c, ↓s_op, ↓s_un, ↓s_B, ↓s_chain, ↓s_and, ↓s_or, ↓s_not, ↓s_andV, ↓s_orV, ↓s_notV, ↓s_if, ↓s_nil, ↓s_cons, ↓s_tup, ↓s_lst, ↓s_call, ↓s_fn, ↓s_isi, ↓s_mt, ↓s_mt0, ↓s_sl, ↓s_part, ↓s_nopart, ↓s_newK, ↓s_newN, ↓s_yes, wWipe, ↓s_for, ↓s_seqI, ↓s_rng1, ↓s_rng2, ↓s_lc,
  brn_t, brn_f, gt_some, onB_b, itS_tup, itS_cl, itS_ref, rgO_i, rgT_i, prt_i, mtS_r, mtZ_r,
  isQ_int_non, isQ_int_bl, isQ_int_int, isQ_int_str, isQ_int_tup, isQ_int_l, isQ_int_k, isQ_bool_non, isQ_bool_bl, isQ_bool_int, isQ_bool_str, isQ_bool_tup, isQ_bool_l, isQ_bool_k, isQ_str_non, isQ_str_bl, isQ_str_int, isQ_str_str, isQ_str_tup, isQ_str_l, isQ_str_k, isQ_tuple_non, isQ_tuple_bl, isQ_tuple_int, isQ_tuple_str, isQ_tuple_tup, isQ_tuple_l, isQ_tuple_k, isQ_list_non, isQ_list_bl, isQ_list_int, isQ_list_str, isQ_list_tup, isQ_list_l, isQ_list_k, isQ_dict_non, isQ_dict_bl, isQ_dict_int, isQ_dict_str, isQ_dict_tup, isQ_dict_l, isQ_dict_k,
  add_i, add_s, add_t, add_l, addO_l, sub_i, mul_i, mul_t, mul_l, mulO_l, lt_i, le_i, gt_i, ge_i, is_n, isnot_n, is_b, is_bf, isnot_b, isnot_bf, eq_i, eq_s, eq_b, eq_t, eq_l, eqO_l, eqO_ll, ne_i, ne_s, ne_b, ne_t, ne_l, neO_l, neO_ll, ix_t, ix_c, ix_r, ixO_l, ixO_k, ixO_lk, ixO_n, ixO_ln, in_t, in_r, nin_t, nin_r, inO_l, inO_k, inO_lk, inO_n, inO_ln, wkey_i, wkey_s, sl_t, sl_c, sl_r, slO_l, len_t, len_c, len_s, len_r, lenO_l, abs_i, max_i, min_i, int_i, int_b, tup_t, tup_r, tuO_l, lst_t, lst_c, lst_r, lsO_l, set_r, seO_l, seO_k, seO_n, app_r, apO_l, ext_r, exO_l, pop_z, pop_i, poZ_l, poO_l, neg_i,
  ↓s_dispK, dkS_i, dkS_s, dkF_r, iadd_i, iadd_s, r2I_i, wst1, wst2, wst3, wst4, wst5, obOf, isN, rdl_l, put_same, put_put, Option.isSome_some, true_and, and_true, decide_true, decide_false, Option.bind_some, atI_0, atI_1, atI_2, atI_3, atI_4, atI_m1, atI_m2, atI_m3, atI_m4, atI_m5, cut_1, List.map_cons, List.map_nil, List.cons_append, List.nil_append, List.getElem?_cons_zero, List.getElem?_cons_succ, List.length_cons, List.length_nil, List.length_map, List.isEmpty_cons, List.isEmpty_nil, List.set_cons_zero, List.set_cons_succ, List.replicate, Nat.reduceAdd, Nat.reduceSub, Nat.reduceLeDiff, Int.reduceNeg, le_line, lt_line, Bool.not_true, Bool.not_false, put_ne1, put_ne2, *])
def oB : Option W → W
  | none => .non
  | some t => t
theorem oB_some {t : W} : oB (some t) = t := rfl
theorem oB_none : oB none = .non := rfl
def updB (ways : List Int) (m : Nat) (b : Option W) (c : Cell) : Option W := match b with
  | none => some (toldW ways m c)
  | some t => if ltW (toldW ways m c) t = true then some (toldW ways m c) else some t
def bestM (ways : List Int) : Nat → Option W
  | 0 => none
  | i + 1 => ((allC (i + 1) (2 ^ (i + 1))).filter plainB).foldl (updB ways (i + 1)) (bestM ways i)
/-- a told one -/
def IsT (ways : List Int) (b : Option W) : Prop := ∀ t, b = some t → ∃ (m : Nat) (c : Cell), t = toldW ways m c ∧ CellOk m c ∧ m ≤ 3
theorem updB_T {ways : List Int} {m : Nat} {b : Option W} {c : Cell} (h : IsT ways b) (hc : CellOk m c) (hm : m ≤ 3) : IsT ways (updB ways m b c) := fun t e => by
  unfold updB at e
  split at e
  · cases e; exact ⟨m, c, rfl, hc, hm⟩
  · split at e
    · cases e; exact ⟨m, c, rfl, hc, hm⟩
    · exact h t e
theorem foldB_T {ways : List Int} {m : Nat} (hm : m ≤ 3) : ∀ (cs : List Cell) (b : Option W), IsT ways b → (∀ c ∈ cs, CellOk m c) → IsT ways (cs.foldl (updB ways m) b)
  | [], _, h, _ => h
  | c :: cs, b, h, hc => foldB_T hm cs _ (updB_T h (hc c (.head _)) hm) fun x hx => hc x (.tail _ hx)
theorem bestM_T {ways : List Int} : ∀ i, i ≤ 3 → IsT ways (bestM ways i)
  | 0, _ => fun t e => nomatch e
  | i + 1, hi => foldB_T hi _ _ (bestM_T i (by omega)) fun c hc => allC_mem (by omega) c (List.mem_filter.mp hc).1
theorem updB_some {ways : List Int} {m : Nat} {b : Option W} {c : Cell} : (updB ways m b c).isSome = true := by
  unfold updB; split
  · rfl
  · split <;> rfl
theorem foldB_some {ways : List Int} {m : Nat} : ∀ (cs : List Cell) (b : Option W), b.isSome = true ∨ cs ≠ [] → (cs.foldl (updB ways m) b).isSome = true
  | [], b, h => by
    rcases h with h | h
    · exact h
    · exact absurd rfl h
  | c :: cs, b, _ => foldB_some cs _ (.inl updB_some)
theorem plain_0 : plainB (cellAt 1 0 0) = true := by
  have e : plC (cellAt 1 0 0) 0 = cellAt 1 0 0 := by decide +kernel
  unfold plainB
  rw [e]
  exact weq_cW
theorem bestM_some {ways : List Int} : ∀ i, (bestM ways (i + 1)).isSome = true
  | 0 => foldB_some _ _ (.inr fun h => by
    have : cellAt 1 0 0 ∈ (allC 1 (2 ^ 1)).filter plainB := List.mem_filter.mpr ⟨by
      unfold allC rowC
      exact List.mem_flatMap.mpr ⟨0, by decide, List.mem_map.mpr ⟨0, by decide, rfl⟩⟩, plain_0⟩
    rw [h] at this
    cases this)
  | i + 1 => foldB_some _ _ (.inl (bestM_some i))
def sp_best : PSp := fun ws M Q _ => match ws with
  | [.ref a, .int most] => ∃ (ways : List Int) (m : Nat), M a = some (.lst (ways.map W.int)) ∧ (∀ w ∈ ways, w = 0 ∨ w = 1) ∧ most = m ∧ 1 ≤ m ∧ m ≤ 3 ∧ ∀ (m' : Nat) (c : Cell), bestM ways m = some (toldW ways m' c) → CellOk m' c → m' ≤ 3 → Q (.tup [.int (missN c ways), cW c]) M
  | _ => False
theorem told_take {ways : List Int} {m i : Nat} {b : Option W} {cs : List Cell} {c : Cell} (h : cs[i]? = some c) : (cs.take (i + 1)).foldl (updB ways m) b = updB ways m ((cs.take i).foldl (updB ways m) b) c := by
  rw [List.take_succ, h, List.foldl_append]; rfl
theorem rd_best_cell (ws M Q E) (h : sp_best ws M Q E) : t_p_best_cell sp_cells_of sp_cell_misses (wEnd Q) (wStart ["ways", "many", "best", "states", "cell", "told"] ws) M := by
  unfold sp_best at h
  split at h
  · rename_i a most
    obtain ⟨ways, m, ea, hw, rfl, h1, h3, q⟩ := h
    rw [wst2]
    unfold t_p_best_cell
    walk_at "pv"
    refine ⟨⟨rgB_of (by decide) (by decide), rgB_of (by omega) (by omega)⟩, for_r (fun i ρ M' => i ≤ m ∧ Sub M M' ∧ ∃ x y z, ρ = [some (.ref a), some (.int m), some (oB (bestM ways i)), x, y, z]) ⟨Nat.zero_le _, Sub.refl _, _, _, _, rfl⟩ ?_ ?_⟩
    · rintro i ρ M1 hi ⟨hi2, s1, x, y, z, rfl⟩
      have ei : (1 : Int) + i = ((i + 1 : Nat) : Int) := by omega
      walk_at "pv"
      rw [ei]
      refine ⟨i + 1, rfl, by omega, by omega, fun p M2 hp s2 ep => ?_⟩
      walk_at "pv"
      refine ⟨by rw [ep]; rfl, for_l (a := p) (ws := cellsW (i + 1)) (fun j ρ M' => M' = M2 ∧ ∃ y z, ρ = [some (.ref a), some (.int m), some (oB ((((allC (i + 1) (2 ^ (i + 1))).filter plainB).take j).foldl (updB ways (i + 1)) (bestM ways i))), some (.int ((i + 1 : Nat) : Int)), y, z]) ⟨rfl, _, _, rfl⟩ (fun j ρ M' h => by rw [h.1]; exact ep) ?_ ?_⟩
      · rintro j w ρ M3 hw2 ⟨rfl, y, z, rfl⟩
        unfold cellsW at hw2
        rw [List.getElem?_map] at hw2
        obtain ⟨c, hc, rfl⟩ := Option.map_eq_some_iff.mp hw2
        rw [told_take hc]
        have hcm := List.mem_of_getElem? hc
        have okc := allC_mem (by omega) c (List.mem_filter.mp hcm).1
        have isT : IsT ways ((((allC (i + 1) (2 ^ (i + 1))).filter plainB).take j).foldl (updB ways (i + 1)) (bestM ways i)) := foldB_T (by omega) _ _ (bestM_T i (by omega)) fun c hc => allC_mem (by omega) c (List.mem_filter.mp (List.mem_of_mem_take hc)).1
        generalize (((allC (i + 1) (2 ^ (i + 1))).filter plainB).take j).foldl (updB ways (i + 1)) (bestM ways i) = b at isT
        walk_at "pv"
        refine ⟨i + 1, c, ways, rfl, okc, s2 _ _ (s1 _ _ ea), hw, ?_⟩
        walk_at "pv"
        have et : W.tup [.int (missN c ways), .int ((i + 1 : Nat) : Int), cW c] = toldW ways (i + 1) c := rfl
        rw [et]
        cases b with
        | none =>
          rw [oB_none]
          walk_at "pv"
          exact ⟨_, Sub.refl _, rfl, _, _, rfl⟩
        | some t =>
          obtain ⟨m', c', rfl, _, _⟩ := isT t rfl
          rw [oB_some, show updB ways (i + 1) (some (toldW ways m' c')) c = if ltW (toldW ways (i + 1) c) (toldW ways m' c') = true then some (toldW ways (i + 1) c) else some (toldW ways m' c') from rfl]
          refine brn_i (fun h => absurd (show false = true from h) Bool.false_ne_true) (fun _ => ?_)
          walk_at "pv"
          refine ltD_go nr_told nr_told alike_told told_nn dp_told ?_
          walk_at "pv"
          refine brn_i (fun h => ?_) (fun h => ?_)
          · rw [if_pos h, oB_some]
            walk_at "pv"
            exact ⟨_, Sub.refl _, rfl, _, _, rfl⟩
          · rw [if_neg (by rw [h]; exact Bool.false_ne_true), oB_some]
            walk_at "pv"
            exact ⟨_, Sub.refl _, rfl, _, _, rfl⟩
      · rintro ρ M3 ⟨rfl, y, z, rfl⟩
        refine ⟨_, Sub.refl _, by omega, s1.trans s2, some (.int ((i + 1 : Nat) : Int)), y, z, ?_⟩
        unfold cellsW
        rw [List.length_map, List.take_length]
        rfl
    · rintro ρ M1 ⟨hi2, s1, x, y, z, rfl⟩
      rw [show ((m : Int) + 1 - 1).toNat = m by omega]
      have isT := bestM_T (ways := ways) m h3
      have sm : (bestM ways m).isSome = true := by
        rw [show m = (m - 1) + 1 by omega]
        exact bestM_some _
      obtain ⟨t, et⟩ := Option.isSome_iff_exists.mp sm
      obtain ⟨m', c, rfl, hc, hm'⟩ := isT t et
      have q := q m' c et hc hm'
      rw [et, oB_some]
      unfold toldW
      walk_at "pv"
      exact ⟨_, s1, q⟩
  · exact h.elim
end PV
set_option maxHeartbeats 4000000
namespace PV
open PySem PySem.Spec PyProof.Rows L2
local macro_rules | `(tactic| walk_at "pv") => `(tactic| try simp only [↓s_seq, ↓s_next, ↓s_ret, ↓s_retN, ↓s_drop, ↓s_set, ↓s_ifS, ↓s_asg, ↓s_gname, ↓s_gnil, ↓s_gcons, ↓s_gtup, tg1_t, ↓s_gsub, ↓s_par, par2_e, ↓s_aug, ↓s_var, ov_some, ↓s_c, ↓s_op, ↓s_un, ↓s_B, ↓s_chain, ↓s_and, ↓s_or, ↓s_not, ↓s_andV, ↓s_orV, ↓s_notV, ↓s_if, ↓s_nil, ↓s_cons, ↓s_tup, ↓s_lst, ↓s_call, ↓s_fn, ↓s_isi, ↓s_mt, ↓s_mt0, ↓s_sl, ↓s_part, ↓s_nopart, ↓s_newK, ↓s_newN, ↓s_yes, wWipe, ↓s_for, ↓s_seqI, ↓s_rng1, ↓s_rng2, ↓s_lc,
  brn_t, brn_f, gt_some, onB_b, itS_tup, itS_cl, itS_ref, rgO_i, rgT_i, prt_i, mtS_r, mtZ_r,
  isQ_int_non, isQ_int_bl, isQ_int_int, isQ_int_str, isQ_int_tup, isQ_int_l, isQ_int_k, isQ_bool_non, isQ_bool_bl, isQ_bool_int, isQ_bool_str, isQ_bool_tup, isQ_bool_l, isQ_bool_k, isQ_str_non, isQ_str_bl, isQ_str_int, isQ_str_str, isQ_str_tup, isQ_str_l, isQ_str_k, isQ_tuple_non, isQ_tuple_bl, isQ_tuple_int, isQ_tuple_str, isQ_tuple_tup, isQ_tuple_l, isQ_tuple_k, isQ_list_non, isQ_list_bl, isQ_list_int, isQ_list_str, isQ_list_tup, isQ_list_l, isQ_list_k, isQ_dict_non, isQ_dict_bl, isQ_dict_int, isQ_dict_str, isQ_dict_tup, isQ_dict_l, isQ_dict_k,
  add_i, add_s, add_t, add_l, addO_l, sub_i, mul_i, mul_t, mul_l, mulO_l, lt_i, le_i, gt_i, ge_i, is_n, isnot_n, is_b, is_bf, isnot_b, isnot_bf, eq_i, eq_s, eq_b, eq_t, eq_l, eqO_l, eqO_ll, ne_i, ne_s, ne_b, ne_t, ne_l, neO_l, neO_ll, ix_t, ix_c, ix_r, ixO_l, ixO_k, ixO_lk, ixO_n, ixO_ln, in_t, in_r, nin_t, nin_r, inO_l, inO_k, inO_lk, inO_n, inO_ln, wkey_i, wkey_s, sl_t, sl_c, sl_r, slO_l, len_t, len_c, len_s, len_r, lenO_l, abs_i, max_i, min_i, int_i, int_b, tup_t, tup_r, tuO_l, lst_t, lst_c, lst_r, lsO_l, set_r, seO_l, seO_k, seO_n, app_r, apO_l, ext_r, exO_l, pop_z, pop_i, poZ_l, poO_l, neg_i,
  ↓s_dispK, dkS_i, dkS_s, dkF_r, iadd_i, iadd_s, r2I_i, wst1, wst2, wst3, wst4, wst5, obOf, isN, rdl_l, put_same, put_put, Option.isSome_some, true_and, and_true, decide_true, decide_false, Option.bind_some, atI_0, atI_1, atI_2, atI_3, atI_4, atI_m1, atI_m2, atI_m3, atI_m4, atI_m5, cut_1, List.map_cons, List.map_nil, List.cons_append, List.nil_append, List.getElem?_cons_zero, List.getElem?_cons_succ, List.length_cons, List.length_nil, List.length_map, List.isEmpty_cons, List.isEmpty_nil, List.set_cons_zero, List.set_cons_succ, List.replicate, Nat.reduceAdd, Nat.reduceSub, Nat.reduceLeDiff, Int.reduceNeg, le_line, lt_line, Bool.not_true, Bool.not_false])
local macro_rules | `(tactic| walk_at "pvh") => `(tactic| try simp only [↓s_seq, ↓s_next, ↓s_ret, ↓s_retN, ↓s_drop, ↓s_set, ↓s_ifS, ↓s_asg, ↓s_gname, ↓s_gnil, ↓s_gcons, ↓s_gtup, tg1_t, ↓s_gsub, ↓s_par, par2_e, ↓s_aug, ↓s_var, ov_some, ↓s_c, ↓s_op, ↓s_un, ↓s_B, ↓s_chain, ↓s_and, ↓s_or, ↓s_not, ↓s_andV, ↓s_orV, ↓s_notV, ↓s_if, ↓s_nil, ↓s_cons, ↓s_tup, ↓s_lst, ↓s_call, ↓s_fn, ↓s_isi, ↓s_mt, ↓s_mt0, ↓s_sl, ↓s_part, ↓s_nopart, ↓s_newK, ↓s_newN, ↓s_yes, wWipe, ↓s_for, ↓s_seqI, ↓s_rng1, ↓s_rng2, ↓s_lc,
  brn_t, brn_f, gt_some, onB_b, itS_tup, itS_cl, itS_ref, rgO_i, rgT_i, prt_i, mtS_r, mtZ_r,
  isQ_int_non, isQ_int_bl, isQ_int_int, isQ_int_str, isQ_int_tup, isQ_int_l, isQ_int_k, isQ_bool_non, isQ_bool_bl, isQ_bool_int, isQ_bool_str, isQ_bool_tup, isQ_bool_l, isQ_bool_k, isQ_str_non, isQ_str_bl, isQ_str_int, isQ_str_str, isQ_str_tup, isQ_str_l, isQ_str_k, isQ_tuple_non, isQ_tuple_bl, isQ_tuple_int, isQ_tuple_str, isQ_tuple_tup, isQ_tuple_l, isQ_tuple_k, isQ_list_non, isQ_list_bl, isQ_list_int, isQ_list_str, isQ_list_tup, isQ_list_l, isQ_list_k, isQ_dict_non, isQ_dict_bl, isQ_dict_int, isQ_dict_str, isQ_dict_tup, isQ_dict_l, isQ_dict_k,
  add_i, add_s, add_t, add_l, addO_l, sub_i, mul_i, mul_t, mul_l, mulO_l, lt_i, le_i, gt_i, ge_i, is_n, isnot_n, is_b, is_bf, isnot_b, isnot_bf, eq_i, eq_s, eq_b, eq_t, eq_l, eqO_l, eqO_ll, ne_i, ne_s, ne_b, ne_t, ne_l, neO_l, neO_ll, ix_t, ix_c, ix_r, ixO_l, ixO_k, ixO_lk, ixO_n, ixO_ln, in_t, in_r, nin_t, nin_r, inO_l, inO_k, inO_lk, inO_n, inO_ln, wkey_i, wkey_s, sl_t, sl_c, sl_r, slO_l, len_t, len_c, len_s, len_r, lenO_l, abs_i, max_i, min_i, int_i, int_b, tup_t, tup_r, tuO_l, lst_t, lst_c, lst_r, lsO_l, set_r, seO_l, seO_k, seO_n, app_r, apO_l, ext_r, exO_l, pop_z, pop_i, poZ_l, poO_l, neg_i,
  ↓s_dispK, dkS_i, dkS_s, dkF_r, iadd_i, iadd_s, r2I_i, wst1, wst2, wst3, wst4, wst5, obOf, isN, rdl_l, put_same, put_put, Option.isSome_some, true_and, and_true, decide_true, decide_false, Option.bind_some, atI_0, atI_1, atI_2, atI_3, atI_4, atI_m1, atI_m2, atI_m3, atI_m4, atI_m5, cut_1, List.map_cons, List.map_nil, List.cons_append, List.nil_append, List.getElem?_cons_zero, List.getElem?_cons_succ, List.length_cons, List.length_nil, List.length_map, List.isEmpty_cons, List.isEmpty_nil, List.set_cons_zero, List.set_cons_succ, List.replicate, Nat.reduceAdd, Nat.reduceSub, Nat.reduceLeDiff, Int.reduceNeg, le_line, lt_line, Bool.not_true, Bool.not_false, put_ne1, put_ne2, *])
theorem flts_ints {o : List Int} : flts (o.map W.int) = true := by unfold flts; rw [nrs_ints, dps_ints]; rfl
theorem weqs_ints {o : List Int} : weqs (o.map W.int) (o.map W.int) = true := by
  unfold weqs
  rw [pds_ints]
  exact PySem.W.eqvAll_refl_alike _ (PySem.W.alike_ints _ _)
section
variable {M : Me} {Q : WK} {tg : Tg Q} {o : List Int}
theorem neO_same (k : Q (.bl false) M) : lz (neO (some (.lst (o.map W.int))) (some (.lst (o.map W.int))) M) Q tg := by
  cases o with
  | nil => rw [List.map_nil, neO_l]; exact k
  | cons x o =>
    rw [List.map_cons, neO_ll, ← List.map_cons, flts_ints, weqs_ints]
    exact ⟨rfl, k⟩
theorem eqO_same (k : Q (.bl true) M) : lz (eqO (some (.lst (o.map W.int))) (some (.lst (o.map W.int))) M) Q tg := by
  cases o with
  | nil => rw [List.map_nil, eqO_l]; exact k
  | cons x o =>
    rw [List.map_cons, eqO_ll, ← List.map_cons, flts_ints, weqs_ints]
    exact ⟨rfl, k⟩
theorem flt_pair {m : Int} {c : Cell} : flt (.tup [.int m, cW c]) = true := by
  have d : dp (.tup [.int m, cW c]) = 3 := by unfold dp; simp [dps, dp, dp_cW]
  unfold flt; rw [d]
  have n : nr (.tup [.int m, cW c]) = true := by unfold nr; simp [nrs, nr, nr_cW]
  rw [n]; rfl
theorem weq_pair {m : Int} {c : Cell} : weq (.tup [.int m, cW c]) (.tup [.int m, cW c]) = true := by
  unfold weq
  apply PySem.W.eqv_refl_alike
  have := alike_cW (c := c) (e := c)
  simp [pd, pds, PySem.W.alike, PySem.W.alikeAll, this]
end
theorem rep_map {n : Nat} {o : List Int} : (List.replicate n (o.map W.int)).flatten = ((List.replicate n o).flatten).map W.int := by
  rw [List.map_flatten, List.map_replicate]
theorem rep_01 {n : Nat} {o : List Int} (h : ∀ w ∈ o, w = 0 ∨ w = 1) : ∀ w ∈ (List.replicate n o).flatten, w = 0 ∨ w = 1 := fun w hw => by
  obtain ⟨l, h1, h2⟩ := List.mem_flatten.mp hw
  rw [(List.mem_replicate.mp h1).2] at h2
  exact h w h2
end PV
set_option maxHeartbeats 1000000
/-! the best is the least -/
namespace PV
open PySem PySem.Spec PyProof.Rows L2
theorem ltW_trans {a b c : W} (h1 : ltW a b = true) (h2 : ltW b c = true) : ltW a c = true := PyProof.Rows.lex_trans _ _ _ h1 h2
theorem ltW_irr {a : W} : ltW a a = false := PyProof.Rows.lex_irrefl _
theorem pd_told {ways : List Int} {m : Nat} {c : Cell} : pd (toldW ways m c) = .tuple [.int (missN c ways), .int m, pd (cW c)] := by unfold toldW; simp [pd, pds]
theorem ltW_told {ways : List Int} {m m' : Nat} {c c' : Cell} : (ltW (toldW ways m c) (toldW ways m' c') = true → missN c ways ≤ missN c' ways) ∧ (ltW (toldW ways m c) (toldW ways m' c') = false → missN c' ways ≤ missN c ways) := by
  unfold ltW
  rw [pd_told, pd_told, PySem.W.dataLt_tuple, PySem.W.dataLt_cons (by simp [PySem.W.alike]), PySem.W.dataLt_int]
  simp only [PyData.eqv, beq_iff_eq]
  by_cases h : missN c ways = missN c' ways
  · rw [if_pos h]
    exact ⟨fun _ => by omega, fun _ => by omega⟩
  · rw [if_neg h, decide_eq_true_eq, decide_eq_false_iff_not]
    exact ⟨fun _ => by omega, fun _ => by omega⟩
def NotLess (b : Option W) (t' : W) : Prop := ∃ t, b = some t ∧ ltW t' t = false
section
variable {ways : List Int} {m : Nat} {b : Option W} {c : Cell} {t' : W}
theorem NotLess.upd (h : NotLess b t') : NotLess (updB ways m b c) t' := by
  obtain ⟨t, rfl, h⟩ := h
  show NotLess (if ltW (toldW ways m c) t = true then some (toldW ways m c) else some t) t'
  by_cases hl : ltW (toldW ways m c) t = true
  · rw [if_pos hl]
    refine ⟨_, rfl, ?_⟩
    cases e : ltW t' (toldW ways m c) with
    | false => rfl
    | true => rw [ltW_trans e hl] at h; cases h
  · rw [if_neg hl]; exact ⟨t, rfl, h⟩
theorem NotLess.self : NotLess (updB ways m b c) (toldW ways m c) := by
  unfold updB
  split
  · exact ⟨_, rfl, ltW_irr⟩
  · rename_i t
    by_cases hl : ltW (toldW ways m c) t = true
    · rw [if_pos hl]; exact ⟨_, rfl, ltW_irr⟩
    · rw [if_neg hl]; exact ⟨_, rfl, by simpa using hl⟩
theorem NotLess.fold : ∀ (cs : List Cell) (b : Option W), NotLess b t' → NotLess (cs.foldl (updB ways m) b) t'
  | [], _, h => h
  | _ :: cs, _, h => NotLess.fold cs _ h.upd
theorem fold_seen : ∀ (cs : List Cell) (b : Option W) (c : Cell), c ∈ cs → NotLess (cs.foldl (updB ways m) b) (toldW ways m c)
  | x :: cs, b, c, h => by
    rcases List.mem_cons.mp h with rfl | h
    · exact NotLess.fold cs _ .self
    · exact fold_seen cs _ c h
theorem best_seen : ∀ (i : Nat), 1 ≤ m → m ≤ i → c ∈ (allC m (2 ^ m)).filter plainB → NotLess (bestM ways i) (toldW ways m c)
  | 0, h1, h2, _ => by omega
  | i + 1, h1, h2, h => by
    by_cases e : m = i + 1
    · subst e; exact fold_seen _ _ c h
    · exact NotLess.fold _ _ (best_seen i h1 (by omega) h)
end
theorem all_in {L : Nat} {p : Cell} (h : CellOk L p) : p ∈ allC L (2 ^ L) := by
  obtain ⟨N1, h1, e1⟩ := figs_all (base := 2) (by decide) p.1 (fun x hx => h.g x hx)
  obtain ⟨N2, h2, e2⟩ := figs_all (base := L) h.pos (p.2.1 ++ p.2.2) (fun x hx => by
    rcases List.mem_append.mp hx with hx | hx
    · exact h.s x hx
    · exact h.a x hx)
  rw [h.l1] at h1 e1
  rw [List.length_append, h.l2, h.l3, ← Nat.two_mul] at h2 e2
  refine List.mem_flatMap.mpr ⟨N1, List.mem_range.mpr h1, List.mem_map.mpr ⟨N2, List.mem_range.mpr h2, ?_⟩⟩
  unfold cellAt
  rw [e2, show figs (N1 : Int) 2 L = p.1 from e1, List.take_left' h.l2, List.drop_left' h.l2]
theorem best_min {ways : List Int} {i L : Nat} {p : Cell} (h : CellOk L p) (hp : plC p 0 = p) (hL : L ≤ i) : NotLess (bestM ways i) (toldW ways L p) :=
  best_seen i h.pos hL (List.mem_filter.mpr ⟨all_in h, by unfold plainB; rw [hp]; exact weq_cW⟩)
/-- a told one, plain, of no more than i states -/
def IsT2 (ways : List Int) (i : Nat) (b : Option W) : Prop := ∀ t, b = some t → ∃ (m : Nat) (c : Cell), t = toldW ways m c ∧ CellOk m c ∧ m ≤ i ∧ plainB c = true
theorem updB_T2 {ways : List Int} {m i : Nat} {b : Option W} {c : Cell} (h : IsT2 ways i b) (hc : CellOk m c) (hm : m ≤ i) (hp : plainB c = true) : IsT2 ways i (updB ways m b c) := fun t e => by
  unfold updB at e
  split at e
  · cases e; exact ⟨m, c, rfl, hc, hm, hp⟩
  · split at e
    · cases e; exact ⟨m, c, rfl, hc, hm, hp⟩
    · exact h t e
theorem foldB_T2 {ways : List Int} {m i : Nat} (hm : m ≤ i) : ∀ (cs : List Cell) (b : Option W), IsT2 ways i b → (∀ c ∈ cs, CellOk m c ∧ plainB c = true) → IsT2 ways i (cs.foldl (updB ways m) b)
  | [], _, h, _ => h
  | c :: cs, b, h, hc => foldB_T2 hm cs _ (updB_T2 h (hc c (.head _)).1 hm (hc c (.head _)).2) fun x hx => hc x (.tail _ hx)
theorem bestM_T2 {ways : List Int} : ∀ i, IsT2 ways i (bestM ways i)
  | 0 => fun t e => nomatch e
  | i + 1 => foldB_T2 (Nat.le_refl _) _ _ (fun t e => by
      obtain ⟨m, c, h1, h2, h3, h4⟩ := bestM_T2 i t e
      exact ⟨m, c, h1, h2, by omega, h4⟩) fun c hc => ⟨allC_mem (by omega) c (List.mem_filter.mp hc).1, (List.mem_filter.mp hc).2⟩
/-- any cell misses as often as the best, or oftener -/
theorem best_le {ways : List Int} {i n m : Nat} {e c : Cell} (he : CellOk n e) (hn : n ≤ i) (hb : bestM ways i = some (toldW ways m c)) : missN c ways ≤ missN e ways := by
  obtain ⟨o, ho⟩ := endO he (f := 0) (by decide) (by have := he.pos; omega)
  have hl := nodup_le ho.1.nd ho.1.bd
  obtain ⟨t, et, lt⟩ := best_min (ways := ways) (plC_ok ho he) (plC_pl ho he) (Nat.le_trans hl hn)
  rw [hb] at et
  cases et
  have := ltW_told.2 lt
  rw [missN_pl ho he] at this
  exact this
theorem toldW_inj {ways : List Int} {m m' : Nat} {c c' : Cell} (h : toldW ways m c = toldW ways m' c') : m = m' ∧ c = c' := by
  unfold toldW cW iT at h
  simp only [W.tup.injEq, List.cons.injEq, W.int.injEq, and_true] at h
  obtain ⟨_, h0, h1, h2, h3⟩ := h
  have inj : ∀ a b : List Int, a.map W.int = b.map W.int → a = b := fun a b h => List.map_inj_right (fun _ _ h => W.int.inj h) |>.mp h
  exact ⟨by omega, Prod.ext (inj _ _ h1) (Prod.ext (inj _ _ h2) (inj _ _ h3))⟩
/-! the other way about -/
def flipC (c : Cell) : Cell := (c.1.map (1 - ·), c.2.2, c.2.1)
theorem flipC_ok {n : Nat} {c : Cell} (h : CellOk n c) : CellOk n (flipC c) := ⟨by simp [flipC, h.l1], h.l3, h.l2, h.pos, fun x hx => by
  obtain ⟨y, hy, rfl⟩ := List.mem_map.mp hx
  have := h.g y hy
  omega, h.a, h.s⟩
theorem ga_flip {n : Nat} {c : Cell} (h : CellOk n c) {x : Int} (h0 : 0 ≤ x) (h1 : x < n) : ga (flipC c).1 x = 1 - ga c.1 x := by
  have hl : x.toNat < c.1.length := by rw [h.l1]; omega
  unfold ga flipC
  rw [List.getD_eq_getElem?_getD, List.getD_eq_getElem?_getD, List.getElem?_map, List.getElem?_eq_getElem hl]
  rfl
theorem miss_flip {n : Nat} {c : Cell} (h : CellOk n c) : ∀ (ws : List Int) (x m : Int), 0 ≤ x → x < n → (∀ w ∈ ws, w = 0 ∨ w = 1) → missC (flipC c) (ws.map (1 - ·)) (x, m) = missC c ws (x, m)
  | [], _, _, _, _, _ => rfl
  | w :: ws, x, m, h0, h1, hw => by
    show missC (flipC c) (ws.map (1 - ·)) (nextC (flipC c) x (1 - w), m + b2i (!decide (ga (flipC c).1 x = 1 - w))) = missC c ws (nextC c x w, m + b2i (!decide (ga c.1 x = w)))
    have e1 : decide (ga (flipC c).1 x = 1 - w) = decide (ga c.1 x = w) := by
      rw [ga_flip h h0 h1]
      exact decide_eq_decide.mpr ⟨fun z => by omega, fun z => by omega⟩
    have e2 : nextC (flipC c) x (1 - w) = nextC c x w := by
      rcases hw w (.head _) with rfl | rfl
      · rfl
      · rfl
    rw [e1, e2]
    have ok := nextC_ok (w := w) h h0 h1
    exact miss_flip h ws _ _ ok.1 ok.2 fun y hy => hw y (.tail _ hy)
theorem missN_flip {n : Nat} {c : Cell} (h : CellOk n c) {ws : List Int} (hw : ∀ w ∈ ws, w = 0 ∨ w = 1) : missN (flipC c) (ws.map (1 - ·)) = missN c ws := by
  unfold missN
  rw [miss_flip h ws 0 0 (by decide) (by have := h.pos; omega) hw]
theorem flip_flip {ws : List Int} : (ws.map (1 - ·)).map (1 - ·) = ws := by
  rw [List.map_map]
  conv => rhs; rw [← List.map_id ws]
  exact List.map_congr_left fun x _ => by show 1 - (1 - x) = id x; simp; omega
theorem flip_01 {ws : List Int} (hw : ∀ w ∈ ws, w = 0 ∨ w = 1) : ∀ w ∈ ws.map (1 - ·), w = 0 ∨ w = 1 := fun w h => by
  obtain ⟨y, hy, rfl⟩ := List.mem_map.mp h
  have := hw y hy
  omega
theorem best_flip {ws : List Int} {i m m' : Nat} {c c' : Cell} (hw : ∀ w ∈ ws, w = 0 ∨ w = 1) (h1 : bestM ws i = some (toldW ws m c)) (h2 : bestM (ws.map (1 - ·)) i = some (toldW (ws.map (1 - ·)) m' c')) : missN c' (ws.map (1 - ·)) = missN c ws := by
  obtain ⟨m1, c1, e1, ok1, l1, _⟩ := bestM_T2 i _ h1
  obtain ⟨rfl, rfl⟩ := toldW_inj e1
  obtain ⟨m2, c2, e2, ok2, l2, _⟩ := bestM_T2 i _ h2
  obtain ⟨rfl, rfl⟩ := toldW_inj e2
  have a := best_le (flipC_ok ok1) l1 h2
  rw [missN_flip ok1 hw] at a
  have b := best_le (flipC_ok ok2) l2 h1
  have e := missN_flip ok2 (flip_01 hw)
  rw [flip_flip] at e
  omega
end PV
set_option maxHeartbeats 4000000
namespace PV
open PySem PySem.Spec PyProof.Rows L2
local macro_rules | `(tactic| walk_at "pv") => `(tactic| try simp only [↓s_seq, ↓s_next, ↓s_ret, ↓s_retN, ↓s_drop, ↓s_set, ↓s_ifS, ↓s_asg, ↓s_gname, ↓s_gnil, ↓s_gcons, ↓s_gtup, tg1_t, ↓s_gsub, ↓s_par, par2_e, ↓s_aug, ↓s_var, ov_some, ↓s_c, ↓s_op, ↓s_un, ↓s_B, ↓s_chain, ↓s_and, ↓s_or, ↓s_not, ↓s_andV, ↓s_orV, ↓s_notV, ↓s_if, ↓s_nil, ↓s_cons, ↓s_tup, ↓s_lst, ↓s_call, ↓s_fn, ↓s_isi, ↓s_mt, ↓s_mt0, ↓s_sl, ↓s_part, ↓s_nopart, ↓s_newK, ↓s_newN, ↓s_yes, wWipe, ↓s_for, ↓s_seqI, ↓s_rng1, ↓s_rng2, ↓s_lc,
  brn_t, brn_f, gt_some, onB_b, itS_tup, itS_cl, itS_ref, rgO_i, rgT_i, prt_i, mtS_r, mtZ_r,
  isQ_int_non, isQ_int_bl, isQ_int_int, isQ_int_str, isQ_int_tup, isQ_int_l, isQ_int_k, isQ_bool_non, isQ_bool_bl, isQ_bool_int, isQ_bool_str, isQ_bool_tup, isQ_bool_l, isQ_bool_k, isQ_str_non, isQ_str_bl, isQ_str_int, isQ_str_str, isQ_str_tup, isQ_str_l, isQ_str_k, isQ_tuple_non, isQ_tuple_bl, isQ_tuple_int, isQ_tuple_str, isQ_tuple_tup, isQ_tuple_l, isQ_tuple_k, isQ_list_non, isQ_list_bl, isQ_list_int, isQ_list_str, isQ_list_tup, isQ_list_l, isQ_list_k, isQ_dict_non, isQ_dict_bl, isQ_dict_int, isQ_dict_str, isQ_dict_tup, isQ_dict_l, isQ_dict_k,
  add_i, add_s, add_t, add_l, addO_l, sub_i, mul_i, mul_t, mul_l, mulO_l, lt_i, le_i, gt_i, ge_i, is_n, isnot_n, is_b, is_bf, isnot_b, isnot_bf, eq_i, eq_s, eq_b, eq_t, eq_l, eqO_l, eqO_ll, ne_i, ne_s, ne_b, ne_t, ne_l, neO_l, neO_ll, ix_t, ix_c, ix_r, ixO_l, ixO_k, ixO_lk, ixO_n, ixO_ln, in_t, in_r, nin_t, nin_r, inO_l, inO_k, inO_lk, inO_n, inO_ln, wkey_i, wkey_s, sl_t, sl_c, sl_r, slO_l, len_t, len_c, len_s, len_r, lenO_l, abs_i, max_i, min_i, int_i, int_b, tup_t, tup_r, tuO_l, lst_t, lst_c, lst_r, lsO_l, set_r, seO_l, seO_k, seO_n, app_r, apO_l, ext_r, exO_l, pop_z, pop_i, poZ_l, poO_l, neg_i,
  ↓s_dispK, dkS_i, dkS_s, dkF_r, iadd_i, iadd_s, r2I_i, wst1, wst2, wst3, wst4, wst5, obOf, isN, rdl_l, put_same, put_put, Option.isSome_some, true_and, and_true, decide_true, decide_false, Option.bind_some, atI_0, atI_1, atI_2, atI_3, atI_4, atI_m1, atI_m2, atI_m3, atI_m4, atI_m5, cut_1, List.map_cons, List.map_nil, List.cons_append, List.nil_append, List.getElem?_cons_zero, List.getElem?_cons_succ, List.length_cons, List.length_nil, List.length_map, List.isEmpty_cons, List.isEmpty_nil, List.set_cons_zero, List.set_cons_succ, List.replicate, Nat.reduceAdd, Nat.reduceSub, Nat.reduceLeDiff, Int.reduceNeg, le_line, lt_line, Bool.not_true, Bool.not_false])
local macro_rules | `(tactic| walk_at "pvh") => `(tactic| try simp only [↓s_seq, ↓s_next, ↓s_ret, ↓s_retN, ↓s_drop, ↓s_set, ↓s_ifS, ↓s_asg, ↓s_gname, ↓s_gnil, ↓s_gcons, ↓s_gtup, tg1_t, ↓s_gsub, ↓s_par, par2_e, ↓s_aug, ↓s_var, ov_some, ↓s_c, ↓s_op, ↓s_un, ↓s_B, ↓s_chain, ↓s_and, ↓s_or, ↓s_not, ↓s_andV, ↓s_orV, ↓s_notV, ↓s_if, ↓s_nil, ↓s_cons, ↓s_tup, ↓s_lst, ↓s_call, ↓s_fn, ↓s_isi, ↓s_mt, ↓s_mt0, ↓s_sl, ↓s_part, ↓s_nopart, ↓s_newK, ↓s_newN, ↓s_yes, wWipe, ↓s_for, ↓s_seqI, ↓s_rng1, ↓s_rng2, ↓s_lc,
  brn_t, brn_f, gt_some, onB_b, itS_tup, itS_cl, itS_ref, rgO_i, rgT_i, prt_i, mtS_r, mtZ_r,
  isQ_int_non, isQ_int_bl, isQ_int_int, isQ_int_str, isQ_int_tup, isQ_int_l, isQ_int_k, isQ_bool_non, isQ_bool_bl, isQ_bool_int, isQ_bool_str, isQ_bool_tup, isQ_bool_l, isQ_bool_k, isQ_str_non, isQ_str_bl, isQ_str_int, isQ_str_str, isQ_str_tup, isQ_str_l, isQ_str_k, isQ_tuple_non, isQ_tuple_bl, isQ_tuple_int, isQ_tuple_str, isQ_tuple_tup, isQ_tuple_l, isQ_tuple_k, isQ_list_non, isQ_list_bl, isQ_list_int, isQ_list_str, isQ_list_tup, isQ_list_l, isQ_list_k, isQ_dict_non, isQ_dict_bl, isQ_dict_int, isQ_dict_str, isQ_dict_tup, isQ_dict_l, isQ_dict_k,
  add_i, add_s, add_t, add_l, addO_l, sub_i, mul_i, mul_t, mul_l, mulO_l, lt_i, le_i, gt_i, ge_i, is_n, isnot_n, is_b, is_bf, isnot_b, isnot_bf, eq_i, eq_s, eq_b, eq_t, eq_l, eqO_l, eqO_ll, ne_i, ne_s, ne_b, ne_t, ne_l, neO_l, neO_ll, ix_t, ix_c, ix_r, ixO_l, ixO_k, ixO_lk, ixO_n, ixO_ln, in_t, in_r, nin_t, nin_r, inO_l, inO_k, inO_lk, inO_n, inO_ln, wkey_i, wkey_s, sl_t, sl_c, sl_r, slO_l, len_t, len_c, len_s, len_r, lenO_l, abs_i, max_i, min_i, int_i, int_b, tup_t, tup_r, tuO_l, lst_t, lst_c, lst_r, lsO_l, set_r, seO_l, seO_k, seO_n, app_r, apO_l, ext_r, exO_l, pop_z, pop_i, poZ_l, poO_l, neg_i,
  ↓s_dispK, dkS_i, dkS_s, dkF_r, iadd_i, iadd_s, r2I_i, wst1, wst2, wst3, wst4, wst5, obOf, isN, rdl_l, put_same, put_put, Option.isSome_some, true_and, and_true, decide_true, decide_false, Option.bind_some, atI_0, atI_1, atI_2, atI_3, atI_4, atI_m1, atI_m2, atI_m3, atI_m4, atI_m5, cut_1, List.map_cons, List.map_nil, List.cons_append, List.nil_append, List.getElem?_cons_zero, List.getElem?_cons_succ, List.length_cons, List.length_nil, List.length_map, List.isEmpty_cons, List.isEmpty_nil, List.set_cons_zero, List.set_cons_succ, List.replicate, Nat.reduceAdd, Nat.reduceSub, Nat.reduceLeDiff, Int.reduceNeg, le_line, lt_line, Bool.not_true, Bool.not_false, put_ne1, put_ne2, *])
section
variable {M : Me} {Q : WK} {c : Cell}
theorem ixc0 {tg : Tg Q} (k : Q (iT c.1) M) : lz (rIx2 (cW c) (.int 0) M) Q tg := by unfold cW; rw [ix_t, atI_0, gt_some]; exact k
theorem ixc1 {tg : Tg Q} (k : Q (iT c.2.1) M) : lz (rIx2 (cW c) (.int 1) M) Q tg := by unfold cW; rw [ix_t, atI_1, gt_some]; exact k
theorem ixc2 {tg : Tg Q} (k : Q (iT c.2.2) M) : lz (rIx2 (cW c) (.int 2) M) Q tg := by unfold cW; rw [ix_t, atI_2, gt_some]; exact k
end
theorem mem_cut {xs : List W} {lo hi : Option Int} {w : W} (h : w ∈ cutW xs lo hi) : w ∈ xs := List.mem_of_mem_drop (List.mem_of_mem_take h)
theorem int_of {ns : List Int} {w : W} (h : w ∈ ns.map W.int) : ∃ z, w = .int z := by
  obtain ⟨z, _, rfl⟩ := List.mem_map.mp h
  exact ⟨z, rfl⟩
def sp_ways : PSp := fun ws M Q _ => match ws with
  | [.cl xs] => (∃ ns : List Int, xs = ns.map W.int) ∧ xs.length ≤ 63 ∧ ∀ p (ways : List Int) M', M p = none → Sub M M' → M' p = some (.lst (ways.map W.int)) → (∀ w ∈ ways, w = 0 ∨ w = 1) → ways.length ≤ 63 → Q (.ref p) M'
  | _ => False
theorem snoc_01 {ws : List Int} {w : Int} (h : ∀ w ∈ ws, w = 0 ∨ w = 1) (hw : w = 0 ∨ w = 1) : ∀ x ∈ ws ++ [w], x = 0 ∨ x = 1 := fun x hx => by
  rcases List.mem_append.mp hx with hx | hx
  · exact h x hx
  · rw [List.mem_singleton.mp hx]; exact hw
theorem rd_ways (ws M Q E) (h : sp_ways ws M Q E) : t_l_ways sp_deck sp_cell_at sp_dtake sp_dcell (wEnd Q) (wStart ["script", "deck", "kind", "cell", "size", "k", "around", "wrong", "state", "ways", "way"] ws) M := by
  unfold sp_ways at h
  split at h
  · obtain ⟨⟨ns, rfl⟩, hl, q⟩ := h
    rw [wst1]
    unfold t_l_ways
    walk_at "pv"
    refine ⟨ns, rfl, by decide, ?_⟩
    walk_at "pv"
    refine fun d da db M1 hd s1 ed => ?_
    have k := (Kp.start0 (M := M)).come s1 hd ed
    walk_at "pv"
    refine k.deck_go (by decide) (by decide) (by decide) (by decide) fun kind a1 c1 M2 k0 k1 h0 h1 k => ?_
    walk_at "pv"
    refine brn_dec (fun hk => ?_) (fun hk => ?_)
    · walk_at "pv"
      refine k.fresh_go fun l M3 k _ => ?_
      walk_at "pv"
      have hcl := cut_len (xs := ns.map W.int) (lo := some 1) (hi := some 61)
      refine ⟨by rw [k.g0]; rfl, lc_l (a := l) (ws := cutW (ns.map W.int) (some 1) (some 61)) (by omega) (fun i acc M' => ∃ xs : List Int, acc = xs.map W.int ∧ xs.length = i ∧ (∀ w ∈ xs, w = 0 ∨ w = 1) ∧ Kp none [(l, .lst (cutW (ns.map W.int) (some 1) (some 61)))] M M') ⟨[], rfl, rfl, (fun x h => nomatch h), k.tail2⟩ (fun i acc M' ⟨_, _, _, _, k⟩ => k.g0) ?_ ?_⟩
      · clear k
        rintro i acc w M4 hw ⟨xs, rfl, hx, h01, k⟩
        obtain ⟨z, rfl⟩ := int_of (mem_cut (List.mem_of_getElem? hw))
        walk_at "pv"
        refine fun d2 da db M5 hd s5 ed => ?_
        have k := k.come s5 hd ed
        walk_at "pv"
        refine k.deck_go (by decide) (by decide) (by decide) (by decide) fun r a1 c1 M6 r0 r1 h0 h1 k => ?_
        exact ⟨_, Sub.refl _, xs ++ [r], map_snoc, by rw [List.length_append, hx]; rfl, snoc_01 h01 (by omega), k.tail⟩
      · rintro acc M4 ⟨xs, rfl, hx, h01, k⟩ p hp
        have k := k.new (o := .lst (xs.map W.int)) hp
        exact ⟨_, Sub.refl _, q p xs _ k.f0 k.sub k.g0 h01 (by rw [List.length_map] at hl; rw [hx]; rw [List.length_map] at hcl; omega)⟩
    · walk_at "pv"
      refine k.deck_go h0 (by omega) (by decide) (by decide) fun size a2 c2 M3 z0 z1 h2 h3 k => ?_
      walk_at "pv"
      refine brn_dec (fun hk => ?_) (fun hk => ?_)
      · walk_at "pv"
        refine k.deck_go h2 (by omega) (by decide) (by decide) fun r a3 c3 M4 r0 r1 h4 h5 k => ?_
        walk_at "pv"
        refine ⟨rgB_of (by omega) (by omega), lc_deck k h4 (by omega) (m := 2) (by decide) (by decide) (by omega) (by omega) (fun w M' R h => ?_) fun gs a4 c4 q4 M5 l4 hg h6 h7 k => ?_⟩
        · walk_at "pv"
          exact h
        walk_at "pv"
        refine ⟨rgB_of (by omega) (by omega), lc_c (by rw [rngW_len]; omega) (fun i acc M' => M' = M5 ∧ ∃ xs : List Int, acc = xs.map W.int ∧ xs.length = i ∧ ∀ w ∈ xs, w = 0 ∨ w = 1) ⟨rfl, [], rfl, rfl, fun x h => nomatch h⟩ ?_ ?_⟩
        · rintro i acc w M6 hw ⟨rfl, xs, rfl, hx, h01⟩
          obtain ⟨rfl, hi⟩ := rngW_get hw
          walk_at "pv"
          rw [k.g0]
          walk_at "pv"
          refine mod_any (by omega) fun r2 r20 r21 => ?_
          walk_at "pv"
          rw [k.g0]
          walk_at "pv"
          refine gt_of (at_ga r20 r21) ?_
          have := hg _ (ga_mem r20 r21)
          exact ⟨_, Sub.refl _, rfl, xs ++ [_], map_snoc, by rw [List.length_append, hx]; rfl, snoc_01 h01 (by omega)⟩
        · rintro acc M6 ⟨rfl, xs, rfl, hx, h01⟩ p hp
          rw [rngW_len] at hx
          have k := k.new (o := .lst (xs.map W.int)) hp
          exact ⟨_, Sub.refl _, q p xs _ k.f0 k.sub k.g0 h01 (by omega)⟩
      · walk_at "pv"
        refine ⟨a2, 1 * db, c2, by rw [Int.one_mul]; exact k.g0, h2, by omega, by decide, by decide, fun n cell a3 c3 ok hn h4 h5 => ?_⟩
        rw [Int.one_mul]
        have k := k.set (o' := dkO a3 db c3)
        generalize put M3 d (dkO a3 db c3) = M4 at k
        walk_at "pv"
        refine k.deck_go h4 (by omega) (by decide) (by decide) fun wr a4 c4 M5 w0 w1 h6 h7 k => ?_
        walk_at "pv"
        refine k.fresh_go fun p M6 k _ => ?_
        have k := k.tail2
        have hpos := ok.pos
        walk_at "pv"
        refine ⟨rgB_of (by omega) (by omega), for_r (fun i ρ M' => ∃ (xs : List Int) (st : Int) (x y : Option W), xs.length = i ∧ (∀ w ∈ xs, w = 0 ∨ w = 1) ∧ 0 ≤ st ∧ st < n ∧ Kp none [(p, .lst (xs.map W.int))] M M' ∧
          ρ = [some (.cl (ns.map W.int)), some (.ref d), some (.int kind), some (cW cell), some (.int size), x, none, some (.int (2 + wr)), some (.int st), some (.ref p), y]) ⟨[], 0, _, _, rfl, (fun x h => nomatch h), by decide, by omega, k, rfl⟩ ?_ ?_⟩
        · clear k
          rintro i ρ M7 hi ⟨xs, st, x, y, hx, h01, s0, s1, k, rfl⟩
          walk_at "pv"
          refine ixc0 ?_
          walk_at "pv"
          refine gt_of (ok.ag s0 s1) ?_
          have hgw := ok.g _ (ga_mem s0 (by rw [ok.l1]; exact s1))
          walk_at "pv"
          refine mod_go (by omega) ?_
          walk_at "pv"
          have fin : ∀ way : Int, way = 0 ∨ way = 1 → wSeq (wDrop (wMt rApp (wVar 9) (wCons (wVar 10) wNil))) (wSet 8 (wOp rIx2 (wOp rIx2 (wVar 3) (wOp rAdd2 (wC (.int 1)) (wVar 10))) (wVar 8))) (nxt { nx := wRet (wVar 9) (wEnd Q), rt := (wEnd Q).rt, bk := (wEnd Q).bk, ct := (wEnd Q).ct } fun ρ M' => ∃ (xs : List Int) (st : Int) (x y : Option W), xs.length = i + 1 ∧ (∀ w ∈ xs, w = 0 ∨ w = 1) ∧ 0 ≤ st ∧ st < n ∧ Kp none [(p, .lst (xs.map W.int))] M M' ∧
          ρ = [some (.cl (ns.map W.int)), some (.ref d), some (.int kind), some (cW cell), some (.int size), x, none, some (.int (2 + wr)), some (.int st), some (.ref p), y])
            [some (.cl (ns.map W.int)), some (.ref d), some (.int kind), some (cW cell), some (.int size), some (.int (0 + (i : Int))), none, some (.int (2 + wr)), some (.int st), some (.ref p), some (.int way)] M7 := by
            intro way hway
            walk_at "pv"
            refine ⟨by rw [k.g0]; rfl, ?_⟩
            rw [k.g0]
            walk_at "pv"
            refine ⟨small_line (by omega), ?_⟩
            have k2 := k.set (o' := .lst ((xs ++ [way]).map W.int))
            rw [List.map_append] at k2
            rcases hway with rfl | rfl
            · rw [show (1 : Int) + 0 = 1 from rfl]
              refine ixc1 ?_
              walk_at "pv"
              refine gt_of (ok.as s0 s1) ?_
              have := ok.gs s0 s1
              exact ⟨_, Sub.refl _, xs ++ [0], _, _, _, by rw [List.length_append, hx]; rfl, snoc_01 h01 (.inl rfl), this.1, this.2, by rw [List.map_append]; exact k2, rfl⟩
            · rw [show (1 : Int) + 1 = 2 from rfl]
              refine ixc2 ?_
              walk_at "pv"
              refine gt_of (ok.aa s0 s1) ?_
              have := ok.gaa s0 s1
              exact ⟨_, Sub.refl _, xs ++ [1], _, _, _, by rw [List.length_append, hx]; rfl, snoc_01 h01 (.inr rfl), this.1, this.2, by rw [List.map_append]; exact k2, rfl⟩
          refine brn_dec (fun _ => ?_) (fun _ => ?_)
          · walk_at "pv"
            exact fin _ (by omega)
          · walk_at "pv"
            exact fin _ (by omega)
        · rintro ρ M7 ⟨xs, st, x, y, hx, h01, s0, s1, k, rfl⟩
          walk_at "pv"
          exact ⟨_, Sub.refl _, q p xs _ k.f0 k.sub k.g0 h01 (by omega)⟩
  · exact h.elim
end PV
set_option maxHeartbeats 4000000
namespace PV
open PySem PySem.Spec PyProof.Rows L2
local macro_rules | `(tactic| walk_at "pv") => `(tactic| try simp only [↓s_seq, ↓s_next, ↓s_ret, ↓s_retN, ↓s_drop, ↓s_set, ↓s_ifS, ↓s_asg, ↓s_gname, ↓s_gnil, ↓s_gcons, ↓s_gtup, tg1_t, ↓s_gsub, ↓s_par, par2_e, ↓s_aug, ↓s_var, ov_some, ↓s_c, ↓s_op, ↓s_un, ↓s_B, ↓s_chain, ↓s_and, ↓s_or, ↓s_not, ↓s_andV, ↓s_orV, ↓s_notV, ↓s_if, ↓s_nil, ↓s_cons, ↓s_tup, ↓s_lst, ↓s_call, ↓s_fn, ↓s_isi, ↓s_mt, ↓s_mt0, ↓s_sl, ↓s_part, ↓s_nopart, ↓s_newK, ↓s_newN, ↓s_yes, wWipe, ↓s_for, ↓s_seqI, ↓s_rng1, ↓s_rng2, ↓s_lc,
  brn_t, brn_f, gt_some, onB_b, itS_tup, itS_cl, itS_ref, rgO_i, rgT_i, prt_i, mtS_r, mtZ_r,
  isQ_int_non, isQ_int_bl, isQ_int_int, isQ_int_str, isQ_int_tup, isQ_int_l, isQ_int_k, isQ_bool_non, isQ_bool_bl, isQ_bool_int, isQ_bool_str, isQ_bool_tup, isQ_bool_l, isQ_bool_k, isQ_str_non, isQ_str_bl, isQ_str_int, isQ_str_str, isQ_str_tup, isQ_str_l, isQ_str_k, isQ_tuple_non, isQ_tuple_bl, isQ_tuple_int, isQ_tuple_str, isQ_tuple_tup, isQ_tuple_l, isQ_tuple_k, isQ_list_non, isQ_list_bl, isQ_list_int, isQ_list_str, isQ_list_tup, isQ_list_l, isQ_list_k, isQ_dict_non, isQ_dict_bl, isQ_dict_int, isQ_dict_str, isQ_dict_tup, isQ_dict_l, isQ_dict_k,
  add_i, add_s, add_t, add_l, addO_l, sub_i, mul_i, mul_t, mul_l, mulO_l, lt_i, le_i, gt_i, ge_i, is_n, isnot_n, is_b, is_bf, isnot_b, isnot_bf, eq_i, eq_s, eq_b, eq_t, eq_l, eqO_l, eqO_ll, ne_i, ne_s, ne_b, ne_t, ne_l, neO_l, neO_ll, ix_t, ix_c, ix_r, ixO_l, ixO_k, ixO_lk, ixO_n, ixO_ln, in_t, in_r, nin_t, nin_r, inO_l, inO_k, inO_lk, inO_n, inO_ln, wkey_i, wkey_s, sl_t, sl_c, sl_r, slO_l, len_t, len_c, len_s, len_r, lenO_l, abs_i, max_i, min_i, int_i, int_b, tup_t, tup_r, tuO_l, lst_t, lst_c, lst_r, lsO_l, set_r, seO_l, seO_k, seO_n, app_r, apO_l, ext_r, exO_l, pop_z, pop_i, poZ_l, poO_l, neg_i,
  ↓s_dispK, dkS_i, dkS_s, dkF_r, iadd_i, iadd_s, r2I_i, wst1, wst2, wst3, wst4, wst5, obOf, isN, rdl_l, put_same, put_put, Option.isSome_some, true_and, and_true, decide_true, decide_false, Option.bind_some, atI_0, atI_1, atI_2, atI_3, atI_4, atI_m1, atI_m2, atI_m3, atI_m4, atI_m5, cut_1, List.map_cons, List.map_nil, List.cons_append, List.nil_append, List.getElem?_cons_zero, List.getElem?_cons_succ, List.length_cons, List.length_nil, List.length_map, List.isEmpty_cons, List.isEmpty_nil, List.set_cons_zero, List.set_cons_succ, List.replicate, Nat.reduceAdd, Nat.reduceSub, Nat.reduceLeDiff, Int.reduceNeg, le_line, lt_line, Bool.not_true, Bool.not_false])
local macro_rules | `(tactic| walk_at "pvh") => `(tactic| try simp only [↓s_seq, ↓s_next, ↓s_ret, ↓s_retN, ↓s_drop, ↓s_set, ↓s_ifS, ↓s_asg, ↓s_gname, ↓s_gnil, ↓s_gcons, ↓s_gtup, tg1_t, ↓s_gsub, ↓s_par, par2_e, ↓s_aug, ↓s_var, ov_some, ↓s_c, ↓s_op, ↓s_un, ↓s_B, ↓s_chain, ↓s_and, ↓s_or, ↓s_not, ↓s_andV, ↓s_orV, ↓s_notV, ↓s_if, ↓s_nil, ↓s_cons, ↓s_tup, ↓s_lst, ↓s_call, ↓s_fn, ↓s_isi, ↓s_mt, ↓s_mt0, ↓s_sl, ↓s_part, ↓s_nopart, ↓s_newK, ↓s_newN, ↓s_yes, wWipe, ↓s_for, ↓s_seqI, ↓s_rng1, ↓s_rng2, ↓s_lc,
  brn_t, brn_f, gt_some, onB_b, itS_tup, itS_cl, itS_ref, rgO_i, rgT_i, prt_i, mtS_r, mtZ_r,
  isQ_int_non, isQ_int_bl, isQ_int_int, isQ_int_str, isQ_int_tup, isQ_int_l, isQ_int_k, isQ_bool_non, isQ_bool_bl, isQ_bool_int, isQ_bool_str, isQ_bool_tup, isQ_bool_l, isQ_bool_k, isQ_str_non, isQ_str_bl, isQ_str_int, isQ_str_str, isQ_str_tup, isQ_str_l, isQ_str_k, isQ_tuple_non, isQ_tuple_bl, isQ_tuple_int, isQ_tuple_str, isQ_tuple_tup, isQ_tuple_l, isQ_tuple_k, isQ_list_non, isQ_list_bl, isQ_list_int, isQ_list_str, isQ_list_tup, isQ_list_l, isQ_list_k, isQ_dict_non, isQ_dict_bl, isQ_dict_int, isQ_dict_str, isQ_dict_tup, isQ_dict_l, isQ_dict_k,
  add_i, add_s, add_t, add_l, addO_l, sub_i, mul_i, mul_t, mul_l, mulO_l, lt_i, le_i, gt_i, ge_i, is_n, isnot_n, is_b, is_bf, isnot_b, isnot_bf, eq_i, eq_s, eq_b, eq_t, eq_l, eqO_l, eqO_ll, ne_i, ne_s, ne_b, ne_t, ne_l, neO_l, neO_ll, ix_t, ix_c, ix_r, ixO_l, ixO_k, ixO_lk, ixO_n, ixO_ln, in_t, in_r, nin_t, nin_r, inO_l, inO_k, inO_lk, inO_n, inO_ln, wkey_i, wkey_s, sl_t, sl_c, sl_r, slO_l, len_t, len_c, len_s, len_r, lenO_l, abs_i, max_i, min_i, int_i, int_b, tup_t, tup_r, tuO_l, lst_t, lst_c, lst_r, lsO_l, set_r, seO_l, seO_k, seO_n, app_r, apO_l, ext_r, exO_l, pop_z, pop_i, poZ_l, poO_l, neg_i,
  ↓s_dispK, dkS_i, dkS_s, dkF_r, iadd_i, iadd_s, r2I_i, wst1, wst2, wst3, wst4, wst5, obOf, isN, rdl_l, put_same, put_put, Option.isSome_some, true_and, and_true, decide_true, decide_false, Option.bind_some, atI_0, atI_1, atI_2, atI_3, atI_4, atI_m1, atI_m2, atI_m3, atI_m4, atI_m5, cut_1, List.map_cons, List.map_nil, List.cons_append, List.nil_append, List.getElem?_cons_zero, List.getElem?_cons_succ, List.length_cons, List.length_nil, List.length_map, List.isEmpty_cons, List.isEmpty_nil, List.set_cons_zero, List.set_cons_succ, List.replicate, Nat.reduceAdd, Nat.reduceSub, Nat.reduceLeDiff, Int.reduceNeg, le_line, lt_line, Bool.not_true, Bool.not_false, put_ne1, put_ne2, *])
def smallCells (cs : List Cell) : Prop := ∀ c ∈ cs, ∃ n : Nat, CellOk n c ∧ n ≤ 3
def sp_none : PSp := fun ws M Q _ => match ws with
  | [.ref cs, .ref w, .int most, told] => ∃ (cells : List Cell) (ways : List Int) (m m' : Nat) (c : Cell), M cs = some (.lst (cells.map cW)) ∧ smallCells cells ∧ M w = some (.lst (ways.map W.int)) ∧ (∀ w ∈ ways, w = 0 ∨ w = 1) ∧ most = m ∧ m ≤ 3 ∧
    told = .tup [.int (missN c ways), cW c] ∧ bestM ways m = some (toldW ways m' c) ∧ CellOk m' c ∧ Q (.bl true) M
  | _ => False
theorem rd_none (ws M Q E) (h : sp_none ws M Q E) : t_l_none_better sp_plain sp_cell_misses (wEnd Q) (wStart ["cells", "ways", "most", "told", "here", "cell", "plain", "size"] ws) M := by
  unfold sp_none at h
  split at h
  · rename_i cs w most told
    obtain ⟨cells, ways, m, m', c, ec, sm, ew, h01, rfl, h3, rfl, hb, okc, q⟩ := h
    rw [wst4]
    unfold t_l_none_better
    walk_at "pv"
    refine ixc0 ?_
    walk_at "pv"
    rw [okc.l1, show W.tup [.int (missN c ways), .int (m' : Int), cW c] = toldW ways m' c from rfl]
    refine ⟨by rw [ec]; rfl, for_l (a := cs) (ws := cells.map cW) (fun i ρ M' => M' = M ∧ ∃ x y z, ρ = [some (.ref cs), some (.ref w), some (.int m), some (.tup [.int (missN c ways), cW c]), some (toldW ways m' c), x, y, z]) ⟨rfl, _, _, _, rfl⟩ (fun i ρ M' h => by rw [h.1]; exact ec) ?_ ?_⟩
    · rintro i v ρ M' hv ⟨rfl, x, y, z, rfl⟩
      rw [List.getElem?_map] at hv
      obtain ⟨e, he, rfl⟩ := Option.map_eq_some_iff.mp hv
      obtain ⟨n, oke, hn⟩ := sm e (List.mem_of_getElem? he)
      obtain ⟨o, ho⟩ := endO oke (f := 0) (by decide) (by have := oke.pos; omega)
      have okp := plC_ok ho oke
      have hpp := plC_pl ho oke
      walk_at "pv"
      refine ⟨n, e, rfl, oke, by omega, ?_⟩
      walk_at "pv"
      refine ixc0 ?_
      walk_at "pv"
      rw [okp.l1]
      refine brn_dec (fun hs => ?_) (fun hs => ?_)
      · walk_at "pv"
        refine ⟨_, _, ways, rfl, okp, ew, h01, ?_⟩
        walk_at "pv"
        rw [show W.tup [.int (missN (plC e 0) ways), .int ((plC e 0).1.length : Int), cW (plC e 0)] = toldW ways o.length (plC e 0) by rw [okp.l1]; rfl]
        refine ltD_go nr_told nr_told alike_told told_nn dp_told ?_
        obtain ⟨t, et, lt⟩ := best_min (ways := ways) okp hpp (i := m) (by omega)
        rw [hb] at et
        cases et
        rw [lt]
        walk_at "pv"
        exact ⟨_, Sub.refl _, rfl, _, _, _, rfl⟩
      · walk_at "pv"
        exact ⟨_, Sub.refl _, rfl, _, _, _, rfl⟩
    · rintro ρ M' ⟨rfl, x, y, z, rfl⟩
      walk_at "pv"
      exact ⟨_, Sub.refl _, q⟩
  · exact h.elim
/-- what is held of the round before -/
def elder (ways : List Int) (i : Nat) (x : W) : Prop := (i = 0 ∧ x = .non) ∨ ∃ (m : Nat) (c : Cell), 1 ≤ i ∧ bestM ways i = some (toldW ways m c) ∧ CellOk m c ∧ m ≤ i ∧ x = .int (missN c ways)
theorem rd_law (ws M Q E) (h : spLaw ws M Q E) : t_lawm sp_ways sp_dcell sp_deck sp_best sp_whole sp_plain sp_cell_misses sp_none (wEnd Q) (wStart ["script", "ways", "cells", "elder", "most", "told", "cell", "way"] ws) M := by
  obtain ⟨ns, rfl, hl, hb, q⟩ := h
  rw [wst1]
  unfold t_lawm
  walk_at "pv"
  refine ⟨⟨ns, rfl⟩, by rw [List.length_map]; exact hl, fun w ways M1 hw s1 ew h01 hwl => ?_⟩
  have k := (Kp.start0 (M := M)).come s1 hw ew
  walk_at "pv"
  refine k.fresh_go fun l M2 k _ => ?_
  walk_at "pv"
  have hcl := cut_len (xs := ns.map W.int) (lo := some 1) (hi := some 41)
  rw [List.length_map] at hcl
  refine ⟨by rw [k.g0]; rfl, lc_l (a := l) (ws := cutW (ns.map W.int) (some 1) (some 41)) (by omega) (fun i acc M' => ∃ cs : List Cell, acc = cs.map cW ∧ cs.length = i ∧ smallCells cs ∧ Kp none [(l, .lst (cutW (ns.map W.int) (some 1) (some 41))), (w, .lst (ways.map W.int))] M M') ⟨[], rfl, rfl, (fun x h => nomatch h), k⟩ (fun i acc M' ⟨_, _, _, _, k⟩ => k.g0) ?_ ?_⟩
  · clear k
    rintro i acc v M4 hv ⟨cs, rfl, hx, hs, k⟩
    obtain ⟨z, rfl⟩ := int_of (mem_cut (List.mem_of_getElem? hv))
    walk_at "pv"
    refine fun d2 da db M5 hd s5 ed => ?_
    have k := k.come s5 hd ed
    walk_at "pv"
    refine ⟨da, db, 5, k.g0, by decide, by decide, by decide, by decide, fun n cell a' c' ok hn h0 h1 => ?_⟩
    have k := k.set (o' := dkO a' db c')
    refine ⟨_, Sub.refl _, cs ++ [cell], by rw [List.map_append]; rfl, by rw [List.length_append, hx]; rfl, fun e he => ?_, k.tail⟩
    rcases List.mem_append.mp he with he | he
    · exact hs e he
    · rw [List.mem_singleton.mp he]; exact ⟨n, ok, by omega⟩
  · clear k
    rintro acc M4 ⟨cs, rfl, hx, hs, k⟩ p hp
    have k := k.tail.new (o := .lst (cs.map cW)) hp
    generalize put M4 p (.lst (cs.map cW)) = M5 at k
    walk_at "pv"
    refine for_c (fun i ρ M' => i ≤ 3 ∧ Kp none [(p, .lst (cs.map cW)), (w, .lst (ways.map W.int))] M M' ∧ ∃ e x y, elder ways i e ∧ ρ = [some (.cl (ns.map W.int)), some (.ref w), some (.ref p), some e, x, y, none, none]) ⟨by omega, k, _, _, _, .inl ⟨rfl, rfl⟩, rfl⟩ ?_ ?_
    · clear k
      rintro i v ρ M6 hv ⟨hi3, k, e, x, y, he, rfl⟩
      obtain ⟨rfl, hi⟩ : v = .int ((i + 1 : Nat) : Int) ∧ i < 3 := by
        match i, hv with
        | 0, hv => exact ⟨by simpa using hv.symm, by decide⟩
        | 1, hv => exact ⟨by simpa using hv.symm, by decide⟩
        | 2, hv => exact ⟨by simpa using hv.symm, by decide⟩
      walk_at "pv"
      rw [k.g1]
      walk_at "pv"
      refine k.fresh_go fun h M7 k _ => ?_
      walk_at "pv"
      refine ⟨ways, i + 1, k.g0, h01, rfl, by omega, by omega, fun m1 c1 e1 ok1 l1 => ?_⟩
      have k := k.tail
      obtain ⟨m2, c2, e2, _, l2, pl⟩ := bestM_T2 (i + 1) _ e1
      obtain ⟨rfl, rfl⟩ := toldW_inj e2
      clear e2
      walk_at "pv"
      refine ⟨⟨c1, rfl, by rw [ok1.l1]; omega, by rw [ok1.l2]; omega, by rw [ok1.l3]; omega⟩, ?_⟩
      walk_at "pv"
      refine ixc0 ?_
      walk_at "pv"
      rw [ok1.l1, decide_eq_false (show ¬ (((i + 1 : Nat) : Int) < (m1 : Int)) by omega)]
      walk_at "pv"
      refine ⟨m1, c1, rfl, ok1, by omega, ?_⟩
      walk_at "pv"
      refine neC_go ?_
      rw [show weq (cW (plC c1 0)) (cW c1) = true from pl]
      walk_at "pv"
      refine ⟨m1, c1, ways, rfl, ok1, k.g1, h01, ?_⟩
      walk_at "pv"
      refine ⟨cs, ways, i + 1, m1, c1, k.g0, hs, k.g1, h01, rfl, by omega, rfl, e1, ok1, ?_⟩
      walk_at "pv"
      have fin : ∃ M0, Sub M0 M7 ∧ (i + 1 ≤ 3 ∧ Kp none [(p, .lst (cs.map cW)), (w, .lst (ways.map W.int))] M M0 ∧ ∃ e x y, elder ways (i + 1) e ∧ [some (W.cl (ns.map W.int)), some (.ref w), some (.ref p), some (.int (missN c1 ways)), some (.int ((i + 1 : Nat) : Int)), some (.tup [.int (missN c1 ways), cW c1]), none, none] = [some (.cl (ns.map W.int)), some (.ref w), some (.ref p), some e, x, y, none, none]) :=
        ⟨_, Sub.refl _, by omega, k, _, _, _, .inr ⟨m1, c1, by omega, e1, ok1, l2, rfl⟩, rfl⟩
      rcases he with ⟨rfl, rfl⟩ | ⟨m0, c0, hi1, e0, ok0, l0, rfl⟩
      · walk_at "pv"
        obtain ⟨M0, f1, _, f2⟩ := fin
        exact ⟨M0, f1, f2⟩
      · walk_at "pv"
        have := best_le (ways := ways) ok0 (by omega : m0 ≤ i + 1) e1
        rw [decide_eq_false (show ¬ (missN c0 ways < missN c1 ways) by omega)]
        walk_at "pv"
        obtain ⟨M0, f1, _, f2⟩ := fin
        exact ⟨M0, f1, by omega, f2⟩
    · rintro ρ M6 ⟨hi3, k, e, x, y, he, rfl⟩
      have k := k.sw
      walk_at "pv"
      refine ⟨by rw [k.g0]; rfl, lc_int (o := ways) (by rw [k.g0]; rfl) (by omega) (1 - ·) (fun x hx R h => ?_) fun q1 hq1 => ?_⟩
      · walk_at "pv"
        exact h _ (Sub.refl _)
      have k := k.new (o := .lst ((ways.map (1 - ·)).map W.int)) hq1
      generalize put M6 q1 (.lst ((ways.map (1 - ·)).map W.int)) = M7 at k
      walk_at "pv"
      refine ⟨ways.map (1 - ·), 2, k.g0, flip_01 h01, rfl, by decide, by decide, fun m2 c2 e2 ok2 l2 => ?_⟩
      walk_at "pv"
      rw [k.g1]
      walk_at "pv"
      refine k.fresh_go fun h2 M8 k _ => ?_
      walk_at "pv"
      refine ⟨ways, 2, k.g0, h01, rfl, by decide, by decide, fun m1 c1 e1 ok1 l1 => ?_⟩
      walk_at "pv"
      rw [decide_eq_true (best_flip h01 e1 e2)]
      exact ⟨_, Sub.refl _, q _⟩
end PV
set_option maxHeartbeats 4000000
namespace PV
open PySem PySem.Spec PyProof.Rows L2
def topS (i : Nat) : Stmt := PySem.Challenge.pw_wayguess_k61_whole_none_is_better.main.body.getD i (.Pass ⟨0, 0, 0, 0⟩)
/-- what the module leaves, and leaves alone -/
structure Fx (mg : Str → Option Value) : Prop where
  b_bool : mg "bool" = none
  b_int : mg "int" = none
  b_isinstance : mg "isinstance" = none
  b_len : mg "len" = none
  b_list : mg "list" = none
  b_range : mg "range" = none
  b_tuple : mg "tuple" = none
abbrev s_p_in_order : Stmt := topS 1
abbrev n_p_in_order : List Str := ["cell", "first", "guesses", "straight", "aside", "order", "places", "at", "behind", "told", "ahead", "state"]
theorem sc_p_in_order : FnScope n_p_in_order ["cell", "first"] (defScope s_p_in_order) := ⟨rfl, rfl, rfl, by decide +kernel, rfl, by decide +kernel, by decide +kernel⟩
theorem tr_p_in_order {P : Program} {w : World} {K : PySem.W.Frag} {mg : Str → Option Value} {base : Heap} {k : Nat} (F : Fx mg) {f : Addr} {cdv : Value} {A : Around} {outer : List Env} {s : Shared} {H : Hp} {E : XK} {M : Me}
    (hr : Room k (A.deeper (envOfC "in_order" (defScope s_p_in_order) s.heap.objs.size f cdv))) : QSs (fnCy P w K mg base n_p_in_order "in_order" s_p_in_order f cdv A outer s H E M) (defBody s_p_in_order) (t_p_in_order) := by
  have ndN := sc_p_in_order.nd
  exact (qss_cons (qs_asg (q_var 0) (qg_tup rfl (qgs_cons (qg_name ndN (i := 2)) (qgs_cons (qg_name ndN (i := 3)) (qgs_cons (qg_name ndN (i := 4)) qgs_nil))))) (qss_cons (qs_set (i := 5) ndN (q_lst (qa_cons (q_var 1) qa_nil))) (qss_cons (qs_set (i := 6) ndN (q_dispK hr.units (q_var 1) q_int)) (qss_cons (qs_set (i := 7) ndN q_int) (qss_cons (qs_while PassesOwn.never (qt_cmp w_lt (q_var 7) (q_callB (id := "len") w_len rfl F.b_len (by decide +kernel) (qa_cons (q_var 5) qa_nil))) (qss_cons (qs_for PassesOwn.never rfl (qi_seq (q_tup (qa_cons (q_ix hr.units (q_var 3) (q_ix hr.units (q_var 5) (q_var 7))) (qa_cons (q_ix hr.units (q_var 4) (q_ix hr.units (q_var 5) (q_var 7))) qa_nil)))) (qg_name ndN (i := 8)) (qss_one (qs_if (qt_cmp (w_notIn hr.units) (q_var 8) (q_var 6)) (qss_cons (qs_asg (q_callB (id := "len") w_len rfl F.b_len (by decide +kernel) (qa_cons (q_var 5) qa_nil)) (qg_sub (q_var 6) (q_var 8) (w_set hr.units))) (qss_one (qs_expr (q_mt (by first | exact PySem.F.slot_list_append | exact PyProof.Rows.slot_list_append) (by first | exact PySem.F.type_list_append | exact PyProof.Rows.type_list_append) w_app (q_var 5) (qa_cons (q_var 8) qa_nil))))) qss_nil))) (qss_one (qs_aug (i := 7) ndN w_iadd q_int)))) (qss_cons (qs_set (i := 9) ndN (q_callT (T := "tuple") w_tup rfl F.b_tuple (by decide +kernel) (qa_cons (q_lc [("state", 11)] rfl ndN (qi_seq (q_var 5)) (blkOk_by (N := n_p_in_order) (sc := defScope s_p_in_order) (by decide +kernel)) (fun _ _ _ _ _ => (qv_name ndN (i := 11))) (fun _ _ _ _ _ => qts_nil) (fun _ _ _ _ _ => (q_ix hr.units (q_var 2) (q_var 11)))) qa_nil))) (qss_cons (qs_set (i := 10) ndN (q_callT (T := "tuple") w_tup rfl F.b_tuple (by decide +kernel) (qa_cons (q_lc [("state", 11)] rfl ndN (qi_seq (q_var 5)) (blkOk_by (N := n_p_in_order) (sc := defScope s_p_in_order) (by decide +kernel)) (fun _ _ _ _ _ => (qv_name ndN (i := 11))) (fun _ _ _ _ _ => qts_nil) (fun _ _ _ _ _ => (q_ix hr.units (q_var 6) (q_ix hr.units (q_var 3) (q_var 11))))) qa_nil))) (qss_one (qs_ret (q_tup (qa_cons (q_var 9) (qa_cons (q_var 10) (qa_cons (q_callT (T := "tuple") w_tup rfl F.b_tuple (by decide +kernel) (qa_cons (q_lc [("state", 11)] rfl ndN (qi_seq (q_var 5)) (blkOk_by (N := n_p_in_order) (sc := defScope s_p_in_order) (by decide +kernel)) (fun _ _ _ _ _ => (qv_name ndN (i := 11))) (fun _ _ _ _ _ => qts_nil) (fun _ _ _ _ _ => (q_ix hr.units (q_var 6) (q_ix hr.units (q_var 4) (q_var 11))))) qa_nil)) qa_nil)))))))))))))

abbrev s_p_plain_cell : Stmt := topS 2
abbrev n_p_plain_cell : List Str := ["cell"]
theorem sc_p_plain_cell : FnScope n_p_plain_cell ["cell"] (defScope s_p_plain_cell) := ⟨rfl, rfl, rfl, by decide +kernel, rfl, by decide +kernel, by decide +kernel⟩
theorem tr_p_plain_cell {P : Program} {w : World} {K : PySem.W.Frag} {mg : Str → Option Value} {base : Heap} {k : Nat} (F : Fx mg) {c_p_in_order : PSp} (d_p_in_order : Dk ⟨P, w, K⟩ mg base k "in_order" ["cell", "first"] c_p_in_order) {f : Addr} {cdv : Value} {A : Around} {outer : List Env} {s : Shared} {H : Hp} {E : XK} {M : Me}
    (hr : Room k (A.deeper (envOfC "plain_cell" (defScope s_p_plain_cell) s.heap.objs.size f cdv))) : QSs (fnCy P w K mg base n_p_plain_cell "plain_cell" s_p_plain_cell f cdv A outer s H E M) (defBody s_p_plain_cell) (t_p_plain_cell c_p_in_order) := by
  have ndN := sc_p_plain_cell.nd
  exact (qss_one (qs_ret (q_fn d_p_in_order hr rfl (qa_cons (q_var 0) (qa_cons q_int qa_nil)))))

abbrev s_p_cell_misses : Stmt := topS 4
abbrev n_p_cell_misses : List Str := ["cell", "ways", "guesses", "straight", "aside", "state", "misses", "way"]
theorem sc_p_cell_misses : FnScope n_p_cell_misses ["cell", "ways"] (defScope s_p_cell_misses) := ⟨rfl, rfl, rfl, by decide +kernel, rfl, by decide +kernel, by decide +kernel⟩
theorem tr_p_cell_misses {P : Program} {w : World} {K : PySem.W.Frag} {mg : Str → Option Value} {base : Heap} {k : Nat} (F : Fx mg) {f : Addr} {cdv : Value} {A : Around} {outer : List Env} {s : Shared} {H : Hp} {E : XK} {M : Me}
    (hr : Room k (A.deeper (envOfC "cell_misses" (defScope s_p_cell_misses) s.heap.objs.size f cdv))) : QSs (fnCy P w K mg base n_p_cell_misses "cell_misses" s_p_cell_misses f cdv A outer s H E M) (defBody s_p_cell_misses) (t_p_cell_misses) := by
  have ndN := sc_p_cell_misses.nd
  exact (qss_cons (qs_asg (q_var 0) (qg_tup rfl (qgs_cons (qg_name ndN (i := 2)) (qgs_cons (qg_name ndN (i := 3)) (qgs_cons (qg_name ndN (i := 4)) qgs_nil))))) (qss_cons (qs_set (i := 5) ndN q_int) (qss_cons (qs_set (i := 6) ndN q_int) (qss_cons (qs_for PassesOwn.never rfl (qi_seq (q_var 1)) (qg_name ndN (i := 7)) (qss_cons (qs_if (qt_cmp (w_ne hr.units) (q_ix hr.units (q_var 2) (q_var 5)) (q_var 7)) (qss_one (qs_aug (i := 6) ndN w_iadd q_int)) qss_nil) (qss_one (qs_set (i := 5) ndN (q_if (qt_cmp (w_eq hr.units) (q_var 7) q_int) (q_ix hr.units (q_var 3) (q_var 5)) (q_ix hr.units (q_var 4) (q_var 5))))))) (qss_one (qs_ret (q_var 6)))))))

abbrev s_p_figures : Stmt := topS 5
abbrev n_p_figures : List Str := ["number", "base", "many", "found", "k"]
theorem sc_p_figures : FnScope n_p_figures ["number", "base", "many"] (defScope s_p_figures) := ⟨rfl, rfl, rfl, by decide +kernel, rfl, by decide +kernel, by decide +kernel⟩
theorem tr_p_figures {P : Program} {w : World} {K : PySem.W.Frag} {mg : Str → Option Value} {base : Heap} {k : Nat} (F : Fx mg) {f : Addr} {cdv : Value} {A : Around} {outer : List Env} {s : Shared} {H : Hp} {E : XK} {M : Me}
    (hr : Room k (A.deeper (envOfC "figures" (defScope s_p_figures) s.heap.objs.size f cdv))) : QSs (fnCy P w K mg base n_p_figures "figures" s_p_figures f cdv A outer s H E M) (defBody s_p_figures) (t_p_figures) := by
  have ndN := sc_p_figures.nd
  exact (qss_cons (qs_set (i := 3) ndN (q_lst qa_nil)) (qss_cons (qs_for PassesOwn.never rfl (qi_rng1 rfl F.b_range (qa_cons (q_var 2) qa_nil)) (qg_name ndN (i := 4)) (qss_cons (qs_expr (q_mt (by first | exact PySem.F.slot_list_append | exact PyProof.Rows.slot_list_append) (by first | exact PySem.F.type_list_append | exact PyProof.Rows.type_list_append) w_app (q_var 3) (qa_cons (q_op w_mod (q_var 0) (q_var 1)) qa_nil))) (qss_one (qs_set (i := 0) ndN (q_op w_fdiv (q_var 0) (q_var 1)))))) (qss_one (qs_ret (q_callT (T := "tuple") w_tup rfl F.b_tuple (by decide +kernel) (qa_cons (q_var 3) qa_nil))))))

abbrev s_p_power : Stmt := topS 6
abbrev n_p_power : List Str := ["base", "many", "found", "k"]
theorem sc_p_power : FnScope n_p_power ["base", "many"] (defScope s_p_power) := ⟨rfl, rfl, rfl, by decide +kernel, rfl, by decide +kernel, by decide +kernel⟩
theorem tr_p_power {P : Program} {w : World} {K : PySem.W.Frag} {mg : Str → Option Value} {base : Heap} {k : Nat} (F : Fx mg) {f : Addr} {cdv : Value} {A : Around} {outer : List Env} {s : Shared} {H : Hp} {E : XK} {M : Me}
    (hr : Room k (A.deeper (envOfC "power" (defScope s_p_power) s.heap.objs.size f cdv))) : QSs (fnCy P w K mg base n_p_power "power" s_p_power f cdv A outer s H E M) (defBody s_p_power) (t_p_power) := by
  have ndN := sc_p_power.nd
  exact (qss_cons (qs_set (i := 2) ndN q_int) (qss_cons (qs_for PassesOwn.never rfl (qi_rng1 rfl F.b_range (qa_cons (q_var 1) qa_nil)) (qg_name ndN (i := 3)) (qss_one (qs_aug (i := 2) ndN w_imul (q_var 0)))) (qss_one (qs_ret (q_var 2)))))

abbrev s_p_cells_of : Stmt := topS 7
abbrev n_p_cells_of : List Str := ["many", "found", "one", "other", "ways", "cell"]
theorem sc_p_cells_of : FnScope n_p_cells_of ["many"] (defScope s_p_cells_of) := ⟨rfl, rfl, rfl, by decide +kernel, rfl, by decide +kernel, by decide +kernel⟩
theorem tr_p_cells_of {P : Program} {w : World} {K : PySem.W.Frag} {mg : Str → Option Value} {base : Heap} {k : Nat} (F : Fx mg) {c_p_power : PSp} {c_p_figures : PSp} {c_p_plain_cell : PSp} (d_p_power : Dk ⟨P, w, K⟩ mg base k "power" ["base", "many"] c_p_power) (d_p_figures : Dk ⟨P, w, K⟩ mg base k "figures" ["number", "base", "many"] c_p_figures) (d_p_plain_cell : Dk ⟨P, w, K⟩ mg base k "plain_cell" ["cell"] c_p_plain_cell) {f : Addr} {cdv : Value} {A : Around} {outer : List Env} {s : Shared} {H : Hp} {E : XK} {M : Me}
    (hr : Room k (A.deeper (envOfC "cells_of" (defScope s_p_cells_of) s.heap.objs.size f cdv))) : QSs (fnCy P w K mg base n_p_cells_of "cells_of" s_p_cells_of f cdv A outer s H E M) (defBody s_p_cells_of) (t_p_cells_of c_p_power c_p_figures c_p_plain_cell) := by
  have ndN := sc_p_cells_of.nd
  exact (qss_cons (qs_set (i := 1) ndN (q_lst qa_nil)) (qss_cons (qs_for PassesOwn.never rfl (qi_rng1 rfl F.b_range (qa_cons (q_fn d_p_power hr rfl (qa_cons q_int (qa_cons (q_var 0) qa_nil))) qa_nil)) (qg_name ndN (i := 2)) (qss_one (qs_for PassesOwn.never rfl (qi_rng1 rfl F.b_range (qa_cons (q_fn d_p_power hr rfl (qa_cons (q_var 0) (qa_cons (q_op w_mul q_int (q_var 0)) qa_nil))) qa_nil)) (qg_name ndN (i := 3)) (qss_cons (qs_set (i := 4) ndN (q_fn d_p_figures hr rfl (qa_cons (q_var 3) (qa_cons (q_var 0) (qa_cons (q_op w_mul q_int (q_var 0)) qa_nil))))) (qss_cons (qs_set (i := 5) ndN (q_tup (qa_cons (q_fn d_p_figures hr rfl (qa_cons (q_var 2) (qa_cons q_int (qa_cons (q_var 0) qa_nil)))) (qa_cons (q_sl (q_var 4) qo_none (qo_some (q_var 0))) (qa_cons (q_sl (q_var 4) (qo_some (q_var 0)) qo_none) qa_nil))))) (qss_one (qs_if (qt_cmp (w_eq hr.units) (q_fn d_p_plain_cell hr rfl (qa_cons (q_var 5) qa_nil)) (q_var 5)) (qss_one (qs_expr (q_mt (by first | exact PySem.F.slot_list_append | exact PyProof.Rows.slot_list_append) (by first | exact PySem.F.type_list_append | exact PyProof.Rows.type_list_append) w_app (q_var 1) (qa_cons (q_var 5) qa_nil)))) qss_nil))))))) (qss_one (qs_ret (q_var 1)))))

abbrev s_p_best_cell : Stmt := topS 8
abbrev n_p_best_cell : List Str := ["ways", "many", "best", "states", "cell", "told"]
theorem sc_p_best_cell : FnScope n_p_best_cell ["ways", "many"] (defScope s_p_best_cell) := ⟨rfl, rfl, rfl, by decide +kernel, rfl, by decide +kernel, by decide +kernel⟩
theorem tr_p_best_cell {P : Program} {w : World} {K : PySem.W.Frag} {mg : Str → Option Value} {base : Heap} {k : Nat} (F : Fx mg) {c_p_cells_of : PSp} {c_p_cell_misses : PSp} (d_p_cells_of : Dk ⟨P, w, K⟩ mg base k "cells_of" ["many"] c_p_cells_of) (d_p_cell_misses : Dk ⟨P, w, K⟩ mg base k "cell_misses" ["cell", "ways"] c_p_cell_misses) {f : Addr} {cdv : Value} {A : Around} {outer : List Env} {s : Shared} {H : Hp} {E : XK} {M : Me}
    (hr : Room k (A.deeper (envOfC "best_cell" (defScope s_p_best_cell) s.heap.objs.size f cdv))) : QSs (fnCy P w K mg base n_p_best_cell "best_cell" s_p_best_cell f cdv A outer s H E M) (defBody s_p_best_cell) (t_p_best_cell c_p_cells_of c_p_cell_misses) := by
  have ndN := sc_p_best_cell.nd
  exact (qss_cons (qs_set (i := 2) ndN q_non) (qss_cons (qs_for PassesOwn.never rfl (qi_rng2 rfl F.b_range (qa_cons q_int (qa_cons (q_op w_add (q_var 1) q_int) qa_nil))) (qg_name ndN (i := 3)) (qss_one (qs_for PassesOwn.never rfl (qi_seq (q_fn d_p_cells_of hr rfl (qa_cons (q_var 3) qa_nil))) (qg_name ndN (i := 4)) (qss_cons (qs_set (i := 5) ndN (q_tup (qa_cons (q_fn d_p_cell_misses hr rfl (qa_cons (q_var 4) (qa_cons (q_var 0) qa_nil))) (qa_cons (q_var 3) (qa_cons (q_var 4) qa_nil))))) (qss_one (qs_if (QW.pt (qw_or (qt_cmp w_is (q_var 2) q_non) (qw_or1 (qt_cmp (w_ltD hr.units) (q_var 5) (q_var 2))))) (qss_one (qs_set (i := 2) ndN (q_var 5))) qss_nil)))))) (qss_one (qs_ret (q_tup (qa_cons (q_ix hr.units (q_var 2) q_int) (qa_cons (q_ix hr.units (q_var 2) q_int) qa_nil)))))))

abbrev s_l_cell_at : Stmt := topS 10
abbrev n_l_cell_at : List Str := ["script", "k"]
theorem sc_l_cell_at : FnScope n_l_cell_at ["script", "k"] (defScope s_l_cell_at) := ⟨rfl, rfl, rfl, by decide +kernel, rfl, by decide +kernel, by decide +kernel⟩
theorem tr_l_cell_at {P : Program} {w : World} {K : PySem.W.Frag} {mg : Str → Option Value} {base : Heap} {k : Nat} (F : Fx mg) {f : Addr} {cdv : Value} {A : Around} {outer : List Env} {s : Shared} {H : Hp} {E : XK} {M : Me}
    (hr : Room k (A.deeper (envOfC "_law_cell_at" (defScope s_l_cell_at) s.heap.objs.size f cdv))) : QSs (fnCy P w K mg base n_l_cell_at "_law_cell_at" s_l_cell_at f cdv A outer s H E M) (defBody s_l_cell_at) (t_l_cell_at) := by
  have ndN := sc_l_cell_at.nd
  exact (qss_cons (qs_if (qt_cmp w_lt (q_var 1) (q_callB (id := "len") w_len rfl F.b_len (by decide +kernel) (qa_cons (q_var 0) qa_nil))) (qss_one (qs_ret (q_ix hr.units (q_var 0) (q_var 1)))) qss_nil) (qss_one (qs_ret q_int)))

abbrev s_l_take : Stmt := topS 11
abbrev n_l_take : List Str := ["deck", "many", "come", "number"]
theorem sc_l_take : FnScope n_l_take ["deck", "many"] (defScope s_l_take) := ⟨rfl, rfl, rfl, by decide +kernel, rfl, by decide +kernel, by decide +kernel⟩
theorem tr_l_take {P : Program} {w : World} {K : PySem.W.Frag} {mg : Str → Option Value} {base : Heap} {k : Nat} (F : Fx mg) {f : Addr} {cdv : Value} {A : Around} {outer : List Env} {s : Shared} {H : Hp} {E : XK} {M : Me}
    (hr : Room k (A.deeper (envOfC "_law_take" (defScope s_l_take) s.heap.objs.size f cdv))) : QSs (fnCy P w K mg base n_l_take "_law_take" s_l_take f cdv A outer s H E M) (defBody s_l_take) (t_l_take) := by
  have ndN := sc_l_take.nd
  exact (qss_cons (qs_if (qt_cmp (w_eq hr.units) (q_ix hr.units (q_var 0) q_int) q_int) (qss_cons (qs_set (i := 2) ndN (q_op w_mod (q_ix hr.units (q_var 0) q_int) (q_var 1))) (qss_cons (qs_asg (q_op w_fdiv (q_ix hr.units (q_var 0) q_int) (q_var 1)) (qg_sub (q_var 0) q_int (w_set hr.units))) (qss_one (qs_ret (q_var 2))))) qss_nil) (qss_cons (qs_asg (q_op w_add (q_ix hr.units (q_var 0) q_int) q_int) (qg_sub (q_var 0) q_int (w_set hr.units))) (qss_cons (qs_set (i := 3) ndN (q_op w_mul (q_op w_mod (q_ix hr.units (q_var 0) q_int) q_int) (q_op w_add (q_op w_mul (q_ix hr.units (q_var 0) q_int) (q_ix hr.units (q_var 0) q_int)) q_int))) (qss_cons (qs_set (i := 3) ndN (q_op w_mod (q_op w_add (q_op w_add (q_var 3) (q_ix hr.units (q_var 0) q_int)) q_int) q_int)) (qss_cons (qs_set (i := 3) ndN (q_op w_mod (q_op w_mul (q_var 3) (q_var 3)) q_int)) (qss_one (qs_ret (q_op w_mod (q_op w_fdiv (q_op w_mod (q_op w_mul (q_var 3) q_int) q_int) q_int) (q_var 1)))))))))

abbrev s_l_deck : Stmt := topS 12
abbrev n_l_deck : List Str := ["cell", "k"]
theorem sc_l_deck : FnScope n_l_deck ["cell", "k"] (defScope s_l_deck) := ⟨rfl, rfl, rfl, by decide +kernel, rfl, by decide +kernel, by decide +kernel⟩
theorem tr_l_deck {P : Program} {w : World} {K : PySem.W.Frag} {mg : Str → Option Value} {base : Heap} {k : Nat} (F : Fx mg) {f : Addr} {cdv : Value} {A : Around} {outer : List Env} {s : Shared} {H : Hp} {E : XK} {M : Me}
    (hr : Room k (A.deeper (envOfC "_law_deck" (defScope s_l_deck) s.heap.objs.size f cdv))) : QSs (fnCy P w K mg base n_l_deck "_law_deck" s_l_deck f cdv A outer s H E M) (defBody s_l_deck) (t_l_deck) := by
  have ndN := sc_l_deck.nd
  exact (qss_cons (qs_if (qt_cmp w_ge (q_var 0) (q_op w_pow q_int q_int)) (qss_one (qs_ret (q_lst (qa_cons (q_op w_sub (q_var 0) (q_op w_pow q_int q_int)) (qa_cons q_int (qa_cons (q_var 1) qa_nil)))))) qss_nil) (qss_one (qs_ret (q_lst (qa_cons (q_var 0) (qa_cons q_int (qa_cons (q_var 1) qa_nil)))))))

abbrev s_l_cell : Stmt := topS 13
abbrev n_l_cell : List Str := ["deck", "most", "many", "guesses", "straight", "aside", "k"]
theorem sc_l_cell : FnScope n_l_cell ["deck", "most"] (defScope s_l_cell) := ⟨rfl, rfl, rfl, by decide +kernel, rfl, by decide +kernel, by decide +kernel⟩
theorem tr_l_cell {P : Program} {w : World} {K : PySem.W.Frag} {mg : Str → Option Value} {base : Heap} {k : Nat} (F : Fx mg) {c_l_take : PSp} (d_l_take : Dk ⟨P, w, K⟩ mg base k "_law_take" ["deck", "many"] c_l_take) {f : Addr} {cdv : Value} {A : Around} {outer : List Env} {s : Shared} {H : Hp} {E : XK} {M : Me}
    (hr : Room k (A.deeper (envOfC "_law_cell" (defScope s_l_cell) s.heap.objs.size f cdv))) : QSs (fnCy P w K mg base n_l_cell "_law_cell" s_l_cell f cdv A outer s H E M) (defBody s_l_cell) (t_l_cell c_l_take) := by
  have ndN := sc_l_cell.nd
  exact (qss_cons (qs_set (i := 2) ndN (q_op w_add q_int (q_fn d_l_take hr rfl (qa_cons (q_var 0) (qa_cons (q_var 1) qa_nil))))) (qss_cons (qs_set (i := 3) ndN (q_callT (T := "tuple") w_tup rfl F.b_tuple (by decide +kernel) (qa_cons (q_lc [("k", 6)] rfl ndN (qi_rng1 rfl F.b_range (qa_cons (q_var 2) qa_nil)) (blkOk_by (N := n_l_cell) (sc := defScope s_l_cell) (by decide +kernel)) (fun _ _ _ _ _ => (qv_name ndN (i := 6))) (fun _ _ _ _ _ => qts_nil) (fun _ _ _ _ _ => (q_fn d_l_take hr rfl (qa_cons (q_var 0) (qa_cons q_int qa_nil))))) qa_nil))) (qss_cons (qs_set (i := 4) ndN (q_callT (T := "tuple") w_tup rfl F.b_tuple (by decide +kernel) (qa_cons (q_lc [("k", 6)] rfl ndN (qi_rng1 rfl F.b_range (qa_cons (q_var 2) qa_nil)) (blkOk_by (N := n_l_cell) (sc := defScope s_l_cell) (by decide +kernel)) (fun _ _ _ _ _ => (qv_name ndN (i := 6))) (fun _ _ _ _ _ => qts_nil) (fun _ _ _ _ _ => (q_fn d_l_take hr rfl (qa_cons (q_var 0) (qa_cons (q_var 2) qa_nil))))) qa_nil))) (qss_cons (qs_set (i := 5) ndN (q_callT (T := "tuple") w_tup rfl F.b_tuple (by decide +kernel) (qa_cons (q_lc [("k", 6)] rfl ndN (qi_rng1 rfl F.b_range (qa_cons (q_var 2) qa_nil)) (blkOk_by (N := n_l_cell) (sc := defScope s_l_cell) (by decide +kernel)) (fun _ _ _ _ _ => (qv_name ndN (i := 6))) (fun _ _ _ _ _ => qts_nil) (fun _ _ _ _ _ => (q_fn d_l_take hr rfl (qa_cons (q_var 0) (qa_cons (q_var 2) qa_nil))))) qa_nil))) (qss_one (qs_ret (q_tup (qa_cons (q_var 3) (qa_cons (q_var 4) (qa_cons (q_var 5) qa_nil))))))))))

abbrev s_l_plain : Stmt := topS 14
abbrev n_l_plain : List Str := ["cell", "guesses", "straight", "aside", "order", "at", "there", "first", "second", "state"]
theorem sc_l_plain : FnScope n_l_plain ["cell"] (defScope s_l_plain) := ⟨rfl, rfl, rfl, by decide +kernel, rfl, by decide +kernel, by decide +kernel⟩
theorem tr_l_plain {P : Program} {w : World} {K : PySem.W.Frag} {mg : Str → Option Value} {base : Heap} {k : Nat} (F : Fx mg) {f : Addr} {cdv : Value} {A : Around} {outer : List Env} {s : Shared} {H : Hp} {E : XK} {M : Me}
    (hr : Room k (A.deeper (envOfC "_law_plain" (defScope s_l_plain) s.heap.objs.size f cdv))) : QSs (fnCy P w K mg base n_l_plain "_law_plain" s_l_plain f cdv A outer s H E M) (defBody s_l_plain) (t_l_plain) := by
  have ndN := sc_l_plain.nd
  exact (qss_cons (qs_asg (q_var 0) (qg_tup rfl (qgs_cons (qg_name ndN (i := 1)) (qgs_cons (qg_name ndN (i := 2)) (qgs_cons (qg_name ndN (i := 3)) qgs_nil))))) (qss_cons (qs_set (i := 4) ndN (q_lst (qa_cons q_int qa_nil))) (qss_cons (qs_set (i := 5) ndN q_int) (qss_cons (qs_while PassesOwn.never (qt_cmp w_lt (q_var 5) (q_callB (id := "len") w_len rfl F.b_len (by decide +kernel) (qa_cons (q_var 4) qa_nil))) (qss_cons (qs_for PassesOwn.never rfl (qi_seq (q_tup (qa_cons (q_ix hr.units (q_var 2) (q_ix hr.units (q_var 4) (q_var 5))) (qa_cons (q_ix hr.units (q_var 3) (q_ix hr.units (q_var 4) (q_var 5))) qa_nil)))) (qg_name ndN (i := 6)) (qss_one (qs_if (qt_cmp (w_notIn hr.units) (q_var 6) (q_var 4)) (qss_one (qs_expr (q_mt (by first | exact PySem.F.slot_list_append | exact PyProof.Rows.slot_list_append) (by first | exact PySem.F.type_list_append | exact PyProof.Rows.type_list_append) w_app (q_var 4) (qa_cons (q_var 6) qa_nil)))) qss_nil))) (qss_one (qs_set (i := 5) ndN (q_op w_add (q_var 5) q_int))))) (qss_cons (qs_set (i := 7) ndN (q_callT (T := "tuple") w_tup rfl F.b_tuple (by decide +kernel) (qa_cons (q_lc [("state", 9)] rfl ndN (qi_seq (q_var 4)) (blkOk_by (N := n_l_plain) (sc := defScope s_l_plain) (by decide +kernel)) (fun _ _ _ _ _ => (qv_name ndN (i := 9))) (fun _ _ _ _ _ => qts_nil) (fun _ _ _ _ _ => (q_ix hr.units (q_var 1) (q_var 9)))) qa_nil))) (qss_cons (qs_set (i := 8) ndN (q_callT (T := "tuple") w_tup rfl F.b_tuple (by decide +kernel) (qa_cons (q_lc [("state", 9)] rfl ndN (qi_seq (q_var 4)) (blkOk_by (N := n_l_plain) (sc := defScope s_l_plain) (by decide +kernel)) (fun _ _ _ _ _ => (qv_name ndN (i := 9))) (fun _ _ _ _ _ => qts_nil) (fun _ _ _ _ _ => (q_mt (by first | exact PySem.F.slot_list_index | exact PyProof.Rows.slot_list_index) (by first | exact PySem.F.type_list_index | exact PyProof.Rows.type_list_index) w_index (q_var 4) (qa_cons (q_ix hr.units (q_var 2) (q_var 9)) qa_nil)))) qa_nil))) (qss_one (qs_ret (q_tup (qa_cons (q_var 7) (qa_cons (q_var 8) (qa_cons (q_callT (T := "tuple") w_tup rfl F.b_tuple (by decide +kernel) (qa_cons (q_lc [("state", 9)] rfl ndN (qi_seq (q_var 4)) (blkOk_by (N := n_l_plain) (sc := defScope s_l_plain) (by decide +kernel)) (fun _ _ _ _ _ => (qv_name ndN (i := 9))) (fun _ _ _ _ _ => qts_nil) (fun _ _ _ _ _ => (q_mt (by first | exact PySem.F.slot_list_index | exact PyProof.Rows.slot_list_index) (by first | exact PySem.F.type_list_index | exact PyProof.Rows.type_list_index) w_index (q_var 4) (qa_cons (q_ix hr.units (q_var 3) (q_var 9)) qa_nil)))) qa_nil)) qa_nil))))))))))))

abbrev s_l_misses : Stmt := topS 15
abbrev n_l_misses : List Str := ["cell", "ways", "state", "misses", "way"]
theorem sc_l_misses : FnScope n_l_misses ["cell", "ways"] (defScope s_l_misses) := ⟨rfl, rfl, rfl, by decide +kernel, rfl, by decide +kernel, by decide +kernel⟩
theorem tr_l_misses {P : Program} {w : World} {K : PySem.W.Frag} {mg : Str → Option Value} {base : Heap} {k : Nat} (F : Fx mg) {f : Addr} {cdv : Value} {A : Around} {outer : List Env} {s : Shared} {H : Hp} {E : XK} {M : Me}
    (hr : Room k (A.deeper (envOfC "_law_misses" (defScope s_l_misses) s.heap.objs.size f cdv))) : QSs (fnCy P w K mg base n_l_misses "_law_misses" s_l_misses f cdv A outer s H E M) (defBody s_l_misses) (t_l_misses) := by
  have ndN := sc_l_misses.nd
  exact (qss_cons (qs_set (i := 2) ndN q_int) (qss_cons (qs_set (i := 3) ndN q_int) (qss_cons (qs_for PassesOwn.never rfl (qi_seq (q_var 1)) (qg_name ndN (i := 4)) (qss_cons (qs_set (i := 3) ndN (q_op w_add (q_var 3) (q_callT (T := "int") w_int rfl F.b_int (by decide +kernel) (qa_cons (q_cmp (w_ne hr.units) (q_ix hr.units (q_ix hr.units (q_var 0) q_int) (q_var 2)) (q_var 4)) qa_nil)))) (qss_one (qs_set (i := 2) ndN (q_ix hr.units (q_ix hr.units (q_var 0) (q_op w_add q_int (q_var 4))) (q_var 2)))))) (qss_one (qs_ret (q_var 3))))))

abbrev s_l_ways : Stmt := topS 16
abbrev n_l_ways : List Str := ["script", "deck", "kind", "cell", "size", "k", "around", "wrong", "state", "ways", "way"]
theorem sc_l_ways : FnScope n_l_ways ["script"] (defScope s_l_ways) := ⟨rfl, rfl, rfl, by decide +kernel, rfl, by decide +kernel, by decide +kernel⟩
theorem tr_l_ways {P : Program} {w : World} {K : PySem.W.Frag} {mg : Str → Option Value} {base : Heap} {k : Nat} (F : Fx mg) {c_l_deck : PSp} {c_l_cell_at : PSp} {c_l_take : PSp} {c_l_cell : PSp} (d_l_deck : Dk ⟨P, w, K⟩ mg base k "_law_deck" ["cell", "k"] c_l_deck) (d_l_cell_at : Dk ⟨P, w, K⟩ mg base k "_law_cell_at" ["script", "k"] c_l_cell_at) (d_l_take : Dk ⟨P, w, K⟩ mg base k "_law_take" ["deck", "many"] c_l_take) (d_l_cell : Dk ⟨P, w, K⟩ mg base k "_law_cell" ["deck", "most"] c_l_cell) {f : Addr} {cdv : Value} {A : Around} {outer : List Env} {s : Shared} {H : Hp} {E : XK} {M : Me}
    (hr : Room k (A.deeper (envOfC "_law_ways" (defScope s_l_ways) s.heap.objs.size f cdv))) : QSs (fnCy P w K mg base n_l_ways "_law_ways" s_l_ways f cdv A outer s H E M) (defBody s_l_ways) (t_l_ways c_l_deck c_l_cell_at c_l_take c_l_cell) := by
  have ndN := sc_l_ways.nd
  exact (qss_cons (qs_set (i := 1) ndN (q_fn d_l_deck hr rfl (qa_cons (q_fn d_l_cell_at hr rfl (qa_cons (q_var 0) (qa_cons q_int qa_nil))) (qa_cons q_int qa_nil)))) (qss_cons (qs_set (i := 2) ndN (q_fn d_l_take hr rfl (qa_cons (q_var 1) (qa_cons q_int qa_nil)))) (qss_cons (qs_if (qt_cmp (w_eq hr.units) (q_var 2) q_int) (qss_one (qs_ret (q_lc [("cell", 3)] rfl ndN (qi_seq (q_sl (q_var 0) (qo_some q_int) (qo_some q_int))) (blkOk_by (N := n_l_ways) (sc := defScope s_l_ways) (by decide +kernel)) (fun _ _ _ _ _ => (qv_name ndN (i := 3))) (fun _ _ _ _ _ => qts_nil) (fun _ _ _ _ _ => (q_fn d_l_take hr rfl (qa_cons (q_fn d_l_deck hr rfl (qa_cons (q_var 3) (qa_cons q_int qa_nil))) (qa_cons q_int qa_nil))))))) qss_nil) (qss_cons (qs_set (i := 4) ndN (q_fn d_l_take hr rfl (qa_cons (q_var 1) (qa_cons q_int qa_nil)))) (qss_cons (qs_if (qt_cmp (w_eq hr.units) (q_var 2) q_int) (qss_cons (qs_set (i := 6) ndN (q_lc [("k", 5)] rfl ndN (qi_rng1 rfl F.b_range (qa_cons (q_op w_add q_int (q_fn d_l_take hr rfl (qa_cons (q_var 1) (qa_cons q_int qa_nil)))) qa_nil)) (blkOk_by (N := n_l_ways) (sc := defScope s_l_ways) (by decide +kernel)) (fun _ _ _ _ _ => (qv_name ndN (i := 5))) (fun _ _ _ _ _ => qts_nil) (fun _ _ _ _ _ => (q_fn d_l_take hr rfl (qa_cons (q_var 1) (qa_cons q_int qa_nil)))))) (qss_one (qs_ret (q_lc [("k", 5)] rfl ndN (qi_rng1 rfl F.b_range (qa_cons (q_var 4) qa_nil)) (blkOk_by (N := n_l_ways) (sc := defScope s_l_ways) (by decide +kernel)) (fun _ _ _ _ _ => (qv_name ndN (i := 5))) (fun _ _ _ _ _ => qts_nil) (fun _ _ _ _ _ => (q_ix hr.units (q_var 6) (q_op w_mod (q_var 5) (q_callB (id := "len") w_len rfl F.b_len (by decide +kernel) (qa_cons (q_var 6) qa_nil))))))))) qss_nil) (qss_cons (qs_set (i := 3) ndN (q_fn d_l_cell hr rfl (qa_cons (q_var 1) (qa_cons q_int qa_nil)))) (qss_cons (qs_set (i := 7) ndN (q_op w_add q_int (q_fn d_l_take hr rfl (qa_cons (q_var 1) (qa_cons q_int qa_nil))))) (qss_cons (qs_set (i := 8) ndN q_int) (qss_cons (qs_set (i := 9) ndN (q_lst qa_nil)) (qss_cons (qs_for PassesOwn.never rfl (qi_rng1 rfl F.b_range (qa_cons (q_var 4) qa_nil)) (qg_name ndN (i := 5)) (qss_cons (qs_set (i := 10) ndN (q_ix hr.units (q_ix hr.units (q_var 3) q_int) (q_var 8))) (qss_cons (qs_if (qt_cmp (w_eq hr.units) (q_op w_mod (q_var 5) (q_var 7)) (q_op w_sub (q_var 7) q_int)) (qss_one (qs_set (i := 10) ndN (q_op w_sub q_int (q_var 10)))) qss_nil) (qss_cons (qs_expr (q_mt (by first | exact PySem.F.slot_list_append | exact PyProof.Rows.slot_list_append) (by first | exact PySem.F.type_list_append | exact PyProof.Rows.type_list_append) w_app (q_var 9) (qa_cons (q_var 10) qa_nil))) (qss_one (qs_set (i := 8) ndN (q_ix hr.units (q_ix hr.units (q_var 3) (q_op w_add q_int (q_var 10))) (q_var 8)))))))) (qss_one (qs_ret (q_var 9)))))))))))))

abbrev s_l_none_better : Stmt := topS 17
abbrev n_l_none_better : List Str := ["cells", "ways", "most", "told", "here", "cell", "plain", "size"]
theorem sc_l_none_better : FnScope n_l_none_better ["cells", "ways", "most", "told"] (defScope s_l_none_better) := ⟨rfl, rfl, rfl, by decide +kernel, rfl, by decide +kernel, by decide +kernel⟩
theorem tr_l_none_better {P : Program} {w : World} {K : PySem.W.Frag} {mg : Str → Option Value} {base : Heap} {k : Nat} (F : Fx mg) {c_l_plain : PSp} {c_l_misses : PSp} (d_l_plain : Dk ⟨P, w, K⟩ mg base k "_law_plain" ["cell"] c_l_plain) (d_l_misses : Dk ⟨P, w, K⟩ mg base k "_law_misses" ["cell", "ways"] c_l_misses) {f : Addr} {cdv : Value} {A : Around} {outer : List Env} {s : Shared} {H : Hp} {E : XK} {M : Me}
    (hr : Room k (A.deeper (envOfC "_law_none_better" (defScope s_l_none_better) s.heap.objs.size f cdv))) : QSs (fnCy P w K mg base n_l_none_better "_law_none_better" s_l_none_better f cdv A outer s H E M) (defBody s_l_none_better) (t_l_none_better c_l_plain c_l_misses) := by
  have ndN := sc_l_none_better.nd
  exact (qss_cons (qs_set (i := 4) ndN (q_tup (qa_cons (q_ix hr.units (q_var 3) q_int) (qa_cons (q_callB (id := "len") w_len rfl F.b_len (by decide +kernel) (qa_cons (q_ix hr.units (q_ix hr.units (q_var 3) q_int) q_int) qa_nil)) (qa_cons (q_ix hr.units (q_var 3) q_int) qa_nil))))) (qss_cons (qs_for PassesOwn.never rfl (qi_seq (q_var 0)) (qg_name ndN (i := 5)) (qss_cons (qs_set (i := 6) ndN (q_fn d_l_plain hr rfl (qa_cons (q_var 5) qa_nil))) (qss_cons (qs_set (i := 7) ndN (q_callB (id := "len") w_len rfl F.b_len (by decide +kernel) (qa_cons (q_ix hr.units (q_var 6) q_int) qa_nil))) (qss_one (qs_if (QW.pt (qw_and (qt_cmp w_le (q_var 7) (q_var 2)) (qw_and1 (qt_cmp (w_ltD hr.units) (q_tup (qa_cons (q_fn d_l_misses hr rfl (qa_cons (q_var 6) (qa_cons (q_var 1) qa_nil))) (qa_cons (q_var 7) (qa_cons (q_var 6) qa_nil)))) (q_var 4))))) (qss_one (qs_ret q_bl)) qss_nil))))) (qss_one (qs_ret q_bl))))

abbrev s_l_is_whole : Stmt := topS 18
abbrev n_l_is_whole : List Str := ["cell", "row", "one"]
theorem sc_l_is_whole : FnScope n_l_is_whole ["cell"] (defScope s_l_is_whole) := ⟨rfl, rfl, rfl, by decide +kernel, rfl, by decide +kernel, by decide +kernel⟩
theorem tr_l_is_whole {P : Program} {w : World} {K : PySem.W.Frag} {mg : Str → Option Value} {base : Heap} {k : Nat} (F : Fx mg) {f : Addr} {cdv : Value} {A : Around} {outer : List Env} {s : Shared} {H : Hp} {E : XK} {M : Me}
    (hr : Room k (A.deeper (envOfC "_law_is_whole" (defScope s_l_is_whole) s.heap.objs.size f cdv))) : QSs (fnCy P w K mg base n_l_is_whole "_law_is_whole" s_l_is_whole f cdv A outer s H E M) (defBody s_l_is_whole) (t_l_is_whole) := by
  have ndN := sc_l_is_whole.nd
  exact (qss_cons (qs_if (qt_not (qt_val (q_isi .tuple (q_var 0) rfl F.b_isinstance rfl F.b_tuple))) (qss_one (qs_ret q_bl)) qss_nil) (qss_cons (qs_for PassesOwn.never rfl (qi_seq (q_var 0)) (qg_name ndN (i := 1)) (qss_cons (qs_if (qt_not (qt_val (q_isi .tuple (q_var 1) rfl F.b_isinstance rfl F.b_tuple))) (qss_one (qs_ret q_bl)) qss_nil) (qss_one (qs_if (qt_cmp (w_ne hr.units) (q_lc [("one", 2)] rfl ndN (qi_seq (q_var 1)) (blkOk_by (N := n_l_is_whole) (sc := defScope s_l_is_whole) (by decide +kernel)) (fun _ _ _ _ _ => (qv_name ndN (i := 2))) (fun _ _ _ _ _ => (qts_one (QW.pt (qw_or (qt_not (qt_val (q_isi .int (q_var 2) rfl F.b_isinstance rfl F.b_int))) (qw_or1 (qt_val (q_isi .bool (q_var 2) rfl F.b_isinstance rfl F.b_bool))))))) (fun _ _ _ _ _ => (q_var 2))) (q_lst qa_nil)) (qss_one (qs_ret q_bl)) qss_nil)))) (qss_one (qs_ret q_bl))))

abbrev s_lawm : Stmt := topS 19
abbrev n_lawm : List Str := ["script", "ways", "cells", "elder", "most", "told", "cell", "way"]
theorem sc_lawm : FnScope n_lawm ["script"] (defScope s_lawm) := ⟨rfl, rfl, rfl, by decide +kernel, rfl, by decide +kernel, by decide +kernel⟩
theorem tr_lawm {P : Program} {w : World} {K : PySem.W.Frag} {mg : Str → Option Value} {base : Heap} {k : Nat} (F : Fx mg) {c_l_ways : PSp} {c_l_cell : PSp} {c_l_deck : PSp} {c_p_best_cell : PSp} {c_l_is_whole : PSp} {c_l_plain : PSp} {c_l_misses : PSp} {c_l_none_better : PSp} (d_l_ways : Dk ⟨P, w, K⟩ mg base k "_law_ways" ["script"] c_l_ways) (d_l_cell : Dk ⟨P, w, K⟩ mg base k "_law_cell" ["deck", "most"] c_l_cell) (d_l_deck : Dk ⟨P, w, K⟩ mg base k "_law_deck" ["cell", "k"] c_l_deck) (d_p_best_cell : Dk ⟨P, w, K⟩ mg base k "best_cell" ["ways", "many"] c_p_best_cell) (d_l_is_whole : Dk ⟨P, w, K⟩ mg base k "_law_is_whole" ["cell"] c_l_is_whole) (d_l_plain : Dk ⟨P, w, K⟩ mg base k "_law_plain" ["cell"] c_l_plain) (d_l_misses : Dk ⟨P, w, K⟩ mg base k "_law_misses" ["cell", "ways"] c_l_misses) (d_l_none_better : Dk ⟨P, w, K⟩ mg base k "_law_none_better" ["cells", "ways", "most", "told"] c_l_none_better) {f : Addr} {cdv : Value} {A : Around} {outer : List Env} {s : Shared} {H : Hp} {E : XK} {M : Me}
    (hr : Room k (A.deeper (envOfC "law" (defScope s_lawm) s.heap.objs.size f cdv))) : QSs (fnCy P w K mg base n_lawm "law" s_lawm f cdv A outer s H E M) (defBody s_lawm) (t_lawm c_l_ways c_l_cell c_l_deck c_p_best_cell c_l_is_whole c_l_plain c_l_misses c_l_none_better) := by
  have ndN := sc_lawm.nd
  exact (qss_cons (qs_set (i := 1) ndN (q_fn d_l_ways hr rfl (qa_cons (q_var 0) qa_nil))) (qss_cons (qs_setLc (i := 2) [("cell", 6)] rfl ndN (qi_seq (q_sl (q_var 0) (qo_some q_int) (qo_some q_int))) (blkOk_by (N := n_lawm) (sc := defScope s_lawm) (by decide +kernel)) (fun _ _ _ _ _ => (qv_name ndN (i := 6))) (fun _ _ _ _ _ => qts_nil) (fun _ _ _ _ _ => (q_fn d_l_cell hr rfl (qa_cons (q_fn d_l_deck hr rfl (qa_cons (q_var 6) (qa_cons q_int qa_nil))) (qa_cons q_int qa_nil))))) (qss_cons (qs_set (i := 3) ndN q_non) (qss_cons (qs_for PassesOwn.never rfl (qi_seq (q_tup (qa_cons q_int (qa_cons q_int (qa_cons q_int qa_nil))))) (qg_name ndN (i := 4)) (qss_cons (qs_set (i := 5) ndN (q_fn d_p_best_cell hr rfl (qa_cons (q_callT (T := "list") w_lst rfl F.b_list (by decide +kernel) (qa_cons (q_var 1) qa_nil)) (qa_cons (q_var 4) qa_nil)))) (qss_cons (qs_if (QW.pt (qw_or (qt_not (qt_val (q_fn d_l_is_whole hr rfl (qa_cons (q_ix hr.units (q_var 5) q_int) qa_nil)))) (qw_or1 (qt_val (q_isi .bool (q_ix hr.units (q_var 5) q_int) rfl F.b_isinstance rfl F.b_bool))))) (qss_one (qs_ret q_bl)) qss_nil) (qss_cons (qs_if (QW.pt (qw_or (qt_cmp w_gt (q_callB (id := "len") w_len rfl F.b_len (by decide +kernel) (qa_cons (q_ix hr.units (q_ix hr.units (q_var 5) q_int) q_int) qa_nil)) (q_var 4)) (qw_or (qt_cmp (w_ne hr.units) (q_fn d_l_plain hr rfl (qa_cons (q_ix hr.units (q_var 5) q_int) qa_nil)) (q_ix hr.units (q_var 5) q_int)) (qw_or1 (qt_cmp (w_ne hr.units) (q_fn d_l_misses hr rfl (qa_cons (q_ix hr.units (q_var 5) q_int) (qa_cons (q_var 1) qa_nil))) (q_ix hr.units (q_var 5) q_int)))))) (qss_one (qs_ret q_bl)) qss_nil) (qss_cons (qs_if (QW.pt (qw_or (qt_not (qt_val (q_fn d_l_none_better hr rfl (qa_cons (q_var 2) (qa_cons (q_var 1) (qa_cons (q_var 4) (qa_cons (q_var 5) qa_nil))))))) (qw_or1 (QW.pt (qw_and (qt_cmp w_isnot (q_var 3) q_non) (qw_and1 (qt_cmp w_gt (q_ix hr.units (q_var 5) q_int) (q_var 3)))))))) (qss_one (qs_ret q_bl)) qss_nil) (qss_one (qs_set (i := 3) ndN (q_ix hr.units (q_var 5) q_int)))))))) (qss_one (qs_ret (q_cmp (w_eq hr.units) (q_ix hr.units (q_fn d_p_best_cell hr rfl (qa_cons (q_lc [("way", 7)] rfl ndN (qi_seq (q_var 1)) (blkOk_by (N := n_lawm) (sc := defScope s_lawm) (by decide +kernel)) (fun _ _ _ _ _ => (qv_name ndN (i := 7))) (fun _ _ _ _ _ => qts_nil) (fun _ _ _ _ _ => (q_op w_sub q_int (q_var 7)))) (qa_cons q_int qa_nil))) q_int) (q_ix hr.units (q_fn d_p_best_cell hr rfl (qa_cons (q_callT (T := "list") w_lst rfl F.b_list (by decide +kernel) (qa_cons (q_var 1) qa_nil)) (qa_cons q_int qa_nil))) q_int))))))))

end PV
set_option maxHeartbeats 4000000
namespace PV
open PySem PySem.Spec PyProof.Rows L2
theorem len_sp_in_order (ws M Q E) (h : sp_in_order ws M Q E) : ws.length = 2 := by
  unfold sp_in_order at h
  split at h <;> first | rfl | exact h.elim
theorem len_sp_plain (ws M Q E) (h : sp_plain ws M Q E) : ws.length = 1 := by
  unfold sp_plain at h
  split at h <;> first | rfl | exact h.elim
theorem len_sp_cell_misses (ws M Q E) (h : sp_cell_misses ws M Q E) : ws.length = 2 := by
  unfold sp_cell_misses at h
  split at h <;> first | rfl | exact h.elim
theorem len_sp_figures (ws M Q E) (h : sp_figures ws M Q E) : ws.length = 3 := by
  unfold sp_figures at h
  split at h <;> first | rfl | exact h.elim
theorem len_sp_power (ws M Q E) (h : sp_power ws M Q E) : ws.length = 2 := by
  unfold sp_power at h
  split at h <;> first | rfl | exact h.elim
theorem len_sp_cells_of (ws M Q E) (h : sp_cells_of ws M Q E) : ws.length = 1 := by
  unfold sp_cells_of at h
  split at h <;> first | rfl | exact h.elim
theorem len_sp_best (ws M Q E) (h : sp_best ws M Q E) : ws.length = 2 := by
  unfold sp_best at h
  split at h <;> first | rfl | exact h.elim
theorem len_sp_cell_at (ws M Q E) (h : sp_cell_at ws M Q E) : ws.length = 2 := by
  unfold sp_cell_at at h
  split at h <;> first | rfl | exact h.elim
theorem len_sp_dtake (ws M Q E) (h : sp_dtake ws M Q E) : ws.length = 2 := by
  unfold sp_dtake at h
  split at h <;> first | rfl | exact h.elim
theorem len_sp_deck (ws M Q E) (h : sp_deck ws M Q E) : ws.length = 2 := by
  unfold sp_deck at h
  split at h <;> first | rfl | exact h.elim
theorem len_sp_dcell (ws M Q E) (h : sp_dcell ws M Q E) : ws.length = 2 := by
  unfold sp_dcell at h
  split at h <;> first | rfl | exact h.elim
theorem len_sp_ways (ws M Q E) (h : sp_ways ws M Q E) : ws.length = 1 := by
  unfold sp_ways at h
  split at h <;> first | rfl | exact h.elim
theorem len_sp_none (ws M Q E) (h : sp_none ws M Q E) : ws.length = 4 := by
  unfold sp_none at h
  split at h <;> first | rfl | exact h.elim
theorem len_sp_whole (ws M Q E) (h : sp_whole ws M Q E) : ws.length = 1 := by
  unfold sp_whole at h
  split at h <;> first | rfl | exact h.elim
theorem len_spLaw (ws M Q E) (h : spLaw ws M Q E) : ws.length = 1 := by
  obtain ⟨ns, rfl, _⟩ := h
  rfl
theorem all_mk {P : Program} {w : World} {K : PySem.W.Frag} {h : Heap} {mg : Str → Option Value} {fa f0 f1 f2 f3 f4 f5 f6 f7 f8 f9 f10 f11 f12 f13 f14 f15 f16 : Addr} (X : K.In h) (G : h.Ns mainGlobals mg) (hfa : mg "law" = some (.ref fa))
    {od0 an0 od1 an1 od2 an2 od3 an3 od4 an4 od5 an5 od6 an6 od7 an7 od8 an8 od9 an9 od10 an10 od11 an11 od12 an12 od13 an13 od14 an14 od15 an15 od16 an16 : Option Addr} {sl0 sl1 sl2 sl3 sl4 sl5 sl6 sl7 sl8 sl9 sl10 sl11 sl12 sl13 sl14 sl15 sl16 : Array (Option Value)} {oc0 kV0 dc0 pm0 cd0 ct0 oc1 kV1 dc1 pm1 cd1 ct1 oc2 kV2 dc2 pm2 cd2 ct2 oc3 kV3 dc3 pm3 cd3 ct3 oc4 kV4 dc4 pm4 cd4 ct4 oc5 kV5 dc5 pm5 cd5 ct5 oc6 kV6 dc6 pm6 cd6 ct6 oc7 kV7 dc7 pm7 cd7 ct7 oc8 kV8 dc8 pm8 cd8 ct8 oc9 kV9 dc9 pm9 cd9 ct9 oc10 kV10 dc10 pm10 cd10 ct10 oc11 kV11 dc11 pm11 cd11 ct11 oc12 kV12 dc12 pm12 cd12 ct12 oc13 kV13 dc13 pm13 cd13 ct13 oc14 kV14 dc14 pm14 cd14 ct14 oc15 kV15 dc15 pm15 cd15 ct15 oc16 kV16 dc16 pm16 cd16 ct16 : Value}
    (a0 : PySem.W.nsIn K mainGlobals "in_order" = some (some (.ref f0))) (l0 : K.lookup f0 = some ⟨oc0, od0, .func (PySem.W.fnOf "in_order" "in_order" (defArgs s_p_in_order) (defBody s_p_in_order) (defScope s_p_in_order) .none kV0 dc0 pm0 an0 cd0 ct0), sl0⟩) (c0 : PySem.W.codeIn K cd0 "in_order" = true) (k0 : PySem.W.keepIn K (.ref f0) = true)
    (a1 : PySem.W.nsIn K mainGlobals "plain_cell" = some (some (.ref f1))) (l1 : K.lookup f1 = some ⟨oc1, od1, .func (PySem.W.fnOf "plain_cell" "plain_cell" (defArgs s_p_plain_cell) (defBody s_p_plain_cell) (defScope s_p_plain_cell) .none kV1 dc1 pm1 an1 cd1 ct1), sl1⟩) (c1 : PySem.W.codeIn K cd1 "plain_cell" = true) (k1 : PySem.W.keepIn K (.ref f1) = true)
    (a2 : PySem.W.nsIn K mainGlobals "cell_misses" = some (some (.ref f2))) (l2 : K.lookup f2 = some ⟨oc2, od2, .func (PySem.W.fnOf "cell_misses" "cell_misses" (defArgs s_p_cell_misses) (defBody s_p_cell_misses) (defScope s_p_cell_misses) .none kV2 dc2 pm2 an2 cd2 ct2), sl2⟩) (c2 : PySem.W.codeIn K cd2 "cell_misses" = true) (k2 : PySem.W.keepIn K (.ref f2) = true)
    (a3 : PySem.W.nsIn K mainGlobals "figures" = some (some (.ref f3))) (l3 : K.lookup f3 = some ⟨oc3, od3, .func (PySem.W.fnOf "figures" "figures" (defArgs s_p_figures) (defBody s_p_figures) (defScope s_p_figures) .none kV3 dc3 pm3 an3 cd3 ct3), sl3⟩) (c3 : PySem.W.codeIn K cd3 "figures" = true) (k3 : PySem.W.keepIn K (.ref f3) = true)
    (a4 : PySem.W.nsIn K mainGlobals "power" = some (some (.ref f4))) (l4 : K.lookup f4 = some ⟨oc4, od4, .func (PySem.W.fnOf "power" "power" (defArgs s_p_power) (defBody s_p_power) (defScope s_p_power) .none kV4 dc4 pm4 an4 cd4 ct4), sl4⟩) (c4 : PySem.W.codeIn K cd4 "power" = true) (k4 : PySem.W.keepIn K (.ref f4) = true)
    (a5 : PySem.W.nsIn K mainGlobals "cells_of" = some (some (.ref f5))) (l5 : K.lookup f5 = some ⟨oc5, od5, .func (PySem.W.fnOf "cells_of" "cells_of" (defArgs s_p_cells_of) (defBody s_p_cells_of) (defScope s_p_cells_of) .none kV5 dc5 pm5 an5 cd5 ct5), sl5⟩) (c5 : PySem.W.codeIn K cd5 "cells_of" = true) (k5 : PySem.W.keepIn K (.ref f5) = true)
    (a6 : PySem.W.nsIn K mainGlobals "best_cell" = some (some (.ref f6))) (l6 : K.lookup f6 = some ⟨oc6, od6, .func (PySem.W.fnOf "best_cell" "best_cell" (defArgs s_p_best_cell) (defBody s_p_best_cell) (defScope s_p_best_cell) .none kV6 dc6 pm6 an6 cd6 ct6), sl6⟩) (c6 : PySem.W.codeIn K cd6 "best_cell" = true) (k6 : PySem.W.keepIn K (.ref f6) = true)
    (a7 : PySem.W.nsIn K mainGlobals "_law_cell_at" = some (some (.ref f7))) (l7 : K.lookup f7 = some ⟨oc7, od7, .func (PySem.W.fnOf "_law_cell_at" "_law_cell_at" (defArgs s_l_cell_at) (defBody s_l_cell_at) (defScope s_l_cell_at) .none kV7 dc7 pm7 an7 cd7 ct7), sl7⟩) (c7 : PySem.W.codeIn K cd7 "_law_cell_at" = true) (k7 : PySem.W.keepIn K (.ref f7) = true)
    (a8 : PySem.W.nsIn K mainGlobals "_law_take" = some (some (.ref f8))) (l8 : K.lookup f8 = some ⟨oc8, od8, .func (PySem.W.fnOf "_law_take" "_law_take" (defArgs s_l_take) (defBody s_l_take) (defScope s_l_take) .none kV8 dc8 pm8 an8 cd8 ct8), sl8⟩) (c8 : PySem.W.codeIn K cd8 "_law_take" = true) (k8 : PySem.W.keepIn K (.ref f8) = true)
    (a9 : PySem.W.nsIn K mainGlobals "_law_deck" = some (some (.ref f9))) (l9 : K.lookup f9 = some ⟨oc9, od9, .func (PySem.W.fnOf "_law_deck" "_law_deck" (defArgs s_l_deck) (defBody s_l_deck) (defScope s_l_deck) .none kV9 dc9 pm9 an9 cd9 ct9), sl9⟩) (c9 : PySem.W.codeIn K cd9 "_law_deck" = true) (k9 : PySem.W.keepIn K (.ref f9) = true)
    (a10 : PySem.W.nsIn K mainGlobals "_law_cell" = some (some (.ref f10))) (l10 : K.lookup f10 = some ⟨oc10, od10, .func (PySem.W.fnOf "_law_cell" "_law_cell" (defArgs s_l_cell) (defBody s_l_cell) (defScope s_l_cell) .none kV10 dc10 pm10 an10 cd10 ct10), sl10⟩) (c10 : PySem.W.codeIn K cd10 "_law_cell" = true) (k10 : PySem.W.keepIn K (.ref f10) = true)
    (a11 : PySem.W.nsIn K mainGlobals "_law_plain" = some (some (.ref f11))) (l11 : K.lookup f11 = some ⟨oc11, od11, .func (PySem.W.fnOf "_law_plain" "_law_plain" (defArgs s_l_plain) (defBody s_l_plain) (defScope s_l_plain) .none kV11 dc11 pm11 an11 cd11 ct11), sl11⟩) (c11 : PySem.W.codeIn K cd11 "_law_plain" = true) (k11 : PySem.W.keepIn K (.ref f11) = true)
    (a12 : PySem.W.nsIn K mainGlobals "_law_misses" = some (some (.ref f12))) (l12 : K.lookup f12 = some ⟨oc12, od12, .func (PySem.W.fnOf "_law_misses" "_law_misses" (defArgs s_l_misses) (defBody s_l_misses) (defScope s_l_misses) .none kV12 dc12 pm12 an12 cd12 ct12), sl12⟩) (c12 : PySem.W.codeIn K cd12 "_law_misses" = true) (k12 : PySem.W.keepIn K (.ref f12) = true)
    (a13 : PySem.W.nsIn K mainGlobals "_law_ways" = some (some (.ref f13))) (l13 : K.lookup f13 = some ⟨oc13, od13, .func (PySem.W.fnOf "_law_ways" "_law_ways" (defArgs s_l_ways) (defBody s_l_ways) (defScope s_l_ways) .none kV13 dc13 pm13 an13 cd13 ct13), sl13⟩) (c13 : PySem.W.codeIn K cd13 "_law_ways" = true) (k13 : PySem.W.keepIn K (.ref f13) = true)
    (a14 : PySem.W.nsIn K mainGlobals "_law_none_better" = some (some (.ref f14))) (l14 : K.lookup f14 = some ⟨oc14, od14, .func (PySem.W.fnOf "_law_none_better" "_law_none_better" (defArgs s_l_none_better) (defBody s_l_none_better) (defScope s_l_none_better) .none kV14 dc14 pm14 an14 cd14 ct14), sl14⟩) (c14 : PySem.W.codeIn K cd14 "_law_none_better" = true) (k14 : PySem.W.keepIn K (.ref f14) = true)
    (a15 : PySem.W.nsIn K mainGlobals "_law_is_whole" = some (some (.ref f15))) (l15 : K.lookup f15 = some ⟨oc15, od15, .func (PySem.W.fnOf "_law_is_whole" "_law_is_whole" (defArgs s_l_is_whole) (defBody s_l_is_whole) (defScope s_l_is_whole) .none kV15 dc15 pm15 an15 cd15 ct15), sl15⟩) (c15 : PySem.W.codeIn K cd15 "_law_is_whole" = true) (k15 : PySem.W.keepIn K (.ref f15) = true)
    (a16 : PySem.W.nsIn K mainGlobals "law" = some (some (.ref f16))) (l16 : K.lookup f16 = some ⟨oc16, od16, .func (PySem.W.fnOf "law" "law" (defArgs s_lawm) (defBody s_lawm) (defScope s_lawm) .none kV16 dc16 pm16 an16 cd16 ct16), sl16⟩) (c16 : PySem.W.codeIn K cd16 "law" = true) (k16 : PySem.W.keepIn K (.ref f16) = true)
    (z_bool : PySem.W.nsIn K mainGlobals "bool" = some none)
    (z_int : PySem.W.nsIn K mainGlobals "int" = some none)
    (z_isinstance : PySem.W.nsIn K mainGlobals "isinstance" = some none)
    (z_len : PySem.W.nsIn K mainGlobals "len" = some none)
    (z_list : PySem.W.nsIn K mainGlobals "list" = some none)
    (z_range : PySem.W.nsIn K mainGlobals "range" = some none)
    (z_tuple : PySem.W.nsIn K mainGlobals "tuple" = some none)
    : ∃ fd : FuncData, (∀ (s : Shared) (v : Value), BindsTo s fd ⟨[v], []⟩ [("script", v)]) ∧ ∀ base : Heap, K.In base → base.Ns mainGlobals mg → FnOk P w K mg base CX0 5 fa fd ["script"] (upSp ⟨P, w, K⟩ spLaw) := by
  have e := hfa.symm.trans (PySem.W.mg_of X G a16)
  cases e
  have T : Fx mg := ⟨PySem.W.mg_none_of X G z_bool, PySem.W.mg_none_of X G z_int, PySem.W.mg_none_of X G z_isinstance, PySem.W.mg_none_of X G z_len, PySem.W.mg_none_of X G z_list, PySem.W.mg_none_of X G z_range, PySem.W.mg_none_of X G z_tuple⟩
  have F0 := fun_mk (st := s_p_in_order) l0 c0 k0
  have F1 := fun_mk (st := s_p_plain_cell) l1 c1 k1
  have F2 := fun_mk (st := s_p_cell_misses) l2 c2 k2
  have F3 := fun_mk (st := s_p_figures) l3 c3 k3
  have F4 := fun_mk (st := s_p_power) l4 c4 k4
  have F5 := fun_mk (st := s_p_cells_of) l5 c5 k5
  have F6 := fun_mk (st := s_p_best_cell) l6 c6 k6
  have F7 := fun_mk (st := s_l_cell_at) l7 c7 k7
  have F8 := fun_mk (st := s_l_take) l8 c8 k8
  have F9 := fun_mk (st := s_l_deck) l9 c9 k9
  have F10 := fun_mk (st := s_l_cell) l10 c10 k10
  have F11 := fun_mk (st := s_l_plain) l11 c11 k11
  have F12 := fun_mk (st := s_l_misses) l12 c12 k12
  have F13 := fun_mk (st := s_l_ways) l13 c13 k13
  have F14 := fun_mk (st := s_l_none_better) l14 c14 k14
  have F15 := fun_mk (st := s_l_is_whole) l15 c15 k15
  have F16 := fun_mk (st := s_lawm) l16 c16 k16
  refine ⟨PySem.W.fnOf "law" "law" (defArgs s_lawm) (defBody s_lawm) (defScope s_lawm) .none kV16 dc16 pm16 an16 cd16 ct16, fun s v => .of_eq rfl, fun base _ _ => ?_⟩
  have D_p_in_order : Dk ⟨P, w, K⟩ mg base 1 "in_order" ["cell", "first"] sp_in_order := ⟨_, _, PySem.W.mg_of X G a0, k0, F0.binds (fun _ _ _ _ _ _ us hl => match us, hl with | [_, _], _ => rfl), fn_ok (k := 0) (sp := sp_in_order) F0 sc_p_in_order len_sp_in_order (fun cdv A outer s H E M hr => tr_p_in_order T hr) rd_in_order⟩
  have D_p_plain_cell : Dk ⟨P, w, K⟩ mg base 2 "plain_cell" ["cell"] sp_plain := ⟨_, _, PySem.W.mg_of X G a1, k1, F1.binds (fun _ _ _ _ _ _ us hl => match us, hl with | [_], _ => rfl), fn_ok (k := 1) (sp := sp_plain) F1 sc_p_plain_cell len_sp_plain (fun cdv A outer s H E M hr => tr_p_plain_cell T (D_p_in_order.mono (by decide)) hr) rd_plain_cell⟩
  have D_p_cell_misses : Dk ⟨P, w, K⟩ mg base 1 "cell_misses" ["cell", "ways"] sp_cell_misses := ⟨_, _, PySem.W.mg_of X G a2, k2, F2.binds (fun _ _ _ _ _ _ us hl => match us, hl with | [_, _], _ => rfl), fn_ok (k := 0) (sp := sp_cell_misses) F2 sc_p_cell_misses len_sp_cell_misses (fun cdv A outer s H E M hr => tr_p_cell_misses T hr) rd_cell_misses⟩
  have D_p_figures : Dk ⟨P, w, K⟩ mg base 1 "figures" ["number", "base", "many"] sp_figures := ⟨_, _, PySem.W.mg_of X G a3, k3, F3.binds (fun _ _ _ _ _ _ us hl => match us, hl with | [_, _, _], _ => rfl), fn_ok (k := 0) (sp := sp_figures) F3 sc_p_figures len_sp_figures (fun cdv A outer s H E M hr => tr_p_figures T hr) rd_figures⟩
  have D_p_power : Dk ⟨P, w, K⟩ mg base 1 "power" ["base", "many"] sp_power := ⟨_, _, PySem.W.mg_of X G a4, k4, F4.binds (fun _ _ _ _ _ _ us hl => match us, hl with | [_, _], _ => rfl), fn_ok (k := 0) (sp := sp_power) F4 sc_p_power len_sp_power (fun cdv A outer s H E M hr => tr_p_power T hr) rd_power⟩
  have D_p_cells_of : Dk ⟨P, w, K⟩ mg base 3 "cells_of" ["many"] sp_cells_of := ⟨_, _, PySem.W.mg_of X G a5, k5, F5.binds (fun _ _ _ _ _ _ us hl => match us, hl with | [_], _ => rfl), fn_ok (k := 2) (sp := sp_cells_of) F5 sc_p_cells_of len_sp_cells_of (fun cdv A outer s H E M hr => tr_p_cells_of T (D_p_power.mono (by decide)) (D_p_figures.mono (by decide)) (D_p_plain_cell.mono (by decide)) hr) rd_cells_of⟩
  have D_p_best_cell : Dk ⟨P, w, K⟩ mg base 4 "best_cell" ["ways", "many"] sp_best := ⟨_, _, PySem.W.mg_of X G a6, k6, F6.binds (fun _ _ _ _ _ _ us hl => match us, hl with | [_, _], _ => rfl), fn_ok (k := 3) (sp := sp_best) F6 sc_p_best_cell len_sp_best (fun cdv A outer s H E M hr => tr_p_best_cell T (D_p_cells_of.mono (by decide)) (D_p_cell_misses.mono (by decide)) hr) rd_best_cell⟩
  have D_l_cell_at : Dk ⟨P, w, K⟩ mg base 1 "_law_cell_at" ["script", "k"] sp_cell_at := ⟨_, _, PySem.W.mg_of X G a7, k7, F7.binds (fun _ _ _ _ _ _ us hl => match us, hl with | [_, _], _ => rfl), fn_ok (k := 0) (sp := sp_cell_at) F7 sc_l_cell_at len_sp_cell_at (fun cdv A outer s H E M hr => tr_l_cell_at T hr) rd_cell_at⟩
  have D_l_take : Dk ⟨P, w, K⟩ mg base 1 "_law_take" ["deck", "many"] sp_dtake := ⟨_, _, PySem.W.mg_of X G a8, k8, F8.binds (fun _ _ _ _ _ _ us hl => match us, hl with | [_, _], _ => rfl), fn_ok (k := 0) (sp := sp_dtake) F8 sc_l_take len_sp_dtake (fun cdv A outer s H E M hr => tr_l_take T hr) rd_dtake⟩
  have D_l_deck : Dk ⟨P, w, K⟩ mg base 1 "_law_deck" ["cell", "k"] sp_deck := ⟨_, _, PySem.W.mg_of X G a9, k9, F9.binds (fun _ _ _ _ _ _ us hl => match us, hl with | [_, _], _ => rfl), fn_ok (k := 0) (sp := sp_deck) F9 sc_l_deck len_sp_deck (fun cdv A outer s H E M hr => tr_l_deck T hr) rd_deck⟩
  have D_l_cell : Dk ⟨P, w, K⟩ mg base 2 "_law_cell" ["deck", "most"] sp_dcell := ⟨_, _, PySem.W.mg_of X G a10, k10, F10.binds (fun _ _ _ _ _ _ us hl => match us, hl with | [_, _], _ => rfl), fn_ok (k := 1) (sp := sp_dcell) F10 sc_l_cell len_sp_dcell (fun cdv A outer s H E M hr => tr_l_cell T (D_l_take.mono (by decide)) hr) rd_dcell⟩
  have D_l_plain : Dk ⟨P, w, K⟩ mg base 1 "_law_plain" ["cell"] sp_plain := ⟨_, _, PySem.W.mg_of X G a11, k11, F11.binds (fun _ _ _ _ _ _ us hl => match us, hl with | [_], _ => rfl), fn_ok (k := 0) (sp := sp_plain) F11 sc_l_plain len_sp_plain (fun cdv A outer s H E M hr => tr_l_plain T hr) rd_plain⟩
  have D_l_misses : Dk ⟨P, w, K⟩ mg base 1 "_law_misses" ["cell", "ways"] sp_cell_misses := ⟨_, _, PySem.W.mg_of X G a12, k12, F12.binds (fun _ _ _ _ _ _ us hl => match us, hl with | [_, _], _ => rfl), fn_ok (k := 0) (sp := sp_cell_misses) F12 sc_l_misses len_sp_cell_misses (fun cdv A outer s H E M hr => tr_l_misses T hr) rd_misses⟩
  have D_l_ways : Dk ⟨P, w, K⟩ mg base 3 "_law_ways" ["script"] sp_ways := ⟨_, _, PySem.W.mg_of X G a13, k13, F13.binds (fun _ _ _ _ _ _ us hl => match us, hl with | [_], _ => rfl), fn_ok (k := 2) (sp := sp_ways) F13 sc_l_ways len_sp_ways (fun cdv A outer s H E M hr => tr_l_ways T (D_l_deck.mono (by decide)) (D_l_cell_at.mono (by decide)) (D_l_take.mono (by decide)) (D_l_cell.mono (by decide)) hr) rd_ways⟩
  have D_l_none_better : Dk ⟨P, w, K⟩ mg base 2 "_law_none_better" ["cells", "ways", "most", "told"] sp_none := ⟨_, _, PySem.W.mg_of X G a14, k14, F14.binds (fun _ _ _ _ _ _ us hl => match us, hl with | [_, _, _, _], _ => rfl), fn_ok (k := 1) (sp := sp_none) F14 sc_l_none_better len_sp_none (fun cdv A outer s H E M hr => tr_l_none_better T (D_l_plain.mono (by decide)) (D_l_misses.mono (by decide)) hr) rd_none⟩
  have D_l_is_whole : Dk ⟨P, w, K⟩ mg base 1 "_law_is_whole" ["cell"] sp_whole := ⟨_, _, PySem.W.mg_of X G a15, k15, F15.binds (fun _ _ _ _ _ _ us hl => match us, hl with | [_], _ => rfl), fn_ok (k := 0) (sp := sp_whole) F15 sc_l_is_whole len_sp_whole (fun cdv A outer s H E M hr => tr_l_is_whole T hr) rd_whole⟩
  exact fn_ok (k := 4) (sp := spLaw) F16 sc_lawm len_spLaw (fun cdv A outer s H E M hr => tr_lawm T (D_l_ways.mono (by decide)) (D_l_cell.mono (by decide)) (D_l_deck.mono (by decide)) (D_p_best_cell.mono (by decide)) (D_l_is_whole.mono (by decide)) (D_l_plain.mono (by decide)) (D_l_misses.mono (by decide)) (D_l_none_better.mono (by decide)) hr) rd_law
end PV

open PySem PySem.W PyProof.Rows in
set_option maxHeartbeats 0 in
theorem PySem.Challenge.cw_wayguess_k61_whole_none_is_better_holds : PySem.Challenge.rw_wayguess_k61_whole_none_is_better.Holds := by
  w_on; o_law; k_head; (case hw => w_witness2)
  k_fill
  refine PV.walkB (l := PySem.Challenge.rw_wayguess_k61_whole_none_is_better) (k := 5) rfl rfl ⟨rfl, by decide, by decide⟩ (fun w h Y => PySem.W.kIn_of Y) ?F
  case F =>
    intro w mg fa h KX G hmg
    refine' PV.all_mk KX G hmg ?a0 ?l0 ?c0 ?k0 ?a1 ?l1 ?c1 ?k1 ?a2 ?l2 ?c2 ?k2 ?a3 ?l3 ?c3 ?k3 ?a4 ?l4 ?c4 ?k4 ?a5 ?l5 ?c5 ?k5 ?a6 ?l6 ?c6 ?k6 ?a7 ?l7 ?c7 ?k7 ?a8 ?l8 ?c8 ?k8 ?a9 ?l9 ?c9 ?k9 ?a10 ?l10 ?c10 ?k10 ?a11 ?l11 ?c11 ?k11 ?a12 ?l12 ?c12 ?k12 ?a13 ?l13 ?c13 ?k13 ?a14 ?l14 ?c14 ?k14 ?a15 ?l15 ?c15 ?k15 ?a16 ?l16 ?c16 ?k16 ?z_bool ?z_int ?z_isinstance ?z_len ?z_list ?z_range ?z_tuple
    (case a0 => k_is)
    (case l0 => k_is)
    (case c0 => k_is)
    (case k0 => k_is)
    (case a1 => k_is)
    (case l1 => k_is)
    (case c1 => k_is)
    (case k1 => k_is)
    (case a2 => k_is)
    (case l2 => k_is)
    (case c2 => k_is)
    (case k2 => k_is)
    (case a3 => k_is)
    (case l3 => k_is)
    (case c3 => k_is)
    (case k3 => k_is)
    (case a4 => k_is)
    (case l4 => k_is)
    (case c4 => k_is)
    (case k4 => k_is)
    (case a5 => k_is)
    (case l5 => k_is)
    (case c5 => k_is)
    (case k5 => k_is)
    (case a6 => k_is)
    (case l6 => k_is)
    (case c6 => k_is)
    (case k6 => k_is)
    (case a7 => k_is)
    (case l7 => k_is)
    (case c7 => k_is)
    (case k7 => k_is)
    (case a8 => k_is)
    (case l8 => k_is)
    (case c8 => k_is)
    (case k8 => k_is)
    (case a9 => k_is)
    (case l9 => k_is)
    (case c9 => k_is)
    (case k9 => k_is)
    (case a10 => k_is)
    (case l10 => k_is)
    (case c10 => k_is)
    (case k10 => k_is)
    (case a11 => k_is)
    (case l11 => k_is)
    (case c11 => k_is)
    (case k11 => k_is)
    (case a12 => k_is)
    (case l12 => k_is)
    (case c12 => k_is)
    (case k12 => k_is)
    (case a13 => k_is)
    (case l13 => k_is)
    (case c13 => k_is)
    (case k13 => k_is)
    (case a14 => k_is)
    (case l14 => k_is)
    (case c14 => k_is)
    (case k14 => k_is)
    (case a15 => k_is)
    (case l15 => k_is)
    (case c15 => k_is)
    (case k15 => k_is)
    (case a16 => k_is)
    (case l16 => k_is)
    (case c16 => k_is)
    (case k16 => k_is)
    (case z_bool => k_is)
    (case z_int => k_is)
    (case z_isinstance => k_is)
    (case z_len => k_is)
    (case z_list => k_is)
    (case z_range => k_is)
    (case z_tuple => k_is)
