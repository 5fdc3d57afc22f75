import PyProof.Rows.All
import Wide.All
import OpenK.AllK
import Wide.FinOn
import HandS.ForMost
import HandS.Wide
import HandS.TupAny
import HandS.TupMul
import HandS.IsInst
import HandS.Style
import HandS.Conv
import KE.KDictKeyed
import KE.KDictWalk
import KE.GoesDict
import KE.SortData
import HandS.WideBits
import HandS.Flow
import HandS.More
import HandS.SortInts
import HandS.EndBits
import KE.LtData
import HandS.SetFor
import HandS.Strs
import PySem.Challenge.RW_wayguess_k62_what_places_spoil
set_option Elab.async false
set_option linter.all false
set_option maxRecDepth 100000
set_option maxHeartbeats 1000000
/-! PV: tuples by value. -/
namespace PV
open PySem PySem.Spec PyProof.Rows L2

/-- a value: tuples by value, mutable things by address -/
inductive W where
  | non | bl (b : Bool) | int (i : Int) | str (x : Str) | tup (xs : List W) | ref (a : Addr)
  | cl (xs : List W)
/-- what stands at a live address -/
inductive Ob where
  | lst (xs : List W)
  | dK (kvs : List (Key × W))
  | dN (kvs : List (W × W))
  | lkK (kvs : List (Key × W))
  | lkN (kvs : List (W × W))
  | ins (C : Addr) (fs : List (Str × W))
  | set (S : Int → Bool) (n : Nat)
abbrev Me := Addr → Option Ob
abbrev En := List (Option W)
def put (M : Me) (a : Addr) (o : Ob) : Me := fun b => if b = a then some o else M b
theorem put_same {M : Me} {a : Addr} {o : Ob} : put M a o a = some o := by unfold put; rw [if_pos rfl]
theorem put_ne {M : Me} {a b : Addr} {o : Ob} (h : b ≠ a) : put M a o b = M b := by unfold put; rw [if_neg h]
theorem put_old {M : Me} {a b : Addr} {o u : Ob} (h : M b = some u) (n : M a = none) : put M a o b = some u := by
  rw [put_ne (fun e => by rw [e, n] at h; cases h)]; exact h
theorem put_put {M : Me} {a : Addr} {o u : Ob} : put (put M a o) a u = put M a u := by
  funext b; unfold put; split <;> rfl
theorem put_comm {M : Me} {a b : Addr} {o u : Ob} (h : a ≠ b) : put (put M a o) b u = put (put M b u) a o := by
  funext c; unfold put
  by_cases h1 : c = b
  · rw [if_pos h1, if_neg (by rw [h1]; exact Ne.symm h), if_pos h1]
  · rw [if_neg h1, if_neg h1]
theorem put_self {M : Me} {a : Addr} {o : Ob} (h : M a = some o) : put M a o = M := by
  funext b; unfold put; split
  · rename_i e; rw [e, h]
  · rfl
/-- fewer live things -/
def Sub (M M' : Me) : Prop := ∀ a o, M a = some o → M' a = some o
theorem Sub.refl (M : Me) : Sub M M := fun _ _ h => h
theorem Sub.trans {M M1 M2 : Me} (a : Sub M M1) (b : Sub M1 M2) : Sub M M2 := fun c o h => b c o (a c o h)
theorem Sub.put {M M' : Me} {a : Addr} {o : Ob} (s : Sub M M') (h : M a = none) : Sub M (PV.put M' a o) := fun b u e => by
  rw [put_ne (fun z => by rw [z, h] at e; cases e)]; exact s b u e
theorem Sub.new {M : Me} {a : Addr} {o : Ob} (h : M a = none) : Sub M (PV.put M a o) := (Sub.refl M).put h
theorem Sub.both {M M' : Me} {a : Addr} {o : Ob} (s : Sub M M') : Sub (PV.put M a o) (PV.put M' a o) := fun b u e => by
  by_cases z : b = a
  · subst z; rw [put_same] at e ⊢; exact e
  · rw [put_ne z] at e ⊢; exact s b u e

/-! ### what a value is at an abstract heap -/
/-- a list that nobody can change -/
def Cl (K : PySem.W.Frag) (H : Hp) (a : Addr) (vs : List V) : Prop := (∃ o, H a = some (.frz o (.lst vs))) ∨
  ∃ (o : Obj) (its : Array Value) (n : Nat), K.lookup a = some o ∧ o.cls = .type "list" ∧ o.dict = none ∧ o.data = .seq its n ∧ its.size ≤ sizeLine ∧ Vals vs its.toList
theorem Cl.sq {K : PySem.W.Frag} {H : Hp} {a : Addr} {vs : List V} (h : Cl K H a vs) : SqL K H a vs := h.elim (fun h => .inl (.inr h)) .inr
mutual
def Rep (K : PySem.W.Frag) (H : Hp) : W → V → Prop
  | .non, v => v = .non
  | .bl b, v => v = .bl b
  | .int i, v => v = .int i
  | .str x, v => v = .str x
  | .ref a, v => v = .ref a
  | .tup ws, v => ∃ a vs, v = .ref a ∧ SqT K H a vs ∧ Reps K H ws vs
  | .cl ws, v => ∃ a vs, v = .ref a ∧ Cl K H a vs ∧ Reps K H ws vs
def Reps (K : PySem.W.Frag) (H : Hp) : List W → List V → Prop
  | [], vs => vs = []
  | w :: ws, vs => ∃ v r, vs = v :: r ∧ Rep K H w v ∧ Reps K H ws r
end
/-- the abstract heap goes on: tuples and locked things stay -/
structure GoH (H H' : Hp) : Prop where
  tup : ∀ a xs, H a = some (.tup xs) → H' a = some (.tup xs)
  frz : ∀ a o u, H a = some (.frz o u) → H' a = some (.frz o u)
  dom : ∀ a, H a ≠ none → H' a ≠ none
theorem GoH.refl (H : Hp) : GoH H H := ⟨fun _ _ h => h, fun _ _ _ h => h, fun _ h => h⟩
theorem GoH.trans {H H1 H2 : Hp} (a : GoH H H1) (b : GoH H1 H2) : GoH H H2 := ⟨fun c x h => b.tup c x (a.tup c x h), fun c o u h => b.frz c o u (a.frz c o u h), fun c h => b.dom c (a.dom c h)⟩
theorem GoH.new {H : Hp} {p : Addr} {o : HO} (h : H p = none) : GoH H (upd H p o) :=
  ⟨fun a xs e => by rw [upd_ne (ne_of_none e h)]; exact e, fun a ob u e => by rw [upd_ne (ne_of_none e h)]; exact e, fun a e => by
    by_cases z : a = p
    · subst z; exact absurd h e
    · rw [upd_ne z]; exact e⟩
/-- a thing that is no tuple and not locked is written -/
theorem GoH.write {H : Hp} {p : Addr} {o o' : HO} (h : H p = some o) (h1 : ∀ xs, o ≠ .tup xs) (h2 : ∀ ob u, o ≠ .frz ob u) : GoH H (upd H p o') :=
  ⟨fun a xs e => by rw [upd_ne (ne_of e h (Ne.symm (h1 xs)))]; exact e, fun a ob u e => by rw [upd_ne (ne_of e h (Ne.symm (h2 ob u)))]; exact e, fun a e => by
    by_cases z : a = p
    · subst z; rw [upd_same]; intro q; cases q
    · rw [upd_ne z]; exact e⟩
theorem GoH.sqT {K : PySem.W.Frag} {H H' : Hp} {a : Addr} {xs : List V} (g : GoH H H') (h : SqT K H a xs) : SqT K H' a xs := by
  rcases h with (h | ⟨o, h⟩) | h
  · exact .inl (.inl (g.tup _ _ h))
  · exact .inl (.inr ⟨o, g.frz _ _ _ h⟩)
  · exact .inr h
theorem GoH.cl {K : PySem.W.Frag} {H H' : Hp} {a : Addr} {xs : List V} (g : GoH H H') (h : Cl K H a xs) : Cl K H' a xs := h.elim (fun ⟨o, h⟩ => .inl ⟨o, g.frz _ _ _ h⟩) .inr
mutual
theorem Rep.go {K : PySem.W.Frag} {H H' : Hp} (g : GoH H H') : ∀ {w : W} {v : V}, Rep K H w v → Rep K H' w v
  | .non, _, h => h
  | .bl _, _, h => h
  | .int _, _, h => h
  | .str _, _, h => h
  | .ref _, _, h => h
  | .tup _, _, ⟨a, vs, e, s, r⟩ => ⟨a, vs, e, g.sqT s, Reps.go g r⟩
  | .cl _, _, ⟨a, vs, e, s, r⟩ => ⟨a, vs, e, g.cl s, Reps.go g r⟩
theorem Reps.go {K : PySem.W.Frag} {H H' : Hp} (g : GoH H H') : ∀ {ws : List W} {vs : List V}, Reps K H ws vs → Reps K H' ws vs
  | [], _, h => h
  | _ :: _, _, ⟨v, r, e, h, t⟩ => ⟨v, r, e, Rep.go g h, Reps.go g t⟩
end
section
variable {K : PySem.W.Frag} {H : Hp}
theorem Reps.nil : Reps K H [] [] := by unfold Reps; rfl
theorem Reps.cons {w : W} {ws : List W} {v : V} {vs : List V} (h : Rep K H w v) (t : Reps K H ws vs) : Reps K H (w :: ws) (v :: vs) := by unfold Reps; exact ⟨v, vs, rfl, h, t⟩
theorem Reps.uncons {w : W} {ws : List W} {vs : List V} (h : Reps K H (w :: ws) vs) : ∃ v r, vs = v :: r ∧ Rep K H w v ∧ Reps K H ws r := by unfold Reps at h; exact h
theorem Reps.unnil {vs : List V} (h : Reps K H [] vs) : vs = [] := by unfold Reps at h; exact h
theorem Reps.length : ∀ {ws : List W} {vs : List V}, Reps K H ws vs → vs.length = ws.length
  | [], _, h => by rw [h.unnil]; rfl
  | w :: ws, vs, h => by
    obtain ⟨v, r, e, _, t⟩ := h.uncons
    rw [e, List.length_cons, List.length_cons, Reps.length t]
theorem Reps.get : ∀ {ws : List W} {vs : List V} {i : Nat} {w : W}, Reps K H ws vs → ws[i]? = some w → ∃ v, vs[i]? = some v ∧ Rep K H w v
  | [], _, _, _, _, e => by simp at e
  | w :: ws, vs, 0, x, h, e => by
    obtain ⟨v, r, e1, h1, _⟩ := h.uncons
    have e2 : w = x := by simpa using e
    subst e1 e2
    exact ⟨v, rfl, h1⟩
  | w :: ws, vs, i + 1, x, h, e => by
    obtain ⟨v, r, e1, _, t⟩ := h.uncons
    subst e1
    obtain ⟨u, h1, h2⟩ := Reps.get (i := i) (w := x) t (by simpa using e)
    exact ⟨u, by simpa using h1, h2⟩
theorem Reps.append : ∀ {ws us : List W} {vs zs : List V}, Reps K H ws vs → Reps K H us zs → Reps K H (ws ++ us) (vs ++ zs)
  | [], _, _, _, h, t => by rw [h.unnil]; exact t
  | w :: ws, us, vs, zs, h, t => by
    obtain ⟨v, r, e, h1, h2⟩ := h.uncons
    subst e
    exact .cons h1 (Reps.append h2 t)
theorem Reps.take : ∀ {ws : List W} {vs : List V} (n : Nat), Reps K H ws vs → Reps K H (ws.take n) (vs.take n)
  | [], _, n, h => by rw [h.unnil]; simpa using Reps.nil
  | w :: ws, vs, 0, h => by simpa using Reps.nil
  | w :: ws, vs, n + 1, h => by
    obtain ⟨v, r, e, h1, h2⟩ := h.uncons
    subst e
    exact .cons h1 (Reps.take n h2)
theorem Reps.drop : ∀ {ws : List W} {vs : List V} (n : Nat), Reps K H ws vs → Reps K H (ws.drop n) (vs.drop n)
  | [], _, n, h => by rw [h.unnil]; simpa using Reps.nil
  | w :: ws, vs, 0, h => h
  | w :: ws, vs, n + 1, h => by
    obtain ⟨v, r, e, h1, h2⟩ := h.uncons
    subst e
    exact Reps.drop n h2
theorem Reps.set : ∀ {ws : List W} {vs : List V} (i : Nat) {w : W} {v : V}, Rep K H w v → Reps K H ws vs → Reps K H (ws.set i w) (vs.set i v)
  | [], _, i, _, _, _, h => by rw [h.unnil]; simpa using Reps.nil
  | x :: ws, vs, 0, w, v, q, h => by
    obtain ⟨y, r, e, h1, h2⟩ := h.uncons
    subst e
    exact .cons q h2
  | x :: ws, vs, i + 1, w, v, q, h => by
    obtain ⟨y, r, e, h1, h2⟩ := h.uncons
    subst e
    exact .cons h1 (Reps.set i q h2)
theorem Reps.eraseIdx : ∀ {ws : List W} {vs : List V} (i : Nat), Reps K H ws vs → Reps K H (ws.eraseIdx i) (vs.eraseIdx i)
  | [], _, i, h => by rw [h.unnil]; simpa using Reps.nil
  | x :: ws, vs, 0, h => by
    obtain ⟨y, r, e, h1, h2⟩ := h.uncons
    subst e
    exact h2
  | x :: ws, vs, i + 1, h => by
    obtain ⟨y, r, e, h1, h2⟩ := h.uncons
    subst e
    exact .cons h1 (Reps.eraseIdx i h2)
theorem Reps.dropLast {ws : List W} {vs : List V} (h : Reps K H ws vs) : Reps K H ws.dropLast vs.dropLast := by
  rw [List.dropLast_eq_take, List.dropLast_eq_take, h.length]
  exact h.take _
theorem Reps.reverse : ∀ {ws : List W} {vs : List V}, Reps K H ws vs → Reps K H ws.reverse vs.reverse
  | [], _, h => by rw [h.unnil]; exact Reps.nil
  | x :: ws, vs, h => by
    obtain ⟨y, r, e, h1, h2⟩ := h.uncons
    subst e
    rw [List.reverse_cons, List.reverse_cons]
    exact (Reps.reverse h2).append (.cons h1 .nil)
theorem Reps.rep {ws : List W} {vs : List V} (h : Reps K H ws vs) : ∀ k : Nat, Reps K H (List.replicate k ws).flatten (List.replicate k vs).flatten
  | 0 => Reps.nil
  | k + 1 => by
    rw [List.replicate_succ, List.replicate_succ, List.flatten_cons, List.flatten_cons]
    exact h.append (Reps.rep h k)
theorem Rep.tup {a : Addr} {vs : List V} {ws : List W} (s : SqT K H a vs) (r : Reps K H ws vs) : Rep K H (.tup ws) (.ref a) := by unfold Rep; exact ⟨a, vs, rfl, s, r⟩
theorem Rep.untup {v : V} {ws : List W} (h : Rep K H (.tup ws) v) : ∃ a vs, v = .ref a ∧ SqT K H a vs ∧ Reps K H ws vs := by unfold Rep at h; exact h
theorem Rep.uncl {v : V} {ws : List W} (h : Rep K H (.cl ws) v) : ∃ a vs, v = .ref a ∧ Cl K H a vs ∧ Reps K H ws vs := by unfold Rep at h; exact h
theorem rep_int {i : Int} : Rep K H (.int i) (.int i) := by unfold Rep; rfl
theorem rep_bl {b : Bool} : Rep K H (.bl b) (.bl b) := by unfold Rep; rfl
theorem rep_str {x : Str} : Rep K H (.str x) (.str x) := by unfold Rep; rfl
theorem rep_non : Rep K H .non .non := by unfold Rep; rfl
theorem rep_ref {a : Addr} : Rep K H (.ref a) (.ref a) := by unfold Rep; rfl
theorem un_int {i : Int} {v : V} (h : Rep K H (.int i) v) : v = .int i := by unfold Rep at h; exact h
theorem un_bl {b : Bool} {v : V} (h : Rep K H (.bl b) v) : v = .bl b := by unfold Rep at h; exact h
theorem un_str {x : Str} {v : V} (h : Rep K H (.str x) v) : v = .str x := by unfold Rep at h; exact h
theorem un_non {v : V} (h : Rep K H .non v) : v = .non := by unfold Rep at h; exact h
theorem un_ref {a : Addr} {v : V} (h : Rep K H (.ref a) v) : v = .ref a := by unfold Rep at h; exact h
theorem Reps.of_ints : ∀ {ns : List Int}, Reps K H (ns.map W.int) (ns.map V.int)
  | [] => Reps.nil
  | _ :: _ => .cons rep_int Reps.of_ints
theorem Reps.ints : ∀ {ns : List Int} {vs : List V}, Reps K H (ns.map W.int) vs → vs = ns.map V.int
  | [], _, h => h.unnil
  | n :: ns, vs, h => by
    obtain ⟨v, r, e, h1, h2⟩ := h.uncons
    rw [e, un_int h1, Reps.ints h2]; rfl
end

/-! ### the memory at an abstract heap -/
/-- what the laying is over -/
structure Kx where
  P : Program
  w : World
  K : PySem.W.Frag
mutual
def nk : W → NestedKey
  | .non => .none
  | .bl b => .num (if b = true then 1 else 0)
  | .int i => .num i
  | .str x => .text x
  | .ref _ => .none
  | .cl _ => .none
  | .tup ws => .tup (nks ws)
def nks : List W → List NestedKey
  | [] => []
  | w :: ws => nk w :: nks ws
end
mutual
def kr : W → Bool
  | .ref _ => false
  | .cl _ => false
  | .tup ws => krs ws
  | _ => true
def krs : List W → Bool
  | [] => true
  | w :: ws => kr w && krs ws
end
def KeyOk (w : W) : Prop := (∃ ws, w = .tup ws) ∧ kr w = true ∧ (nk w).depth ≤ 8
def DRaw (a : Addr) (es : Array DictEntry) : Heap → Prop := fun h => ∃ o ep, h.get? a = some o ∧ o.ExactDict ∧ o.data = .dict es ep
def NRow (B : Kx) (H : Hp) (p : W × W) (x : NestedKey × Addr × Value) : Prop :=
  x.1 = nk p.1 ∧ Rep B.K H p.1 (.ref x.2.1) ∧ KeyOk p.1 ∧ ∃ vv, RelV vv x.2.2 ∧ Rep B.K H p.2 vv
/-- the raw rows of such a dict -/
structure NDict (B : Kx) (H : Hp) (kvs : List (W × W)) (es : Array DictEntry) : Prop where
  sz : kvs.length ≤ sizeLine
  rows : ∃ xs : List (NestedKey × Addr × Value), Paired (NRow B H) kvs xs ∧ es.toList = xs.map (entryOfKey (nestedKind B.P B.w)) ∧ (xs.map (·.1)).Nodup
def KRow (B : Kx) (H : Hp) (p : Key × W) (x : Key × V) : Prop := p.1 = x.1 ∧ Rep B.K H p.2 x.2
def FRow (B : Kx) (H : Hp) (p : Str × W) (x : Str × V) : Prop := p.1 = x.1 ∧ Rep B.K H p.2 x.2
def ObR (B : Kx) (H : Hp) (a : Addr) : Ob → Prop
  | .lst ws => ∃ vs, H a = some (.lst vs) ∧ Reps B.K H ws vs
  | .dK kvs => ∃ xs, H a = some (.dK xs) ∧ Paired (KRow B H) kvs xs
  | .dN kvs => ∃ es, H a = some (.ext (DRaw a es)) ∧ (a == sysModules) = false ∧ NDict B H kvs es
  | .lkK kvs => ∃ o xs, H a = some (.frz o (.dK xs)) ∧ Paired (KRow B H) kvs xs
  | .lkN kvs => ∃ o es, H a = some (.frz o (.ext (DRaw a es))) ∧ (a == sysModules) = false ∧ NDict B H kvs es
  | .ins C fs => ∃ dx xs, H a = some (.ins C dx xs) ∧ Paired (FRow B H) fs xs
  | .set S n => H a = some (.set S n)
def Mo (B : Kx) (H : Hp) (M : Me) : Prop := ∀ a o, M a = some o → ObR B H a o
theorem NDict.go {B : Kx} {H H' : Hp} (g : GoH H H') {kvs : List (W × W)} {es : Array DictEntry} (h : NDict B H kvs es) : NDict B H' kvs es := by
  obtain ⟨sz, xs, p, e, n⟩ := h
  exact ⟨sz, xs, Paired.mapP p fun _ _ ⟨e1, r, k, vv, rv, r2⟩ => ⟨e1, r.go g, k, vv, rv, r2.go g⟩, e, n⟩
/-- a thing stays: its own place and the tuples stay -/
theorem ObR.go {B : Kx} {H H' : Hp} {a : Addr} {o : Ob} (g : GoH H H') (e : H' a = H a) (h : ObR B H a o) : ObR B H' a o := by
  cases o with
  | lst ws => obtain ⟨vs, h1, h2⟩ := h; exact ⟨vs, e.trans h1, h2.go g⟩
  | dK kvs => obtain ⟨xs, h1, h2⟩ := h; exact ⟨xs, e.trans h1, Paired.mapP h2 fun _ _ ⟨e1, r⟩ => ⟨e1, r.go g⟩⟩
  | dN kvs => obtain ⟨es, h1, h2, h3⟩ := h; exact ⟨es, e.trans h1, h2, h3.go g⟩
  | lkK kvs => obtain ⟨o, xs, h1, h2⟩ := h; exact ⟨o, xs, e.trans h1, Paired.mapP h2 fun _ _ ⟨e1, r⟩ => ⟨e1, r.go g⟩⟩
  | lkN kvs => obtain ⟨o, es, h1, h2, h3⟩ := h; exact ⟨o, es, e.trans h1, h2, h3.go g⟩
  | ins C fs => obtain ⟨dx, xs, h1, h2⟩ := h; exact ⟨dx, xs, e.trans h1, Paired.mapP h2 fun _ _ ⟨e1, r⟩ => ⟨e1, r.go g⟩⟩
  | set S n => exact e.trans h
theorem ObR.there {B : Kx} {H : Hp} {a : Addr} {o : Ob} (h : ObR B H a o) : ∃ u, H a = some u ∧ ∀ xs, u ≠ .tup xs := by
  cases o with
  | lst ws => obtain ⟨vs, h1, _⟩ := h; exact ⟨_, h1, fun _ z => nomatch z⟩
  | dK kvs => obtain ⟨xs, h1, _⟩ := h; exact ⟨_, h1, fun _ z => nomatch z⟩
  | dN kvs => obtain ⟨es, h1, _⟩ := h; exact ⟨_, h1, fun _ z => nomatch z⟩
  | lkK kvs => obtain ⟨o, xs, h1, _⟩ := h; exact ⟨_, h1, fun _ z => nomatch z⟩
  | lkN kvs => obtain ⟨o, es, h1, _⟩ := h; exact ⟨_, h1, fun _ z => nomatch z⟩
  | ins C fs => obtain ⟨dx, xs, h1, _⟩ := h; exact ⟨_, h1, fun _ z => nomatch z⟩
  | set S n => exact ⟨_, h, fun _ z => nomatch z⟩
section
variable {B : Kx} {H H' : Hp} {M M' : Me}
theorem Mo.free (m : Mo B H M) {a : Addr} (h : H a = none) : M a = none := by
  cases e : M a with
  | none => rfl
  | some o =>
    obtain ⟨u, h1, _⟩ := (m a o e).there
    rw [h] at h1; cases h1
theorem Mo.sub (m : Mo B H M) (s : Sub M' M) : Mo B H M' := fun a o e => m a o (s a o e)
/-- a new thing that is not live -/
theorem Mo.new (m : Mo B H M) {p : Addr} {o : HO} (h : H p = none) : Mo B (upd H p o) M := fun a u e =>
  (m a u e).go (GoH.new h) (upd_ne (by
    obtain ⟨x, h1, _⟩ := (m a u e).there
    exact ne_of_none h1 h))
/-- a live thing is changed | a new one is live -/
theorem Mo.put (m : Mo B H M) {p : Addr} {o : HO} {u : Ob} (g : GoH H (upd H p o)) (h : ObR B (upd H p o) p u) : Mo B (upd H p o) (PV.put M p u) := fun a x e => by
  by_cases z : a = p
  · subst z; rw [put_same] at e; cases e; exact h
  · rw [put_ne z] at e
    exact (m a x e).go g (upd_ne z)
end
theorem sameNew {H : Hp} {p : Addr} {o : HO} (h : H p = none) : Same H (upd H p o) := fun b u e => by
  rw [upd_ne (ne_of_none e h)]; exact e
theorem GoH.same {H H' : Hp} (s : Same H H') : GoH H H' := ⟨fun a _ e => s a _ e, fun a _ _ e => s a _ e, fun a e => by
  cases q : H a with
  | none => exact absurd q e
  | some o => rw [s a o q]; intro z; cases z⟩
theorem Mo.same {B : Kx} {H H' : Hp} {M : Me} (m : Mo B H M) (s : Same H H') : Mo B H' M := fun a u e =>
  (m a u e).go (GoH.same s) (by
    obtain ⟨x, h1, _⟩ := (m a u e).there
    rw [h1]; exact s a x h1)
/-- the state goes on: what is not live stays as it is, and does not come to life -/
structure Go (H : Hp) (M : Me) (H' : Hp) (M' : Me) : Prop where
  h : GoH H H'
  fr : ∀ a, H a ≠ none → M a = none → M' a = none
  fm : ∀ a o, H a = some o → M a = none → H' a = some o
section
variable {H H1 H2 : Hp} {M M1 M2 : Me}
theorem Go.refl (H : Hp) (M : Me) : Go H M H M := ⟨GoH.refl H, fun _ _ h => h, fun _ _ e _ => e⟩
theorem Go.trans (a : Go H M H1 M1) (b : Go H1 M1 H2 M2) : Go H M H2 M2 :=
  ⟨a.h.trans b.h, fun c h n => b.fr c (a.h.dom c h) (a.fr c h n), fun c o e n => b.fm c o (a.fm c o e n) (a.fr c (by rw [e]; intro z; cases z) n)⟩
theorem Go.same (s : Same H H1) : Go H M H1 M := ⟨GoH.same s, fun _ _ n => n, fun c o e _ => s c o e⟩
theorem Go.sub (a : Go H M H1 M1) (s : Sub M2 M1) : Go H M H1 M2 := ⟨a.h, fun c h n => by
  cases e : M2 c with
  | none => rfl
  | some o =>
    have z := s c o e
    rw [a.fr c h n] at z
    exact (nomatch z), a.fm⟩
/-- a new live thing -/
theorem Go.new {p : Addr} {o : HO} {u : Ob} (h : H p = none) : Go H M (upd H p o) (put M p u) := ⟨GoH.new h, fun c hc n => by
  rw [put_ne (fun z => by rw [z] at hc; exact hc h)]; exact n, fun c x e _ => sameNew h c x e⟩
/-- a live thing changed -/
theorem Go.put {p : Addr} {o : HO} {u x : Ob} (g : GoH H (upd H p o)) (h : M p = some x) : Go H M (upd H p o) (put M p u) := ⟨g, fun c hc n => by
  rw [put_ne (fun z => by rw [z, h] at n; cases n)]; exact n, fun c y e n => by
  rw [upd_ne (fun z => by rw [z, h] at n; cases n)]; exact e⟩
end

/-! ### judgements -/
abbrev _root_.L2.Cx.kx (X : Cx) : Kx := ⟨X.prog, X.w, X.K⟩
/-- what the lifting is over: the laying, the entry -/
structure Cb where
  B : Kx
  H0 : Hp
  M0 : Me
structure Cy where
  X : Cx
  H0 : Hp
  M0 : Me
abbrev Cy.b (Y : Cy) : Cb := ⟨Y.X.kx, Y.H0, Y.M0⟩
structure StOk (c : Cb) (ρ : En) (M : Me) (σ : L2.St) (H : Hp) : Prop where
  env : ∀ (i : Nat) (w : W), ρ[i]? = some (some w) → ∃ v, σ[i]? = some (some v) ∧ Rep c.B.K H w v
  len : ρ.length = σ.length
  mo : Mo c.B H M
  go : Go c.H0 c.M0 H M
section
variable {c : Cb} {ρ : En} {M M' : Me} {σ : L2.St} {H H' : Hp}
theorem StOk.step (st : StOk c ρ M σ H) (g : Go H M H' M') (m : Mo c.B H' M') : StOk c ρ M' σ H' :=
  ⟨fun i w e => by
    obtain ⟨v, h1, h2⟩ := st.env i w e
    exact ⟨v, h1, h2.go g.h⟩, st.len, m, st.go.trans g⟩
theorem StOk.sub (st : StOk c ρ M σ H) (s : Sub M' M) : StOk c ρ M' σ H := ⟨st.env, st.len, st.mo.sub s, st.go.sub s⟩
theorem StOk.set {i : Nat} {w : W} {v : V} (st : StOk c ρ M σ H) (r : Rep c.B.K H w v) : StOk c (ρ.set i (some w)) M (σ.set i (some v)) H :=
  ⟨fun j x e => by
    by_cases z : i = j
    · subst z
      have hl : i < ρ.length := by
        have := (List.getElem?_eq_some_iff.mp e).1
        simpa using this
      rw [List.getElem?_set_self hl] at e
      have e' : w = x := by simpa using e
      subst e'
      exact ⟨v, List.getElem?_set_self (by rw [← st.len]; exact hl), r⟩
    · rw [List.getElem?_set_ne z] at e ⊢
      exact st.env j x e, by rw [List.length_set, List.length_set]; exact st.len, st.mo, st.go⟩
end
abbrev WK := W → Me → Prop
abbrev WE := En → Me → WK → Prop
abbrev WT := En → Me → (Bool → Me → Prop) → Prop
abbrev WA := En → Me → (List W → Me → Prop) → Prop
structure Eds where
  nx : En → Me → Prop
  rt : WK
  bk : En → Me → Prop := fun _ _ => False
  ct : En → Me → Prop := fun _ _ => False
abbrev WS := Eds → En → Me → Prop
def upE (c : Cb) (te : WE) : TE := fun σ H Q => ∃ ρ M Qw, StOk c ρ M σ H ∧ te ρ M Qw ∧ ∀ w M' v H', Qw w M' → Go H M H' M' → Rep c.B.K H' w v → Mo c.B H' M' → Q v H'
def upT (c : Cb) (t : WT) : TT := fun σ H Q => ∃ ρ M Qw, StOk c ρ M σ H ∧ t ρ M Qw ∧ ∀ b M' H', Qw b M' → Go H M H' M' → Mo c.B H' M' → Q b H'
def upA (c : Cb) (t : WA) : TA := fun σ H Q => ∃ ρ M Qw, StOk c ρ M σ H ∧ t ρ M Qw ∧ ∀ ws M' vs H', Qw ws M' → Go H M H' M' → Reps c.B.K H' ws vs → Mo c.B H' M' → Q vs H'
def upS (c : Cb) (t : WS) : TS := fun D σ H => ∃ ρ M DW, StOk c ρ M σ H ∧ t DW ρ M ∧
  (∀ ρ' M' σ' H', DW.nx ρ' M' → Go H M H' M' → StOk c ρ' M' σ' H' → D.nx σ' H') ∧
  (∀ w M' v H', DW.rt w M' → Go H M H' M' → Rep c.B.K H' w v → Mo c.B H' M' → D.rt v H') ∧
  (∀ ρ' M' σ' H', DW.bk ρ' M' → Go H M H' M' → StOk c ρ' M' σ' H' → D.bk σ' H') ∧
  (∀ ρ' M' σ' H', DW.ct ρ' M' → Go H M H' M' → StOk c ρ' M' σ' H' → D.ct σ' H')
def QE (Y : Cy) (e : Expr) (t : WE) : Prop := PE Y.X e (upE Y.b t)
def QT (Y : Cy) (e : Expr) (t : WT) : Prop := PT Y.X e (upT Y.b t)
def QA (Y : Cy) (es : List Expr) (t : WA) : Prop := PA Y.X es (upA Y.b t)
def QS (Y : Cy) (st : Stmt) (t : WS) : Prop := PS Y.X st (upS Y.b t)
def QSs (Y : Cy) (st : List Stmt) (t : WS) : Prop := PSs Y.X st (upS Y.b t)
section
variable {X : Cx} {e : Expr} {es : List Expr} {st : Stmt} {sts : List Stmt}
theorem PE_imp {t t' : TE} (h : PE X e t) (i : ∀ σ H Q, t' σ H Q → t σ H Q) : PE X e t' := ⟨fun pins s σ H Q I q => h.run pins s σ H Q I (i σ H Q q)⟩
theorem PT_imp {t t' : TT} (h : PT X e t) (i : ∀ σ H Q, t' σ H Q → t σ H Q) : PT X e t' := ⟨fun pins s σ H Q I q => h.run pins s σ H Q I (i σ H Q q)⟩
theorem PA_imp {t t' : TA} (h : PA X es t) (i : ∀ σ H Q, t' σ H Q → t σ H Q) : PA X es t' := ⟨fun pos pins s σ H Q I q => h.run pos pins s σ H Q I (i σ H Q q)⟩
theorem PS_imp {t t' : TS} (h : PS X st t) (i : ∀ D σ H, t' D σ H → t D σ H) : PS X st t' := ⟨fun pins s σ H D I q => h.run pins s σ H D I (i D σ H q)⟩
theorem PSs_imp {t t' : TS} (h : PSs X sts t) (i : ∀ D σ H, t' D σ H → t D σ H) : PSs X sts t' := ⟨fun pins s σ H D I q => h.run pins s σ H D I (i D σ H q)⟩
end

/-! ### names, constants -/
section
variable {Y : Cy} {e a b c : Expr} {pos : Pos}
def wVar (i : Nat) : WE := fun ρ M Q => match ρ[i]? with
  | some (some w) => Q w M
  | _ => False
def wC (w : W) : WE := fun _ M Q => Q w M
theorem q_var (i : Nat) {x : Str} {pos : Pos} (hN : Y.X.N[i]? = some x := by rfl) (hv : Vis Y.X.env.scope x := by first | exact Or.inl rfl | exact Or.inr (Or.inl rfl) | exact Or.inr (Or.inr rfl)) (hd : (x == ("__debug__" : Str)) = false := by decide)
    (hcd : (x == ("__classdict__" : Str)) = false := by decide) : QE Y (.Name x pos) (wVar i) := by
  refine PE_imp (pe_var hN hv hd hcd) fun σ H Q ⟨ρ, M, Qw, st, h, k⟩ => ?_
  unfold wVar at h
  split at h
  · rename_i w e
    obtain ⟨v, h1, h2⟩ := st.env i w e
    exact ⟨v, h1, k w M v H h (Go.refl _ _) h2 st.mo⟩
  · exact h.elim
theorem q_const {v : V} {w : W} (h : PE Y.X e (tC v)) (r : ∀ H, Rep Y.X.K H w v) : QE Y e (wC w) := PE_imp h fun _ H _ ⟨_, M, _, st, h, k⟩ => k w M v H h (Go.refl _ _) (r H) st.mo
theorem q_int {i j pos} : QE Y (.Constant (.int i) j pos) (wC (.int i)) := q_const pe_int fun _ => rep_int
theorem q_bl {i j pos} : QE Y (.Constant (.bool i) j pos) (wC (.bl i)) := q_const pe_bl fun _ => rep_bl
theorem q_non {j pos} : QE Y (.Constant .none j pos) (wC .non) := q_const pe_non fun _ => rep_non
theorem q_str {x j pos} : QE Y (.Constant (.str x) j pos) (wC (.str x)) := q_const pe_str fun _ => rep_str
/-- garbage is forgotten -/
def wF (t : WE) : WE := fun ρ M Q => t ρ M fun w M1 => ∃ M0, Sub M0 M1 ∧ Q w M0
theorem q_F {t : WE} (h : QE Y e t) : QE Y e (wF t) := PE_imp h fun _ H _ ⟨ρ, M, Qw, st, h, k⟩ =>
  ⟨ρ, M, _, st, h, fun w M1 v H1 ⟨M0, s, q⟩ g r m => k w M0 v H1 q (g.sub s) r (m.sub s)⟩

/-! ### operators, by values -/
abbrev R2W := W → W → Me → WK → Prop
abbrev R1W := W → Me → WK → Prop
abbrev RLW := List W → Me → WK → Prop
def up2 (B : Kx) (r : R2W) : R2 := fun x y H Q => ∃ wx wy M Qw, Rep B.K H wx x ∧ Rep B.K H wy y ∧ Mo B H M ∧ r wx wy M Qw ∧ ∀ w M' v H', Qw w M' → Go H M H' M' → Rep B.K H' w v → Mo B H' M' → Q v H'
def up1 (B : Kx) (r : R1W) : V → Hp → VK → Prop := fun x H Q => ∃ wx M Qw, Rep B.K H wx x ∧ Mo B H M ∧ r wx M Qw ∧ ∀ w M' v H', Qw w M' → Go H M H' M' → Rep B.K H' w v → Mo B H' M' → Q v H'
def upL (B : Kx) (r : RLW) : List V → Hp → VK → Prop := fun xs H Q => ∃ ws M Qw, Reps B.K H ws xs ∧ Mo B H M ∧ r ws M Qw ∧ ∀ w M' v H', Qw w M' → Go H M H' M' → Rep B.K H' w v → Mo B H' M' → Q v H'
def OpW (X : Cx) (f : Value → Value → Sem Value) (r : R2W) : Prop := OpR X f (up2 X.kx r)
def UnW (X : Cx) (f : Value → Sem Value) (r : R1W) : Prop := UnR X f (up1 X.kx r)
def CallW (X : Cx) (f : Value) (r : RLW) : Prop := CallR X f (upL X.kx r)
theorem OpR_imp {X : Cx} {f : Value → Value → Sem Value} {r r' : R2} (h : OpR X f r) (i : ∀ x y H Q, r' x y H Q → r x y H Q) : OpR X f r' :=
  fun pins s σ H x y v u Q I rx ry q => h pins s σ H x y v u Q I rx ry (i x y H Q q)
theorem UnR_imp {X : Cx} {f : Value → Sem Value} {r r' : V → Hp → VK → Prop} (h : UnR X f r) (i : ∀ x H Q, r' x H Q → r x H Q) : UnR X f r' :=
  fun pins s σ H x v Q I rx q => h pins s σ H x v Q I rx (i x H Q q)
theorem CallR_imp {X : Cx} {f : Value} {r r' : List V → Hp → VK → Prop} (h : CallR X f r) (i : ∀ x H Q, r' x H Q → r x H Q) : CallR X f r' :=
  fun pins s σ H xs us Q I rx q => h pins s σ H xs us Q I rx (i xs H Q q)
def wOp (r : R2W) (ta tb : WE) : WE := fun ρ M Q => ta ρ M fun x M1 => tb ρ M1 fun y M2 => r x y M2 Q
def wUn (r : R1W) (ta : WE) : WE := fun ρ M Q => ta ρ M fun x M1 => r x M1 Q
theorem up_op {r : R2W} {ta tb : WE} {σ : L2.St} {H : Hp} {Q : VK} (h : upE Y.b (wOp r ta tb) σ H Q) : tOp (up2 Y.X.kx r) (upE Y.b ta) (upE Y.b tb) σ H Q := by
  obtain ⟨ρ, M, Qw, st, h, k⟩ := h
  exact ⟨ρ, M, _, st, h, fun wx M1 vx H1 q1 g1 rx m1 => ⟨ρ, M1, _, st.step g1 m1, q1, fun wy M2 vy H2 q2 g2 ry m2 =>
    ⟨wx, wy, M2, Qw, rx.go g2.h, ry, m2, q2, fun w M' v H' q g r m => k w M' v H' q (g1.trans (g2.trans g)) r m⟩⟩⟩
theorem up_un {r : R1W} {ta : WE} {σ : L2.St} {H : Hp} {Q : VK} (h : upE Y.b (wUn r ta) σ H Q) : tUn (up1 Y.X.kx r) (upE Y.b ta) σ H Q := by
  obtain ⟨ρ, M, Qw, st, h, k⟩ := h
  exact ⟨ρ, M, _, st, h, fun wx M1 vx H1 q1 g1 rx m1 => ⟨wx, M1, Qw, rx, m1, q1, fun w M' v H' q g r m => k w M' v H' q (g1.trans g) r m⟩⟩
theorem q_op {op : Operator} {r : R2W} {ta tb : WE} (ho : OpW Y.X (binaryOp op) r) (ha : QE Y a ta) (hb : QE Y b tb) : QE Y (.BinOp a op b pos) (wOp r ta tb) := PE_imp (pe_op ho ha hb) fun _ _ _ h => up_op h
theorem q_un {op : UnaryOp} {r : R1W} {ta : WE} (ho : UnW Y.X (unaryOp op) r) (ha : QE Y a ta) : QE Y (.UnaryOp op a pos) (wUn r ta) := PE_imp (pe_un ho ha) fun _ _ _ h => up_un h
theorem q_cmp {op : CmpOp} {r : R2W} {ta tb : WE} (ho : OpW Y.X (compareOp op) r) (ha : QE Y a ta) (hb : QE Y b tb) (hm : behindInMarks op b = false := by first | exact nomark _ (by decide) (by decide) | rfl) : QE Y (.Compare a [op] [b] pos) (wOp r ta tb) :=
  PE_imp (pe_cmpR ho ha hb hm) fun _ _ _ h => up_op h
/-- a value as a test: bools alone -/
def wB (t : WE) : WT := fun ρ M Q => t ρ M fun x M1 => match x with
  | .bl b => Q b M1
  | _ => False
theorem up_B {t : WE} {σ : L2.St} {H : Hp} {Q : Bool → Hp → Prop} (h : upT Y.b (wB t) σ H Q) : upE Y.b t σ H fun x H1 => ∃ k, x = .bl k ∧ Q k H1 := by
  obtain ⟨ρ, M, Qw, st, h, k⟩ := h
  refine ⟨ρ, M, _, st, h, fun w M1 v H1 q g r m => ?_⟩
  split at q
  · exact ⟨_, un_bl r, k _ M1 H1 q g m⟩
  · exact q.elim
theorem qt_cmp {op : CmpOp} {r : R2W} {ta tb : WE} (ho : OpW Y.X (compareOp op) r) (ha : QE Y a ta) (hb : QE Y b tb) (hm : behindInMarks op b = false := by first | exact nomark _ (by decide) (by decide) | rfl) : QT Y (.Compare a [op] [b] pos) (wB (wOp r ta tb)) :=
  PT_imp (pt_cmpR ho ha hb hm) fun _ _ _ h => by
    obtain ⟨ρ, M, Qw, st, h, k⟩ := h
    refine up_op ⟨ρ, M, _, st, h, fun w M1 v H1 q g r m => ?_⟩
    split at q
    · exact ⟨_, un_bl r, k _ M1 H1 q g m⟩
    · exact q.elim
theorem qt_val {t : WE} (h : QE Y e t) (he : ∀ whole, isTrue e Y.X.env whole = (do let v ← whole; standAt e.pos; holding [v] (truthy v)) := by intro _; rfl) : QT Y e (wB t) :=
  PT_imp (pt_val h he) fun _ _ _ h => up_B h
/-- a chain -/
def wChain (r r' : R2W) (ta tb tc : WE) : WE := fun ρ M Q => ta ρ M fun x M1 => tb ρ M1 fun y M2 => r x y M2 fun z M3 => match z with
  | .bl true => tc ρ M3 fun u M4 => r' y u M4 Q
  | .bl false => Q (.bl false) M3
  | _ => False
theorem up_chain {r r' : R2W} {ta tb tc : WE} {σ : L2.St} {H : Hp} {Q : VK} (h : upE Y.b (wChain r r' ta tb tc) σ H Q) : tChain (up2 Y.X.kx r) (up2 Y.X.kx r') (upE Y.b ta) (upE Y.b tb) (upE Y.b tc) σ H Q := by
  obtain ⟨ρ, M, Qw, st, h, k⟩ := h
  refine ⟨ρ, M, _, st, h, fun wx M1 vx H1 q1 g1 rx m1 => ⟨ρ, M1, _, st.step g1 m1, q1, fun wy M2 vy H2 q2 g2 ry m2 =>
    ⟨wx, wy, M2, _, rx.go g2.h, ry, m2, q2, fun w M3 v H3 q g3 r3 m3 => ?_⟩⟩⟩
  have g12 := g1.trans g2
  have g13 := g12.trans g3
  split at q
  · refine ⟨true, un_bl r3, ?_⟩
    show upE Y.b tc σ H3 _
    exact ⟨ρ, M3, _, st.step g13 m3, q, fun wu M4 vu H4 q4 g4 ru m4 => ⟨wy, wu, M4, Qw, ry.go (g3.trans g4).h, ru, m4, q4, fun w M' v H' q g r m => k w M' v H' q (g13.trans (g4.trans g)) r m⟩⟩
  · refine ⟨false, un_bl r3, ?_⟩
    exact k _ M3 _ H3 q g13 rep_bl m3
  · exact q.elim
end
end PV
set_option maxHeartbeats 1000000
/-! PV: tests, arguments, statements, loops, defs. -/
namespace PV
open PySem PySem.Spec PyProof.Rows L2

section
variable {Y : Cy} {e a b c : Expr} {es rest : List Expr} {pos : Pos}
/-! ### and, or, not, if -/
def wAnd (t u : WT) : WT := fun ρ M Q => t ρ M fun x M1 => match x with
  | true => u ρ M1 Q
  | false => Q false M1
def wOr (t u : WT) : WT := fun ρ M Q => t ρ M fun x M1 => match x with
  | true => Q true M1
  | false => u ρ M1 Q
def wNot (t : WT) : WT := fun ρ M Q => t ρ M fun x M1 => Q (!x) M1
def QW (Y : Cy) (e : Expr) (t : WT) : Prop := PW Y.X e (upT Y.b t)
theorem PW_imp {X : Cx} {e : Expr} {t t' : TT} (h : PW X e t) (i : ∀ σ H Q, t' σ H Q → t σ H Q) : PW X e t' := ⟨fun wh pins s σ H Q I q => h.run wh pins s σ H Q I (i σ H Q q)⟩
theorem qw_and1 {t : WT} (h : QT Y a t) : QW Y (.BoolOp .And [a] pos) t := pw_and1 h
theorem qw_or1 {t : WT} (h : QT Y a t) : QW Y (.BoolOp .Or [a] pos) t := pw_or1 h
theorem qw_and {t u : WT} (h : QT Y a t) (h' : QW Y (.BoolOp .And (b :: rest) pos) u) : QW Y (.BoolOp .And (a :: b :: rest) pos) (wAnd t u) :=
  PW_imp (pw_and h h') fun σ H Q ⟨ρ, M, Qw, st, q, k⟩ => ⟨ρ, M, _, st, q, fun x M1 H1 q1 g m => by
    cases x with
    | true => exact ⟨ρ, M1, Qw, st.step g m, q1, fun y M2 H2 q2 g2 m2 => k y M2 H2 q2 (g.trans g2) m2⟩
    | false => exact k false M1 H1 q1 g m⟩
theorem qw_or {t u : WT} (h : QT Y a t) (h' : QW Y (.BoolOp .Or (b :: rest) pos) u) : QW Y (.BoolOp .Or (a :: b :: rest) pos) (wOr t u) :=
  PW_imp (pw_or h h') fun σ H Q ⟨ρ, M, Qw, st, q, k⟩ => ⟨ρ, M, _, st, q, fun x M1 H1 q1 g m => by
    cases x with
    | true => exact k true M1 H1 q1 g m
    | false => exact ⟨ρ, M1, Qw, st.step g m, q1, fun y M2 H2 q2 g2 m2 => k y M2 H2 q2 (g.trans g2) m2⟩⟩
theorem QW.pt {t : WT} (h : QW Y e t) : QT Y e t := PW.pt h
theorem qt_not {t : WT} (h : QT Y a t) : QT Y (.UnaryOp .Not a pos) (wNot t) :=
  PT_imp (pt_not h) fun σ H Q ⟨ρ, M, Qw, st, q, k⟩ => ⟨ρ, M, _, st, q, fun x M1 H1 q1 g m => k _ M1 H1 q1 g m⟩
/-- as values -/
def wAndV (ta tb : WE) : WE := fun ρ M Q => ta ρ M fun x M1 => match x with
  | .bl true => tb ρ M1 Q
  | .bl false => Q (.bl false) M1
  | _ => False
def wOrV (ta tb : WE) : WE := fun ρ M Q => ta ρ M fun x M1 => match x with
  | .bl true => Q (.bl true) M1
  | .bl false => tb ρ M1 Q
  | _ => False
def wNotV (ta : WE) : WE := fun ρ M Q => ta ρ M fun x M1 => match x with
  | .bl k => Q (.bl (!k)) M1
  | _ => False
theorem q_one {op} {t : WE} (h : QE Y a t) : QE Y (.BoolOp op [a] pos) t := pe_one h
theorem q_and {ta tb : WE} (h : QE Y a ta) (h' : QE Y (.BoolOp .And (b :: rest) pos) tb) : QE Y (.BoolOp .And (a :: b :: rest) pos) (wAndV ta tb) :=
  PE_imp (pe_and h h') fun σ H Q ⟨ρ, M, Qw, st, q, k⟩ => ⟨ρ, M, _, st, q, fun x M1 v H1 q1 g r m => by
    split at q1
    · exact ⟨true, un_bl r, ρ, M1, Qw, st.step g m, q1, fun y M2 v2 H2 q2 g2 r2 m2 => k y M2 v2 H2 q2 (g.trans g2) r2 m2⟩
    · exact ⟨false, un_bl r, k _ M1 _ H1 q1 g rep_bl m⟩
    · exact q1.elim⟩
theorem q_or {ta tb : WE} (h : QE Y a ta) (h' : QE Y (.BoolOp .Or (b :: rest) pos) tb) : QE Y (.BoolOp .Or (a :: b :: rest) pos) (wOrV ta tb) :=
  PE_imp (pe_or h h') fun σ H Q ⟨ρ, M, Qw, st, q, k⟩ => ⟨ρ, M, _, st, q, fun x M1 v H1 q1 g r m => by
    split at q1
    · exact ⟨true, un_bl r, k _ M1 _ H1 q1 g rep_bl m⟩
    · exact ⟨false, un_bl r, ρ, M1, Qw, st.step g m, q1, fun y M2 v2 H2 q2 g2 r2 m2 => k y M2 v2 H2 q2 (g.trans g2) r2 m2⟩
    · exact q1.elim⟩
theorem q_not {ta : WE} (h : QE Y a ta) : QE Y (.UnaryOp .Not a pos) (wNotV ta) :=
  PE_imp (pe_not h) fun σ H Q ⟨ρ, M, Qw, st, q, k⟩ => ⟨ρ, M, _, st, q, fun x M1 v H1 q1 g r m => by
    split at q1
    · exact ⟨_, un_bl r, k _ M1 _ H1 q1 g rep_bl m⟩
    · exact q1.elim⟩
def wIf (t : WT) (ta tb : WE) : WE := fun ρ M Q => t ρ M fun x M1 => match x with
  | true => ta ρ M1 Q
  | false => tb ρ M1 Q
theorem q_if {t : WT} {ta tb : WE} (hc : QT Y c t) (ha : QE Y a ta) (hb : QE Y b tb) : QE Y (.IfExp c a b pos) (wIf t ta tb) :=
  PE_imp (pe_ifExp hc ha hb) fun σ H Q ⟨ρ, M, Qw, st, q, k⟩ => ⟨ρ, M, _, st, q, fun x M1 H1 q1 g m => by
    cases x with
    | true => exact ⟨ρ, M1, Qw, st.step g m, q1, fun y M2 v2 H2 q2 g2 r2 m2 => k y M2 v2 H2 q2 (g.trans g2) r2 m2⟩
    | false => exact ⟨ρ, M1, Qw, st.step g m, q1, fun y M2 v2 H2 q2 g2 r2 m2 => k y M2 v2 H2 q2 (g.trans g2) r2 m2⟩⟩

/-! ### arguments, displays -/
def wNil : WA := fun _ M Q => Q [] M
def wCons (ta : WE) (tr : WA) : WA := fun ρ M Q => ta ρ M fun x M1 => tr ρ M1 fun xs M2 => Q (x :: xs) M2
theorem qa_nil : QA Y [] wNil := PA_imp pa_nil fun σ H Q ⟨ρ, M, Qw, st, q, k⟩ => k [] M [] H q (Go.refl _ _) Reps.nil st.mo
theorem qa_cons {t : WE} {u : WA} (h : QE Y e t) (hr : QA Y es u) (hs : starEach (e :: es) Y.X.env = (false, eval e Y.X.env) :: starEach es Y.X.env := by rfl) : QA Y (e :: es) (wCons t u) :=
  PA_imp (pa_cons h hr hs) fun σ H Q ⟨ρ, M, Qw, st, q, k⟩ => ⟨ρ, M, _, st, q, fun x M1 v H1 q1 g r m =>
    ⟨ρ, M1, _, st.step g m, q1, fun xs M2 vs H2 q2 g2 rs m2 => k _ M2 _ H2 q2 (g.trans g2) (.cons (r.go g2.h) rs) m2⟩⟩
def wTup (t : WA) : WE := fun ρ M Q => t ρ M fun ws M1 => ws.length ≤ sizeLine ∧ Q (.tup ws) M1
def wLst (t : WA) : WE := fun ρ M Q => t ρ M fun ws M1 => ws.length ≤ sizeLine ∧ ∀ p, M1 p = none → Q (.ref p) (put M1 p (.lst ws))
theorem q_tup {x1} {t : WA} (h : QA Y es t) : QE Y (.Tuple es x1 pos) (wTup t) :=
  PE_imp (pe_tup h) fun σ H Q ⟨ρ, M, Qw, st, q, k⟩ => ⟨ρ, M, _, st, q, fun ws M1 vs H1 q1 g rs m =>
    ⟨by rw [rs.length]; exact q1.1, fun p hp => k (.tup ws) M1 _ _ q1.2 (g.trans (Go.same (sameNew hp))) (Rep.tup (SqT.of upd_same) (rs.go (GoH.new hp))) (m.new hp)⟩⟩
theorem q_lst {t : WA} (h : QA Y es t) : QE Y (.List es pos) (wLst t) :=
  PE_imp (pe_lst h) fun σ H Q ⟨ρ, M, Qw, st, q, k⟩ => ⟨ρ, M, _, st, q, fun ws M1 vs H1 q1 g rs m =>
    ⟨by rw [rs.length]; exact q1.1, fun p hp => k (.ref p) _ _ _ (q1.2 p (m.free hp)) (g.trans (Go.new hp)) rep_ref (m.put (GoH.new hp) ⟨vs, upd_same, rs.go (GoH.new hp)⟩)⟩⟩
/-- the empty display has a rule of its own: no part -/
def wCall (r : RLW) (t : WA) : WE := fun ρ M Q => t ρ M fun ws M1 => r ws M1 Q
/-- a built-in by its name -/
theorem q_callB {x : Str} {id : String} {r : RLW} {t : WA} {p : Pos} (hc : CallW Y.X (.builtin id) r) (hg : Gl Y.X x) (hm : Y.X.mg x = none) (hv : bootBuiltins x = some (.builtin id)) (ha : QA Y (e :: es) t)
    (hn : x ≠ "__name__" := by decide) (hdb : (x == ("__debug__" : Str)) = false := by decide) (he : starEach (e :: es) Y.X.env = (false, eval e Y.X.env) :: starEach es Y.X.env := by rfl) (hpl : (backTo pos (starEach es Y.X.env)).any (·.1) = false := by rfl) :
    QE Y (.Call (.Name x p) (e :: es) [] pos) (wCall r t) :=
  PE_imp (pe_callB hc hg hm hv ha hn hdb he hpl) fun σ H Q ⟨ρ, M, Qw, st, q, k⟩ => ⟨ρ, M, _, st, q, fun ws M1 vs H1 q1 g rs m =>
    ⟨ws, M1, Qw, rs, m, q1, fun w M2 v H2 q2 g2 r2 m2 => k w M2 v H2 q2 (g.trans g2) r2 m2⟩⟩
theorem q_callT {x : Str} {T : String} {r : RLW} {t : WA} {p : Pos} (hc : CallW Y.X (.type T) r) (hg : Gl Y.X x) (hm : Y.X.mg x = none) (hv : bootBuiltins x = some (.type T)) (ha : QA Y (e :: es) t)
    (hn : x ≠ "__name__" := by decide) (hdb : (x == ("__debug__" : Str)) = false := by decide) (he : starEach (e :: es) Y.X.env = (false, eval e Y.X.env) :: starEach es Y.X.env := by rfl) (hpl : (backTo pos (starEach es Y.X.env)).any (·.1) = false := by rfl) :
    QE Y (.Call (.Name x p) (e :: es) [] pos) (wCall r t) :=
  PE_imp (pe_callTy hc hg hm hv ha hn hdb he hpl) fun σ H Q ⟨ρ, M, Qw, st, q, k⟩ => ⟨ρ, M, _, st, q, fun ws M1 vs H1 q1 g rs m =>
    ⟨ws, M1, Qw, rs, m, q1, fun w M2 v H2 q2 g2 r2 m2 => k w M2 v H2 q2 (g.trans g2) r2 m2⟩⟩
end

/-! ### statements -/
section
variable {Y : Cy} {st : Stmt} {rest body a b : List Stmt} {e c : Expr} {pos : Pos}
def wNext : WS := fun D ρ M => D.nx ρ M
def wSeq (t u : WS) : WS := fun D ρ M => t { D with nx := u D } ρ M
def wRet (t : WE) : WS := fun D ρ M => t ρ M D.rt
def wRetN : WS := fun D _ M => D.rt .non M
def wDrop (t : WE) : WS := fun D ρ M => t ρ M fun _ M1 => D.nx ρ M1
def wSet (i : Nat) (t : WE) : WS := fun D ρ M => t ρ M fun w M1 => D.nx (ρ.set i (some w)) M1
def wIfS (t : WT) (u v : WS) : WS := fun D ρ M => t ρ M fun x M1 => match x with
  | true => u D ρ M1
  | false => v D ρ M1
def wNever : WS := fun _ _ _ => False
theorem qss_nil : QSs Y [] wNext := PSs_imp pss_nil fun D σ H ⟨ρ, M, DW, so, q, k, _⟩ => k ρ M σ H q (Go.refl _ _) so
theorem qss_one {t : WS} (h : QS Y st t) : QSs Y [st] t := pss_one h
theorem qss_cons {t u : WS} (h : QS Y st t) (h' : QSs Y rest u) : QSs Y (st :: rest) (wSeq t u) :=
  PSs_imp (pss_cons h h') fun D σ H ⟨ρ, M, DW, so, q, k1, k2, k3, k4⟩ => ⟨ρ, M, { DW with nx := u DW }, so, q, fun ρ' M' σ' H' q' g so' =>
    ⟨ρ', M', DW, so', q', fun ρ2 M2 σ2 H2 q2 g2 so2 => k1 ρ2 M2 σ2 H2 q2 (g.trans g2) so2, fun w M2 v H2 q2 g2 r m => k2 w M2 v H2 q2 (g.trans g2) r m,
      fun ρ2 M2 σ2 H2 q2 g2 so2 => k3 ρ2 M2 σ2 H2 q2 (g.trans g2) so2, fun ρ2 M2 σ2 H2 q2 g2 so2 => k4 ρ2 M2 σ2 H2 q2 (g.trans g2) so2⟩, k2, k3, k4⟩
theorem qs_ret {t : WE} (h : QE Y e t) : QS Y (.Return (some e) pos) (wRet t) :=
  PS_imp (ps_ret h) fun D σ H ⟨ρ, M, DW, so, q, k1, k2, _⟩ => ⟨ρ, M, _, so, q, fun w M1 v H1 q1 g r m => k2 w M1 v H1 q1 g r m⟩
theorem qs_retN : QS Y (.Return none pos) wRetN := PS_imp ps_retN fun D σ H ⟨ρ, M, DW, so, q, k1, k2, _⟩ => k2 .non M .non H q (Go.refl _ _) rep_non so.mo
theorem qs_expr {t : WE} (h : QE Y e t) (hs : swapsWith e none pos.line Y.X.env = pure false := by rfl) : QS Y (.Expr e pos) (wDrop t) :=
  PS_imp (ps_expr h hs) fun D σ H ⟨ρ, M, DW, so, q, k1, _⟩ => ⟨ρ, M, _, so, q, fun w M1 v H1 q1 g r m => k1 ρ M1 σ H1 q1 g (so.step g m)⟩
theorem qs_set {i : Nat} {x : Str} {t : WE} {pos' : Pos} (hN : Y.X.N.Nodup) (h : QE Y e t) (hi : Y.X.N[i]? = some x := by rfl) (hx : Loc Y.X.env.scope x := by first | exact Or.inl rfl | exact Or.inr rfl) (hs : swapsWith e (some (.Name x pos')) pos.line Y.X.env = pure false := by rfl)
    (hf : Y.X.fn x = true ∨ Y.X.env.scope.names.lookup x = some .local := by first | exact .inl rfl | exact .inr rfl) : QS Y (.Assign [.Name x pos'] e pos) (wSet i t) :=
  PS_imp (ps_set hN hi hx h hs hf) fun D σ H ⟨ρ, M, DW, so, q, k1, _⟩ => ⟨ρ, M, _, so, q, fun w M1 v H1 q1 g r m => k1 _ M1 _ H1 q1 g ((so.step g m).set r)⟩
theorem qs_if {t : WT} {u v : WS} (hc : QT Y c t) (ha : QSs Y a u) (hb : QSs Y b v) : QS Y (.If c a b pos) (wIfS t u v) :=
  PS_imp (ps_if hc ha hb) fun D σ H ⟨ρ, M, DW, so, q, k1, k2, k3, k4⟩ => ⟨ρ, M, _, so, q, fun x M1 H1 q1 g m => by
    have go : ∀ {t : WS}, t DW ρ M1 → upS Y.b t D σ H1 := fun {t} q => ⟨ρ, M1, DW, so.step g m, q, fun ρ2 M2 σ2 H2 q2 g2 so2 => k1 ρ2 M2 σ2 H2 q2 (g.trans g2) so2, fun w M2 v H2 q2 g2 r m => k2 w M2 v H2 q2 (g.trans g2) r m,
      fun ρ2 M2 σ2 H2 q2 g2 so2 => k3 ρ2 M2 σ2 H2 q2 (g.trans g2) so2, fun ρ2 M2 σ2 H2 q2 g2 so2 => k4 ρ2 M2 σ2 H2 q2 (g.trans g2) so2⟩
    cases x with
    | true => exact go q1
    | false => exact go q1⟩
theorem qs_pass : QS Y (.Pass pos) wNext := PS_imp ps_pass fun D σ H ⟨ρ, M, DW, so, q, k, _⟩ => k ρ M σ H q (Go.refl _ _) so
theorem qs_never : QS Y st wNever := PS_imp ps_never fun D σ H ⟨ρ, M, DW, so, q, k, _⟩ => q.elim
theorem qss_never : QSs Y rest wNever := PSs_imp pss_never fun D σ H ⟨ρ, M, DW, so, q, k, _⟩ => q.elim

/-! ### targets -/
abbrev WG := W → En → Me → (En → Me → Prop) → Prop
abbrev WGs := List W → En → Me → (En → Me → Prop) → Prop
def upG (c : Cb) (g : WG) : TG := fun v σ H Q => ∃ w ρ M Qw, Rep c.B.K H w v ∧ StOk c ρ M σ H ∧ g w ρ M Qw ∧ ∀ ρ' M' σ' H', Qw ρ' M' → Go H M H' M' → StOk c ρ' M' σ' H' → Q σ' H'
def upGs (c : Cb) (g : WGs) : TGs := fun vs σ H Q => ∃ ws ρ M Qw, Reps c.B.K H ws vs ∧ StOk c ρ M σ H ∧ g ws ρ M Qw ∧ ∀ ρ' M' σ' H', Qw ρ' M' → Go H M H' M' → StOk c ρ' M' σ' H' → Q σ' H'
def QG (Y : Cy) (tg : Expr) (g : WG) : Prop := PG Y.X tg (upG Y.b g)
def QGs (Y : Cy) (tgs : List Expr) (g : WGs) : Prop := PGs Y.X tgs (upGs Y.b g)
theorem PG_imp {X : Cx} {e : Expr} {t t' : TG} (h : PG X e t) (i : ∀ v σ H Q, t' v σ H Q → t v σ H Q) : PG X e t' := ⟨fun pins s σ H v u Q I r q => h.run pins s σ H v u Q I r (i v σ H Q q)⟩
theorem PGs_imp {X : Cx} {e : List Expr} {t t' : TGs} (h : PGs X e t) (i : ∀ v σ H Q, t' v σ H Q → t v σ H Q) : PGs X e t' := ⟨fun pins s σ H v u Q I r q => h.run pins s σ H v u Q I r (i v σ H Q q)⟩
def wgName (i : Nat) : WG := fun w ρ M Q => Q (ρ.set i (some w)) M
theorem qg_name {i : Nat} {x : Str} (hN : Y.X.N.Nodup) (hi : Y.X.N[i]? = some x := by rfl) (hx : Loc Y.X.env.scope x := by first | exact Or.inl rfl | exact Or.inr rfl) (hf : Y.X.fn x = true ∨ Y.X.env.scope.names.lookup x = some .local := by first | exact .inl rfl | exact .inr rfl) :
    QG Y (.Name x pos) (wgName i) := PG_imp (pg_name hN hi hx hf) fun v σ H Q ⟨w, ρ, M, Qw, r, so, q, k⟩ => k _ M _ H q (Go.refl _ _) (so.set r)
def wgNil : WGs := fun ws ρ M Q => match ws with
  | [] => Q ρ M
  | _ => False
def wgCons (t : WG) (u : WGs) : WGs := fun ws ρ M Q => match ws with
  | w :: r => t w ρ M fun ρ' M' => u r ρ' M' Q
  | [] => False
theorem qgs_nil : QGs Y [] wgNil := PGs_imp pgs_nil fun v σ H Q ⟨ws, ρ, M, Qw, r, so, q, k⟩ => by
  unfold wgNil at q
  split at q
  · exact ⟨r.unnil, k ρ M σ H q (Go.refl _ _) so⟩
  · exact q.elim
theorem qgs_cons {e : Expr} {es : List Expr} {t : WG} {u : WGs} (h : QG Y e t) (h' : QGs Y es u) (hs : (assignEach (e :: es) Y.X.env).map (·.2) = assign e Y.X.env :: (assignEach es Y.X.env).map (·.2) := by rfl) : QGs Y (e :: es) (wgCons t u) :=
  PGs_imp (pgs_cons h h' hs) fun v σ H Q ⟨ws, ρ, M, Qw, r, so, q, k⟩ => by
    unfold wgCons at q
    split at q
    · rename_i w r'
      obtain ⟨v1, vr, e1, h1, h2⟩ := r.uncons
      exact ⟨v1, vr, e1, w, ρ, M, _, h1, so, q, fun ρ' M' σ' H' q' g so' => ⟨r', ρ', M', Qw, h2.go g.h, so', q', fun ρ2 M2 σ2 H2 q2 g2 so2 => k ρ2 M2 σ2 H2 q2 (g.trans g2) so2⟩⟩
    · exact q.elim
def wgTup (n : Nat) (t : WGs) : WG := fun w ρ M Q => match w with
  | .tup ws => ws.length = n ∧ t ws ρ M Q
  | _ => False
theorem qg_tup {es : List Expr} {k : Nat} {t : WGs} {n : Nat} (hc : Y.X.calm = true) (h : QGs Y es t) (hn : (assignEach es Y.X.env).length = n := by rfl) (hst : (assignEach es Y.X.env).findIdx? (·.1) = none := by rfl) : QG Y (.Tuple es k pos) (wgTup n t) :=
  PG_imp (pg_tup hc h hn hst) fun v σ H Q ⟨w, ρ, M, Qw, r, so, q, k⟩ => by
    unfold wgTup at q
    split at q
    · obtain ⟨a, vs, e1, s, rs⟩ := r.untup
      exact ⟨a, vs, e1, s, rs.length.trans q.1, _, ρ, M, Qw, rs, so, q.2, k⟩
    · exact q.elim
/-- o[i] = w, by values -/
abbrev R3W := W → W → W → Me → (Me → Prop) → Prop
def up3 (B : Kx) (r : R3W) : TSet := fun o i v H Q => ∃ wo wi wv M Qw, Rep B.K H wo o ∧ Rep B.K H wi i ∧ Rep B.K H wv v ∧ Mo B H M ∧ r wo wi wv M Qw ∧ ∀ M' H', Qw M' → Go H M H' M' → Mo B H' M' → Q H'
def SetW (X : Cx) (r : R3W) : Prop := PSet X (up3 X.kx r)
theorem PSet_imp {X : Cx} {r r' : TSet} (h : PSet X r) (i : ∀ o j v H Q, r' o j v H Q → r o j v H Q) : PSet X r' := fun pins s σ H o j v ov iv u Q I r1 r2 r3 q => h pins s σ H o j v ov iv u Q I r1 r2 r3 (i o j v H Q q)
def wgSub (to ti : WE) (r : R3W) : WG := fun w ρ M Q => to ρ M fun o M1 => ti ρ M1 fun i M2 => r o i w M2 fun M3 => Q ρ M3
theorem qg_sub {o i : Expr} {to ti : WE} {r : R3W} (ho : QE Y o to) (hi : QE Y i ti) (hr : SetW Y.X r)
    (ha : ∀ v, assign (.Subscript o i pos) Y.X.env v = (do
      let ov ← holding [v] (eval o Y.X.env)
      let iv ← holding [v, ov] (eval i Y.X.env)
      standAt pos
      holding [v, ov, iv] (setItem ov iv v)
      release [v, ov, iv] []) := by intro _; rfl) : QG Y (.Subscript o i pos) (wgSub to ti r) :=
  PG_imp (pg_sub ho hi hr ha) fun v σ H Q ⟨w, ρ, M, Qw, r, so, q, k⟩ => ⟨ρ, M, _, so, q, fun wo M1 vo H1 q1 g1 r1 m1 => ⟨ρ, M1, _, so.step g1 m1, q1, fun wi M2 vi H2 q2 g2 r2 m2 =>
    ⟨wo, wi, w, M2, _, r1.go g2.h, r2, r.go (g1.trans g2).h, m2, q2, fun M3 H3 q3 g3 m3 => k ρ M3 σ H3 q3 ((g1.trans g2).trans g3) (so.step ((g1.trans g2).trans g3) m3)⟩⟩⟩
def wAsg (t : WE) (g : WG) : WS := fun D ρ M => t ρ M fun w M1 => g w ρ M1 D.nx
theorem qs_asg {tg : Expr} {t : WE} {g : WG} (he : QE Y e t) (hg : QG Y tg g) (hs : swapsWithSole [tg] e pos.line Y.X.env = pure false := by rfl) (hw : swappedStores [tg] e Y.X.env = pure none := by rfl)
    (h1 : (assignEach [tg] Y.X.env).map (·.2) = [assign tg Y.X.env] := by rfl) : QS Y (.Assign [tg] e pos) (wAsg t g) :=
  PS_imp (ps_asg he hg hs hw h1) fun D σ H ⟨ρ, M, DW, so, q, k1, _⟩ => ⟨ρ, M, _, so, q, fun w M1 v H1 q1 g r m => ⟨w, ρ, M1, _, r, so.step g m, q1, fun ρ' M' σ' H' q' g' so' => k1 ρ' M' σ' H' q' (g.trans g') so'⟩⟩
/-- a, b = x, y -/
def wPar (i j : Nat) (t : WA) : WS := fun D ρ M => t ρ M fun ws M1 => match ws with
  | [x, y] => D.nx ((ρ.set i (some x)).set j (some y)) M1
  | _ => False
theorem qs_par {i j : Nat} {x y : Str} {ea eb : Expr} {t : WA} {px py pt : Pos} {kt k2 pt2} (hc : Y.X.calm = true) (hN : Y.X.N.Nodup) (ha : QA Y [ea, eb] t) (hi : Y.X.N[i]? = some x := by rfl) (hj : Y.X.N[j]? = some y := by rfl) (hij : i ≠ j := by decide)
    (hx : Y.X.env.scope.names.lookup x = some .local := by rfl) (hy : Y.X.env.scope.names.lookup y = some .local := by rfl)
    (hw : swappedStores [.Tuple [.Name x px, .Name y py] kt pt] (.Tuple [ea, eb] k2 pt2) Y.X.env = pure (some [x, y]) := by rfl)
    (hs : swapsWithSole [.Tuple [.Name x px, .Name y py] kt pt] (.Tuple [ea, eb] k2 pt2) pos.line Y.X.env = pure false := by rfl) :
    QS Y (.Assign [.Tuple [.Name x px, .Name y py] kt pt] (.Tuple [ea, eb] k2 pt2) pos) (wPar i j t) :=
  PS_imp (ps_par hc hN hi hj hij hx hy ha hw hs) fun D σ H ⟨ρ, M, DW, so, q, k1, _⟩ => ⟨ρ, M, _, so, q, fun ws M1 vs H1 q1 g rs m => by
    split at q1
    · obtain ⟨v1, vr, e1, h1, h2⟩ := rs.uncons
      obtain ⟨v2, vr2, e2, h3, h4⟩ := h2.uncons
      have e3 := h4.unnil
      subst e1 e2 e3
      exact ⟨v1, v2, rfl, k1 _ M1 _ H1 q1 g (((so.step g m).set h1).set h3)⟩
    · exact q1.elim⟩
/-- name op= e -/
def wAug (i : Nat) (t : WE) (r : R2W) : WS := fun D ρ M => match ρ[i]? with
  | some (some x) => t ρ M fun y M1 => r x y M1 fun z M2 => D.nx (ρ.set i (some z)) M2
  | _ => False
theorem qs_aug {i : Nat} {x : Str} {t : WE} {op : Operator} {r : R2W} {pos' : Pos} (hN : Y.X.N.Nodup) (ho : OpW Y.X (inplaceOp op) r) (he : QE Y e t) (hi : Y.X.N[i]? = some x := by rfl) (hx : Loc Y.X.env.scope x := by first | exact Or.inl rfl | exact Or.inr rfl)
    (hf : Y.X.fn x = true ∨ Y.X.env.scope.names.lookup x = some .local := by first | exact .inl rfl | exact .inr rfl) :
    QS Y (.AugAssign (.Name x pos') op e pos) (wAug i t r) :=
  PS_imp (ps_aug (ti := up2 Y.X.kx r) hN hi hx he (fun pins s σ H x y v u Q I rx ry h => ho pins s σ H x y v u Q I rx ry h) hf) fun D σ H ⟨ρ, M, DW, so, q, k1, _⟩ => by
    unfold wAug at q
    split at q
    · rename_i w e1
      obtain ⟨v, h1, h2⟩ := so.env i w e1
      exact ⟨v, h1, ρ, M, _, so, q, fun y M1 vy H1 q1 g r1 m => ⟨w, y, M1, _, h2.go g.h, r1, m, q1, fun z M2 vz H2 q2 g2 r2 m2 => k1 _ M2 _ H2 q2 (g.trans g2) ((so.step (g.trans g2) m2).set r2)⟩⟩
    · exact q.elim

/-! ### while -/
def wWhile (c : WT) (tb : WS) : WS := fun D ρ M => ∃ I : Nat → En → Me → Prop, (∃ m, I m ρ M) ∧ ∀ m ρ M, I m ρ M → c ρ M fun x M1 => match x with
  | true => tb { D with nx := fun ρ' M' => ∃ M0, Sub M0 M' ∧ ∃ m', m' < m ∧ I m' ρ' M0, ct := fun ρ' M' => ∃ M0, Sub M0 M' ∧ ∃ m', m' < m ∧ I m' ρ' M0, bk := D.nx } ρ M1
  | false => D.nx ρ M1
theorem qs_while {t : WT} {u : WS} (hp : PassesOwn (model Y.X.prog Y.X.w) Y.X.A Y.X.env Y.X.xe) (hc : QT Y c t) (hb : QSs Y body u) : QS Y (.While c body [] pos) (wWhile t u) :=
  PS_imp (ps_while hp hc hb) fun D σ H ⟨ρ, M, DW, so, ⟨I, ⟨m0, i0⟩, turn⟩, k1, k2, k3, k4⟩ => by
    refine ⟨fun m σ' H' => ∃ ρ' M', I m ρ' M' ∧ Go H M H' M' ∧ StOk Y.b ρ' M' σ' H', ⟨m0, ρ, M, i0, Go.refl _ _, so⟩, ?_⟩
    rintro m σ1 H1 ⟨ρ1, M1, i1, g1, so1⟩
    refine ⟨ρ1, M1, _, so1, turn m ρ1 M1 i1, fun x M2 H2 q2 g2 m2 => ?_⟩
    have g12 := g1.trans g2
    cases x with
    | true =>
      refine (if_pos rfl).mpr ?_
      refine ⟨fun σ' H' => ∃ m', m' < m ∧ ∃ ρ' M', I m' ρ' M' ∧ Go H M H' M' ∧ StOk Y.b ρ' M' σ' H', fun σ' H' z => z, ?_⟩
      have nx : ∀ ρ' M' σ' H', (∃ M0, Sub M0 M' ∧ ∃ m', m' < m ∧ I m' ρ' M0) → Go H2 M2 H' M' → StOk Y.b ρ' M' σ' H' → ∃ m', m' < m ∧ ∃ ρ' M', I m' ρ' M' ∧ Go H M H' M' ∧ StOk Y.b ρ' M' σ' H' := fun ρ' M' σ' H' ⟨M0, s, m', hm, i'⟩ g so' =>
        ⟨m', hm, ρ', M0, i', (g12.trans g).sub s, so'.sub s⟩
      exact ⟨ρ1, M2, _, so1.step g2 m2, q2, nx, fun w M' v H' q g r m => k2 w M' v H' q (g12.trans g) r m, fun ρ' M' σ' H' q g so' => k1 ρ' M' σ' H' q (g12.trans g) so', nx⟩
    | false =>
      refine (if_neg Bool.false_ne_true).mpr ?_
      exact k1 ρ1 M2 σ1 H2 q2 g12 (so1.step g2 m2)

/-! ### for -/
abbrev ItW := Me → Option (List W)
abbrev WI := En → Me → (ItW → Me → Prop) → Prop
def ItRel (B : Kx) (H1 : Hp) (J : It) (f : ItW) : Prop := ∀ (i : Nat) H M xs, GoH H1 H → Mo B H M → f M = some xs →
  (∀ w, xs[i]? = some w → J.go i H ∧ ∀ x H', J.yld i H x H' → Same H H' ∧ Rep B.K H' w x) ∧ (xs.length ≤ i → J.stop i H)
def upI (c : Cb) (wi : WI) : TI := fun σ H R => ∃ ρ M Rw, StOk c ρ M σ H ∧ wi ρ M Rw ∧ ∀ f M1 J H1, Rw f M1 → Go H M H1 M1 → Mo c.B H1 M1 → ItRel c.B H1 J f → R J H1
def QI (Y : Cy) (tg e : Expr) (wi : WI) : Prop := PI Y.X tg e (upI Y.b wi)
theorem PI_imp {X : Cx} {tg e : Expr} {t t' : TI} (h : PI X tg e t) (i : ∀ σ H R, t' σ H R → t σ H R) : PI X tg e t' := ⟨fun pins s σ H R I q => h.run pins s σ H R I (i σ H R q)⟩
theorem PI_or {X : Cx} {tg e : Expr} {t t' : TI} (h : PI X tg e t) (h' : PI X tg e t') : PI X tg e (fun σ H R => t σ H R ∨ t' σ H R) := ⟨fun pins s σ H R I q => q.elim (h.run pins s σ H R I) (h'.run pins s σ H R I)⟩
def wForB (f : ItW) (g : WG) (tb : WS) (D : Eds) (ρ : En) (M : Me) : Prop := ∃ (I : Nat → En → Me → Prop) (n : Nat), I 0 ρ M ∧ (∀ i ρ M, I i ρ M → i ≤ n) ∧ ∀ i ρ M, I i ρ M → ∃ xs, f M = some xs ∧
  (∀ w, xs[i]? = some w → g w ρ M fun ρ2 M2 => tb { D with nx := fun ρ' M' => ∃ M0, Sub M0 M' ∧ I (i + 1) ρ' M0, ct := fun ρ' M' => ∃ M0, Sub M0 M' ∧ I (i + 1) ρ' M0, bk := D.nx } ρ2 M2) ∧ (xs.length ≤ i → D.nx ρ M)
def wFor (wi : WI) (g : WG) (tb : WS) : WS := fun D ρ M => wi ρ M fun f M1 => wForB f g tb D ρ M1
theorem qs_for {tg iter : Expr} {wi : WI} {g : WG} {u : WS} (hp : PassesOwn (model Y.X.prog Y.X.w) Y.X.A Y.X.env Y.X.xe) (hc : Y.X.calm = true) (hi : QI Y tg iter wi) (hg : QG Y tg g) (hb : QSs Y body u)
    (hs : ∀ x, foldedSetIterable iter Y.X.env x = pure x := by intro _; rfl) : QS Y (.For tg iter body [] pos) (wFor wi g u) :=
  PS_imp (ps_for hp hc hi hg hb hs) fun D σ H ⟨ρ, M, DW, so, q, k1, k2, k3, k4⟩ => by
    refine ⟨ρ, M, _, so, q, fun f M1 J H1 ⟨I, n, i0, hn, turn⟩ g1 m1 rel => ?_⟩
    refine ⟨fun i m σ' H' => m = n - i ∧ ∃ ρ' M', I i ρ' M' ∧ Go H1 M1 H' M' ∧ StOk Y.b ρ' M' σ' H', ⟨n, by simp, ρ, M1, i0, Go.refl _ _, so.step g1 m1⟩, ?_⟩
    rintro i m σ2 H2 ⟨rfl, ρ2, M2, i2, g2, so2⟩
    obtain ⟨xs, hf, hgo, hst⟩ := turn i ρ2 M2 i2
    obtain ⟨r1, r2⟩ := rel i H2 M2 xs g2.h so2.mo hf
    have g12 := g1.trans g2
    by_cases hl : i < xs.length
    · have hw : xs[i]? = some xs[i] := List.getElem?_eq_getElem hl
      obtain ⟨jg, jy⟩ := r1 _ hw
      refine .inr ⟨jg, fun σ' H' => ∃ ρ' M', I (i + 1) ρ' M' ∧ Go H1 M1 H' M' ∧ StOk Y.b ρ' M' σ' H', fun σ' H' ⟨ρ', M', i', g', so'⟩ => ⟨n - (i + 1), by have := hn (i + 1) ρ' M' i'; omega, rfl, ρ', M', i', g', so'⟩, fun x H3 y => ?_⟩
      obtain ⟨g3, r3⟩ := jy x H3 y
      have m3 := so2.mo.same g3
      have g3' : Go H2 M2 H3 M2 := Go.same g3
      have gb := g12.trans g3'
      refine ⟨_, ρ2, M2, _, r3, so2.step g3' m3, hgo _ hw, fun ρ4 M4 σ4 H4 q4 g4 so4 => ?_⟩
      have nx : ∀ ρ' M' σ' H', (∃ M0, Sub M0 M' ∧ I (i + 1) ρ' M0) → Go H4 M4 H' M' → StOk Y.b ρ' M' σ' H' → ∃ ρ' M', I (i + 1) ρ' M' ∧ Go H1 M1 H' M' ∧ StOk Y.b ρ' M' σ' H' := fun ρ' M' σ' H' ⟨M0, s, i'⟩ g so' =>
        ⟨ρ', M0, i', (((g2.trans g3').trans g4).trans g).sub s, so'.sub s⟩
      exact ⟨ρ4, M4, _, so4, q4, nx, fun w M' v H' q g r m => k2 w M' v H' q ((gb.trans g4).trans g) r m, fun ρ' M' σ' H' q g so' => k1 ρ' M' σ' H' q ((gb.trans g4).trans g) so', nx⟩
    · exact .inl ⟨r2 (by omega), k1 ρ2 M2 σ2 H2 (hst (by omega)) g12 so2⟩
/-! what is walked -/
def rdl : Option Ob → Option (List W)
  | some (.lst xs) => some xs
  | _ => none
theorem rdl_sq {B : Kx} {H : Hp} {M : Me} {a : Addr} {xs : List W} (m : Mo B H M) (h : rdl (M a) = some xs) : ∃ vs, SqL B.K H a vs ∧ Reps B.K H xs vs := by
  cases e : M a with
  | none => rw [e] at h; cases h
  | some o =>
    rw [e] at h
    cases o with
    | lst ws =>
      have e2 : ws = xs := by simpa [rdl] using h
      subst e2
      obtain ⟨vs, h1, h2⟩ := m a _ e
      exact ⟨vs, SqL.of h1, h2⟩
    | _ => simp [rdl] at h
/-- a list or a tuple, by its value -/
def wiSeq (t : WE) : WI := fun ρ M R => t ρ M fun x M1 => match x with
  | .tup ws => R (fun _ => some ws) M1
  | .cl ws => R (fun _ => some ws) M1
  | .ref a => (rdl (M1 a)).isSome = true ∧ R (fun M => rdl (M a)) M1
  | _ => False
theorem it_l {X : Cx} {tg : Expr} {pins : List (Addr × Obj)} {σ : L2.St} {H : Hp} {s : Shared} {R : It → Hp → Prop} {E : Value → Shared → Prop} {a : Addr} {vs : List V} (I : Inv X pins σ H s) (hq : SqL X.K H a vs) (q : R (Itl X.K a) H) :
    wpAny (model X.prog X.w) X.A (pyIter (.ref a)) (PIE X pins σ tg R) E s := by
  obtain ⟨us, _, pl, _⟩ := I.list hq
  have nw := Nat.le_refl s.heap.objs.size
  have I2 : ∀ o, Inv X pins σ H { s with heap := s.heap.push o } := fun o => I.kept (t' := s.toks) fun _ u z => Heap.get?_push_of_some _ z
  apply wpAny_pyIter_list pl.isList
  refine ⟨_, [s.heap.objs.size], _, _, H, rfl, I2 _, turn_list a s.heap.objs.size, ⟨_, Heap.get?_push_size _ rfl, rfl, rfl⟩, ?_, q⟩
  intro b hb
  obtain rfl : b = s.heap.objs.size := by simpa using hb
  exact I.fpOk nw (I.hok.fresh nw)
theorem it_t {X : Cx} {tg : Expr} {pins : List (Addr × Obj)} {σ : L2.St} {H : Hp} {s : Shared} {R : It → Hp → Prop} {E : Value → Shared → Prop} {a : Addr} {vs : List V} (I : Inv X pins σ H s) (hq : SqT X.K H a vs) (q : R (Itt X.K a) H) :
    wpAny (model X.prog X.w) X.A (pyIter (.ref a)) (PIE X pins σ tg R) E s := by
  obtain ⟨us, _, pl, _⟩ := I.tuple hq
  have nw := Nat.le_refl s.heap.objs.size
  have I2 : ∀ o, Inv X pins σ H { s with heap := s.heap.push o } := fun o => I.kept (t' := s.toks) fun _ u z => Heap.get?_push_of_some _ z
  apply wpAny_pyIter_tuple (show s.heap.IsTuple a us.toArray from pl)
  refine ⟨_, [s.heap.objs.size], _, _, H, rfl, I2 _, turn_tuple a s.heap.objs.size, ⟨_, Heap.get?_push_size _ rfl, rfl, rfl⟩, ?_, q⟩
  intro b hb
  obtain rfl : b = s.heap.objs.size := by simpa using hb
  exact I.fpOk nw (I.hok.fresh nw)
theorem rel_list {B : Kx} {H1 : Hp} {a : Addr} : ItRel B H1 (Itl B.K a) (fun M => rdl (M a)) := fun i H M xs g m h => by
  obtain ⟨vs, s, r⟩ := rdl_sq m h
  refine ⟨fun w e => ?_, fun l => ⟨vs, s, by rw [r.length]; exact l⟩⟩
  obtain ⟨v, e2, rv⟩ := r.get e
  refine ⟨⟨vs, v, s, e2⟩, fun x H' ⟨e3, z⟩ => ?_⟩
  subst e3
  have := z vs s
  rw [e2] at this
  cases this
  exact ⟨Same.refl _, rv⟩
theorem rel_tup {X : Cx} {pins : List (Addr × Obj)} {σ : L2.St} {s0 : Shared} {H1 : Hp} {a : Addr} {vs : List V} {ws : List W} (s : SqT X.K H1 a vs) (r : Reps X.K H1 ws vs) : ItRel X.kx H1 (Itt X.K a) (fun _ => some ws) := fun i H M xs g m h => by
  cases h
  have s' := g.sqT s
  have r' := r.go g
  refine ⟨fun w e => ?_, fun l => ⟨vs, s', by rw [r'.length]; exact l⟩⟩
  obtain ⟨v, e2, rv⟩ := r'.get e
  refine ⟨⟨vs, v, s', e2⟩, fun x H' ⟨e3, z⟩ => ?_⟩
  subst e3
  have := z vs s'
  rw [e2] at this
  cases this
  exact ⟨Same.refl _, rv⟩
theorem rel_cl {X : Cx} {H1 : Hp} {a : Addr} {vs : List V} {ws : List W} (s : Cl X.K H1 a vs) (r : Reps X.K H1 ws vs) : ItRel X.kx H1 (Itl X.K a) (fun _ => some ws) := fun i H M xs g m h => by
  cases h
  have s' := (g.cl s).sq
  have r' := r.go g
  refine ⟨fun w e => ?_, fun l => ⟨vs, s', by rw [r'.length]; exact l⟩⟩
  obtain ⟨v, e2, rv⟩ := r'.get e
  refine ⟨⟨vs, v, s', e2⟩, fun x H' ⟨e3, z⟩ => ?_⟩
  subst e3
  have := z vs s'
  rw [e2] at this
  cases this
  exact ⟨Same.refl _, rv⟩
theorem qi_seq {tg : Expr} {t : WE} (h : QE Y e t) : QI Y tg e (wiSeq t) := ⟨fun pins s σ H R I ⟨ρ, M, Rw, so, q, k⟩ => by
  refine thn (h.run pins s σ H (fun v H1 => ∃ w M1, Rep Y.X.K H1 w v ∧ Mo Y.X.kx H1 M1 ∧ Go H M H1 M1 ∧ (match w with
    | .tup ws => Rw (fun _ => some ws) M1
    | .cl ws => Rw (fun _ => some ws) M1
    | .ref a => (rdl (M1 a)).isSome = true ∧ Rw (fun M => rdl (M a)) M1
    | _ => False)) I ⟨ρ, M, _, so, q, fun w M1 v H1 q1 g r m => ⟨w, M1, r, m, g, q1⟩⟩) fun u s1 ⟨v, H1, I1, rv, w, M1, r, m, g, q1⟩ => ?_
  split at q1
  · obtain ⟨a, vs, e, sq, rs⟩ := r.untup
    subst e
    cases rv
    exact it_t I1 sq (k _ M1 _ H1 q1 g m (rel_tup (pins := pins) (σ := σ) (s0 := s1) sq rs))
  · obtain ⟨a, vs, e, sq, rs⟩ := r.uncl
    subst e
    cases rv
    exact it_l I1 sq.sq (k _ M1 _ H1 q1 g m (rel_cl sq rs))
  · have e := un_ref r
    subst e
    cases rv
    obtain ⟨xs, hx⟩ := Option.isSome_iff_exists.mp q1.1
    obtain ⟨vs, sq, rs⟩ := rdl_sq m hx
    exact it_l I1 sq (k _ M1 _ H1 q1.2 g m rel_list)
  · exact q1.elim⟩
def rngW (lo hi : Int) : List W := (List.range (hi - lo).toNat).map fun (k : Nat) => W.int (lo + (k : Int))
def wiRng1 (t : WA) : WI := fun ρ M R => t ρ M fun ws M1 => match ws with
  | [.int j] => (-(2 ^ 62) ≤ j ∧ j < 2 ^ 62) ∧ R (fun _ => some (rngW 0 j)) M1
  | _ => False
def wiRng2 (t : WA) : WI := fun ρ M R => t ρ M fun ws M1 => match ws with
  | [.int i, .int j] => (-(2 ^ 62) ≤ i ∧ i < 2 ^ 62 ∧ -(2 ^ 62) ≤ j ∧ j < 2 ^ 62) ∧ R (fun _ => some (rngW i j)) M1
  | _ => False
theorem rel_rng {B : Kx} {H1 : Hp} {lo : Int} {n : Nat} : ItRel B H1 (Itr lo n) (fun _ => some ((List.range n).map fun (k : Nat) => W.int (lo + (k : Int)))) := fun i H M xs g m h => by
  cases h
  refine ⟨fun w e => ?_, fun l => show n ≤ i by simpa using l⟩
  rw [List.getElem?_map] at e
  have hi : i < n := by
    by_cases hl : i < n
    · exact hl
    · rw [List.getElem?_eq_none (by simpa using hl)] at e; cases e
  rw [List.getElem?_range hi] at e
  have e2 : W.int (lo + (i : Int)) = w := by simpa using e
  subst e2
  refine ⟨hi, fun x H' ⟨e3, e4⟩ => ?_⟩
  subst e3 e4
  exact ⟨Same.refl _, rep_int⟩
theorem qi_rng1 {tg : Expr} {t : WA} {p : Pos} (hg : Gl Y.X "range") (hm : Y.X.mg "range" = none) (h : QA Y [e] t) (hs : starEach [e] Y.X.env = [(false, eval e Y.X.env)] := by rfl) : QI Y tg (.Call (.Name "range" p) [e] [] pos) (wiRng1 t) :=
  PI_imp (pi_range1 hg hm h hs) fun σ H R ⟨ρ, M, Rw, so, q, k⟩ => ⟨ρ, M, _, so, q, fun ws M1 vs H1 q1 g rs m => by
    split at q1
    · rename_i j
      obtain ⟨v, r, e1, r1, r2⟩ := rs.uncons
      have e2 := r2.unnil
      have e3 := un_int r1
      subst e1 e2 e3
      refine ⟨j, rfl, q1.1.1, q1.1.2, k _ M1 _ H1 q1.2 g m ?_⟩
      have z := rel_rng (B := Y.X.kx) (H1 := H1) (lo := 0) (n := j.toNat)
      unfold rngW
      rw [Int.sub_zero]
      exact z
    · exact q1.elim⟩
theorem qi_rng2 {tg e2 : Expr} {t : WA} {p : Pos} (hg : Gl Y.X "range") (hm : Y.X.mg "range" = none) (h : QA Y [e, e2] t) (hs : starEach [e, e2] Y.X.env = [(false, eval e Y.X.env), (false, eval e2 Y.X.env)] := by rfl) (hs2 : starEach [e2] Y.X.env = [(false, eval e2 Y.X.env)] := by rfl) :
    QI Y tg (.Call (.Name "range" p) [e, e2] [] pos) (wiRng2 t) :=
  PI_imp (pi_range2 hg hm h hs hs2) fun σ H R ⟨ρ, M, Rw, so, q, k⟩ => ⟨ρ, M, _, so, q, fun ws M1 vs H1 q1 g rs m => by
    split at q1
    · rename_i i j
      obtain ⟨v, r, e1, r1, r2⟩ := rs.uncons
      obtain ⟨v2, r3, e2, r4, r5⟩ := r2.uncons
      have e3 := r5.unnil
      have e4 := un_int r1
      have e5 := un_int r4
      subst e1 e2 e3 e4 e5
      exact ⟨i, j, rfl, q1.1, k _ M1 _ H1 q1.2 g m rel_rng⟩
    · exact q1.elim⟩
end
end PV
set_option maxHeartbeats 1000000
/-! PV: comprehensions, calls, defs. -/
namespace PV
open PySem PySem.Spec PyProof.Rows L2

/-! ### comprehensions -/
def wWipe (ρ : En) : List Nat → En
  | [] => ρ
  | v :: vs => (wWipe ρ vs).set v none
/-- the turns: acc what is made so far -/
def wLcB (f : ItW) (g : WG) (tt : WT) (te : WE) (vs : List Nat) (ρ : En) (M : Me) (Q : WK) : Prop := ∃ (I : Nat → List W → Me → Prop) (n : Nat), I 0 [] M ∧ (∀ i acc M, I i acc M → i ≤ n) ∧ ∀ i acc M, I i acc M → acc.length < sizeLine ∧ ∃ xs, f M = some xs ∧
  (∀ w, xs[i]? = some w → g w (wWipe ρ vs) M fun ρ2 M2 => tt ρ2 M2 fun b M3 => match b with
    | true => te ρ2 M3 fun y M4 => ∃ M0, Sub M0 M4 ∧ I (i + 1) (acc ++ [y]) M0
    | false => ∃ M0, Sub M0 M3 ∧ I (i + 1) acc M0) ∧ (xs.length ≤ i → ∀ p, M p = none → Q (.ref p) (put M p (.lst acc)))
def wLc (wi : WI) (g : WG) (tt : WT) (te : WE) (vs : List Nat) : WE := fun ρ M Q => wi ρ M fun f M1 => wLcB f g tt te vs ρ M1 Q
theorem set_wipe (σ : L2.St) (x : Option V) : ∀ (vs : List Nat) (i : Nat), (L2.wipe (σ.set i x) vs).set i none = (L2.wipe σ vs).set i none
  | [], i => by
    show (σ.set i x).set i none = σ.set i none
    rw [List.set_set]
  | v :: vs, i => by
    show ((L2.wipe (σ.set i x) vs).set v none).set i none = ((L2.wipe σ vs).set v none).set i none
    by_cases z : v = i
    · subst z
      rw [List.set_set, List.set_set]
      exact set_wipe σ x vs v
    · rw [List.set_comm _ _ z, set_wipe σ x vs i, List.set_comm _ _ (Ne.symm z)]
theorem wipe_mem (σ : L2.St) (x : Option V) : ∀ (vs : List Nat) (i : Nat), i ∈ vs → L2.wipe (σ.set i x) vs = L2.wipe σ vs
  | [], i, h => by cases h
  | v :: vs, i, h => by
    show (L2.wipe (σ.set i x) vs).set v none = (L2.wipe σ vs).set v none
    by_cases z : v = i
    · subst z; exact set_wipe σ x vs v
    · rw [wipe_mem σ x vs i (by
        rcases List.mem_cons.mp h with e | e
        · exact absurd e.symm z
        · exact e)]
section
variable {c : Cb} {M : Me} {H : Hp}
theorem StOk.unset {ρ : En} {σ : L2.St} (v : Nat) (so : StOk c ρ M σ H) : StOk c (ρ.set v none) M (σ.set v none) H := by
  refine ⟨fun i w e => ?_, by rw [List.length_set, List.length_set]; exact so.len, so.mo, so.go⟩
  by_cases z : v = i
  · subst z
    have hl : v < ρ.length := by
      have := (List.getElem?_eq_some_iff.mp e).1
      simpa using this
    rw [List.getElem?_set_self hl] at e
    cases e
  · rw [List.getElem?_set_ne z] at e ⊢
    exact so.env i w e
theorem StOk.wipe {ρ : En} {σ : L2.St} (so : StOk c ρ M σ H) : ∀ vs : List Nat, StOk c (wWipe ρ vs) M (L2.wipe σ vs) H
  | [] => so
  | v :: vs => (StOk.wipe so vs).unset v
end
/-- a target in a comprehension: only the block's own names -/
def upGv (c : Cb) (vs : List Nat) (g : WG) : TG := fun v σ H Q => ∃ w ρ M Qw, Rep c.B.K H w v ∧ StOk c ρ M σ H ∧ g w ρ M Qw ∧ ∀ ρ' M' σ' H', Qw ρ' M' → Go H M H' M' → StOk c ρ' M' σ' H' → L2.wipe σ' vs = L2.wipe σ vs → Q σ' H'
def upGvs (c : Cb) (vs : List Nat) (g : WGs) : TGs := fun xs σ H Q => ∃ ws ρ M Qw, Reps c.B.K H ws xs ∧ StOk c ρ M σ H ∧ g ws ρ M Qw ∧ ∀ ρ' M' σ' H', Qw ρ' M' → Go H M H' M' → StOk c ρ' M' σ' H' → L2.wipe σ' vs = L2.wipe σ vs → Q σ' H'
def QGv (Y : Cy) (vs : List Nat) (tg : Expr) (g : WG) : Prop := PG Y.X tg (upGv Y.b vs g)
def QGvs (Y : Cy) (vs : List Nat) (tgs : List Expr) (g : WGs) : Prop := PGs Y.X tgs (upGvs Y.b vs g)
section
variable {Y : Cy} {vs : List Nat} {pos : Pos}
theorem qv_name {i : Nat} {x : Str} (hN : Y.X.N.Nodup) (hm : i ∈ vs := by decide) (hi : Y.X.N[i]? = some x := by rfl) (hx : Loc Y.X.env.scope x := by first | exact Or.inl rfl | exact Or.inr rfl)
    (hf : Y.X.fn x = true ∨ Y.X.env.scope.names.lookup x = some .local := by first | exact .inl rfl | exact .inr rfl) : QGv Y vs (.Name x pos) (wgName i) :=
  PG_imp (pg_name hN hi hx hf) fun v σ H Q ⟨w, ρ, M, Qw, r, so, q, k⟩ => k _ M _ H q (Go.refl _ _) (so.set r) (wipe_mem σ _ vs i hm)
theorem qvs_nil : QGvs Y vs [] wgNil := PGs_imp pgs_nil fun v σ H Q ⟨ws, ρ, M, Qw, r, so, q, k⟩ => by
  unfold wgNil at q
  split at q
  · exact ⟨r.unnil, k ρ M σ H q (Go.refl _ _) so rfl⟩
  · exact q.elim
theorem qvs_cons {e : Expr} {es : List Expr} {t : WG} {u : WGs} (h : QGv Y vs e t) (h' : QGvs Y vs es u) (hs : (assignEach (e :: es) Y.X.env).map (·.2) = assign e Y.X.env :: (assignEach es Y.X.env).map (·.2) := by rfl) : QGvs Y vs (e :: es) (wgCons t u) :=
  PGs_imp (pgs_cons h h' hs) fun v σ H Q ⟨ws, ρ, M, Qw, r, so, q, k⟩ => by
    unfold wgCons at q
    split at q
    · rename_i w r'
      obtain ⟨v1, vr, e1, h1, h2⟩ := r.uncons
      exact ⟨v1, vr, e1, w, ρ, M, _, h1, so, q, fun ρ' M' σ' H' q' g so' ew => ⟨r', ρ', M', Qw, h2.go g.h, so', q', fun ρ2 M2 σ2 H2 q2 g2 so2 ew2 => k ρ2 M2 σ2 H2 q2 (g.trans g2) so2 (ew2.trans ew)⟩⟩
    · exact q.elim
theorem qv_tup {es : List Expr} {k : Nat} {t : WGs} {n : Nat} (hc : Y.X.calm = true) (h : QGvs Y vs es t) (hn : (assignEach es Y.X.env).length = n := by rfl) (hst : (assignEach es Y.X.env).findIdx? (·.1) = none := by rfl) : QGv Y vs (.Tuple es k pos) (wgTup n t) :=
  PG_imp (pg_tup hc h hn hst) fun v σ H Q ⟨w, ρ, M, Qw, r, so, q, k⟩ => by
    unfold wgTup at q
    split at q
    · obtain ⟨a, vs, e1, s, rs⟩ := r.untup
      exact ⟨a, vs, e1, s, rs.length.trans q.1, _, ρ, M, Qw, rs, so, q.2, k⟩
    · exact q.elim
def QTs (Y : Cy) (ifs : List Expr) (t : WT) : Prop := PTs Y.X ifs (upT Y.b t)
theorem PTs_imp {X : Cx} {es : List Expr} {t t' : TT} (h : PTs X es t) (i : ∀ σ H Q, t' σ H Q → t σ H Q) : PTs X es t' := ⟨fun pins s σ H Q I q => h.run pins s σ H Q I (i σ H Q q)⟩
def wYes : WT := fun _ M Q => Q true M
theorem qts_nil : QTs Y [] wYes := PTs_imp pts_nil fun σ H Q ⟨ρ, M, Qw, so, q, k⟩ => k true M H q (Go.refl _ _) so.mo
theorem qts_one {c : Expr} {t : WT} (h : QT Y c t) : QTs Y [c] t := pts_one h
end
theorem up_lc {c : Cb} {σ : L2.St} {H : Hp} {Q : VK} {wi : WI} {g : WG} {tt : WT} {te : WE} {vs : List Nat} (h : upE c (wLc wi g tt te vs) σ H Q) : tLc (upI c wi) (upGv c vs g) (upT c tt) (upE c te) vs σ H Q := by
  obtain ⟨ρ, M, Qw, so, q, k⟩ := h
  refine ⟨ρ, M, _, so, q, fun f M1 J H1 ⟨I, n, i0, hn, turn⟩ g1 m1 rel D hD => ?_⟩
  refine ⟨fun i m H' => m = n - i ∧ ∃ acc M' va, I i acc M' ∧ M' D = none ∧ Go H1 M1 H' M' ∧ Mo c.B H' M' ∧ H' D = some (.lst va) ∧ Reps c.B.K H' acc va,
    ⟨n, by simp, [], M1, [], i0, m1.free hD, Go.same (sameNew hD), m1.same (sameNew hD), upd_same, Reps.nil⟩, ?_⟩
  rintro i m H2 ⟨rfl, acc, M2, va, i2, n2, g2, m2, d2, r2⟩
  obtain ⟨hlen, xs, hf, hgo, hst⟩ := turn i acc M2 i2
  obtain ⟨rl1, rl2⟩ := rel i H2 M2 xs g2.h m2 hf
  by_cases hl : i < xs.length
  · have hw : xs[i]? = some xs[i] := List.getElem?_eq_getElem hl
    obtain ⟨jg, jy⟩ := rl1 _ hw
    refine .inr ⟨jg, fun H' => ∃ acc M' va, I (i + 1) acc M' ∧ M' D = none ∧ Go H1 M1 H' M' ∧ Mo c.B H' M' ∧ H' D = some (.lst va) ∧ Reps c.B.K H' acc va,
      fun H' ⟨acc, M', va, i', z⟩ => ⟨n - (i + 1), by have := hn (i + 1) acc M' i'; omega, rfl, acc, M', va, i', z⟩, fun x H3 y => ?_⟩
    obtain ⟨s3, r3⟩ := jy x H3 y
    have g3 : Go H2 M2 H3 M2 := Go.same s3
    have so3 : StOk c ρ M2 σ H3 := so.step (((g1.trans g2)).trans g3) (m2.same s3)
    refine ⟨_, wWipe ρ vs, M2, _, r3, so3.wipe vs, hgo _ hw, fun ρ4 M4 σ4 H4 q4 g4 so4 ew => ?_⟩
    refine ⟨?_, ρ4, M4, _, so4, q4, fun b M5 H5 q5 g5 m5 => ?_⟩
    · rw [ew]
      have ww : ∀ (σ : L2.St) (us : List Nat), (∀ i ∈ us, i ∈ vs) → L2.wipe (L2.wipe σ us) vs = L2.wipe σ vs := by
        intro σ us
        induction us with
        | nil => intro _; rfl
        | cons v us ih =>
          intro hm
          show L2.wipe ((L2.wipe σ us).set v none) vs = _
          rw [wipe_mem _ _ vs v (hm v List.mem_cons_self)]
          exact ih fun i hi => hm i (List.mem_cons_of_mem _ hi)
      exact ww σ vs fun _ h => h
    · have ga : Go H1 M1 H5 M5 := ((g2.trans g3).trans g4).trans g5
      have gb : Go H2 M2 H5 M5 := (g3.trans g4).trans g5
      cases b with
      | true =>
        refine (if_pos rfl).mpr ?_
        refine ⟨ρ4, M5, _, so4.step g5 m5, q5, fun y M6 vy H6 ⟨M0, s0, i6⟩ g6 r6 m6 => ?_⟩
        have gc := gb.trans g6
        have d6 : H6 D = some (.lst va) := gc.fm D _ d2 n2
        have n6 : M6 D = none := gc.fr D (by rw [d2]; intro z; cases z) n2
        have gw : GoH H6 (upd H6 D (.lst (va ++ [vy]))) := GoH.write d6 (fun _ z => nomatch z) (fun _ _ z => nomatch z)
        have n0 : M0 D = none := by
          cases e : M0 D with
          | none => rfl
          | some o => have := s0 D o e; rw [n6] at this; cases this
        have rl : va.length = acc.length := r2.length
        refine ⟨va, d6, by rw [rl]; exact hlen, acc ++ [y], M0, va ++ [vy], i6, n0, ?_, ?_, upd_same, ((r2.go gc.h).go gw).append (.cons (r6.go gw) .nil)⟩
        · have gz := (ga.trans g6).sub s0
          refine ⟨gz.h.trans gw, gz.fr, fun a o e na => ?_⟩
          rw [upd_ne (ne_of_none e hD)]
          exact gz.fm a o e na
        · intro a o e
          have ne : a ≠ D := fun z => by rw [z, n0] at e; cases e
          exact (m6 a o (s0 a o e)).go gw (upd_ne ne)
      | false =>
        refine (if_neg Bool.false_ne_true).mpr ?_
        obtain ⟨M0, s0, i6⟩ := q5
        have d6 : H5 D = some (.lst va) := gb.fm D _ d2 n2
        have n6 : M5 D = none := gb.fr D (by rw [d2]; intro z; cases z) n2
        have n0 : M0 D = none := by
          cases e : M0 D with
          | none => rfl
          | some o => have := s0 D o e; rw [n6] at this; cases this
        exact ⟨acc, M0, va, i6, n0, ga.sub s0, m5.sub s0, d6, r2.go gb.h⟩
  · refine .inl ⟨rl2 (by omega), ?_⟩
    have q2 := hst (by omega) D n2
    have gg := g1.trans g2
    refine k _ _ _ H2 q2 ⟨gg.h, fun a ha na => ?_, gg.fm⟩ rep_ref fun a o e => ?_
    · by_cases z : a = D
      · subst z
        cases ea : H a with
        | none => exact absurd ea ha
        | some o => exact absurd hD (g1.h.dom a ha)
      · rw [put_ne z]
        exact gg.fr a ha na
    · by_cases z : a = D
      · subst z
        rw [put_same] at e
        cases e
        exact ⟨va, d2, r2⟩
      · rw [put_ne z] at e
        exact m2 a o e
section
variable {Y : Cy} {elt tg iter : Expr} {ifs : List Expr} {scope : Scope} {own : List (Str × Nat)} {pos : Pos} {wi : WI} {g : WG} {tt : WT} {te : WE}
/-- the context within a comprehension's block -/
abbrev Cy.blk (Y : Cy) (s : Shared) (H : Hp) (scope : Scope) (C : Addr) (cl : List (Str × Addr)) (fp : List Addr) : Cy := { Y with X := Y.X.blk s H scope (compEnvC scope cl C Y.X.env) fp }
theorem q_lc (own : List (Str × Nat)) (hc : Y.X.calm = true) (hN : Y.X.N.Nodup) (hi : QI Y tg iter wi) (ok : BlkOk Y.X.N Y.X.env.scope scope own)
    (hg : ∀ (s : Shared) (H : Hp) (C : Addr) (cl : List (Str × Addr)) (fp : List Addr), QGv (Y.blk s H scope C cl fp) (own.map (·.2)) tg g)
    (ht : ∀ (s : Shared) (H : Hp) (C : Addr) (cl : List (Str × Addr)) (fp : List Addr), QTs (Y.blk s H scope C cl fp) ifs tt)
    (he : ∀ (s : Shared) (H : Hp) (C : Addr) (cl : List (Str × Addr)) (fp : List Addr), QE (Y.blk s H scope C cl fp) elt te)
    (hs : ∀ x, foldedSetIterable iter Y.X.env x = pure x := by intro _; rfl) : QE Y (.ListComp elt [⟨tg, iter, ifs, 0⟩] scope pos) (wLc wi g tt te (own.map (·.2))) :=
  PE_imp (pe_lc (g := upGv Y.b (own.map fun (q : Str × Nat) => q.2) g) (tt := upT Y.b tt) (te := upE Y.b te) hc hN hi ok hg ht he hs) fun _ _ _ h => up_lc h
/-- name = [..] on one line -/
theorem qs_setLc {i : Nat} {y : Str} {py spos : Pos} (own : List (Str × Nat)) (hc : Y.X.calm = true) (hN : Y.X.N.Nodup) (hi : QI Y tg iter wi) (ok : BlkOk Y.X.N Y.X.env.scope scope own)
    (hg : ∀ (s : Shared) (H : Hp) (C : Addr) (cl : List (Str × Addr)) (fp : List Addr), QGv (Y.blk s H scope C cl fp) (own.map (·.2)) tg g)
    (ht : ∀ (s : Shared) (H : Hp) (C : Addr) (cl : List (Str × Addr)) (fp : List Addr), QTs (Y.blk s H scope C cl fp) ifs tt)
    (he : ∀ (s : Shared) (H : Hp) (C : Addr) (cl : List (Str × Addr)) (fp : List Addr), QE (Y.blk s H scope C cl fp) elt te)
    (hy : Y.X.N[i]? = some y := by rfl) (hyl : Y.X.env.scope.names.lookup y = some .local := by rfl) (hsw : swapsWith (.ListComp elt [⟨tg, iter, ifs, 0⟩] scope pos) (some (.Name y py)) spos.line Y.X.env = pure true := by exact sw_true rfl rfl rfl (by decide +kernel))
    (hs : ∀ x, foldedSetIterable iter Y.X.env x = pure x := by intro _; rfl) : QS Y (.Assign [.Name y py] (.ListComp elt [⟨tg, iter, ifs, 0⟩] scope pos) spos) (wSet i (wLc wi g tt te (own.map (·.2)))) :=
  PS_imp (ps_setLc (g := upGv Y.b (own.map fun (q : Str × Nat) => q.2) g) (tt := upT Y.b tt) (te := upE Y.b te) hc hN hy hyl hsw hi ok hg ht he hs) fun D σ H ⟨ρ, M, DW, so, q, k1, _⟩ => by
    have u : upE Y.b (wLc wi g tt te (own.map (·.2))) σ H (fun v H1 => D.nx (σ.set i (some v)) H1) := ⟨ρ, M, _, so, q, fun w M1 v H1 q1 g r m => k1 _ M1 _ H1 q1 g ((so.step g m).set r)⟩
    exact up_lc u
end

/-! ### defs -/
abbrev XKW := Value → Me → Prop
/-- a promise: the arguments, the memory, the wanted end, the wanted exception -/
abbrev PSp := List W → Me → WK → XKW → Prop
def upSp (B : Kx) (sp : PSp) : Sp := fun vs H Q E => ∃ ws M Qw Ew, Reps B.K H ws vs ∧ Mo B H M ∧ sp ws M Qw Ew ∧ (∀ w M' v H', Qw w M' → Go H M H' M' → Rep B.K H' w v → Mo B H' M' → Q v H') ∧ (∀ x M' H', Ew x M' → Go H M H' M' → Mo B H' M' → E x none H')
/-- a def of the module that keeps a promise at a level -/
structure Dk (B : Kx) (mg : Str → Option Value) (base : Heap) (k : Nat) (x : Str) (ps : List Str) (sp : PSp) : Prop where
  ok : ∃ f fd, mg x = some (.ref f) ∧ PySem.W.keepIn B.K (.ref f) = true ∧ Binds B.K fd ps [] ∧ FnOk B.P B.w B.K mg base CX0 k f fd ps (upSp B sp)
theorem Dk.mono {B : Kx} {mg : Str → Option Value} {base : Heap} {j k : Nat} {x : Str} {ps : List Str} {sp : PSp} (d : Dk B mg base j x ps sp) (h : j ≤ k) : Dk B mg base k x ps sp := by
  obtain ⟨f, fd, h1, h2, h3, h4⟩ := d.ok
  exact ⟨f, fd, h1, h2, h3, h4.mono h⟩
section
variable {Y : Cy} {k : Nat} {x : Str} {p pos : Pos} {ps : List Str} {sp : PSp} {e : Expr} {es : List Expr} {t : WA}
def noX : XKW := fun _ _ => False
def wFn (sp : PSp) (t : WA) : WE := fun ρ M Q => t ρ M fun ws M1 => sp ws M1 Q noX
theorem up_fn {E : XK} {σ : L2.St} {H : Hp} {Q : VK} (h : upE Y.b (wFn sp t) σ H Q) : tCall (upSp Y.X.kx sp) [] E (upA Y.b t) σ H Q := by
  obtain ⟨ρ, M, Qw, so, q, k⟩ := h
  refine ⟨ρ, M, _, so, q, fun ws M1 vs H1 q1 g1 rs m1 => ?_⟩
  show upSp Y.X.kx sp (vs ++ []) H1 Q E
  rw [List.append_nil]
  exact ⟨ws, M1, Qw, noX, rs, m1, q1, fun w M2 v H2 q2 g2 r m => k w M2 v H2 q2 (g1.trans g2) r m, fun _ _ _ z => z.elim⟩
theorem q_fn (d : Dk Y.X.kx Y.X.mg Y.X.base k x ps sp) (hr : Room k Y.X.A) (hg : Gl Y.X x) (ha : QA Y (e :: es) t) (hdb : (x == ("__debug__" : Str)) = false := by decide)
    (he : starEach (e :: es) Y.X.env = (false, eval e Y.X.env) :: starEach es Y.X.env := by rfl) (hpl : (backTo pos (starEach es Y.X.env)).any (·.1) = false := by rfl) : QE Y (.Call (.Name x p) (e :: es) [] pos) (wFn sp t) := by
  obtain ⟨f, fd, h1, h2, h3, h4⟩ := d.ok
  exact PE_imp (pe_call h4 hr hg h1 h2 h3 .nil pass0 ha hdb he hpl) fun _ _ _ h => up_fn h
theorem q_fn0 (d : Dk Y.X.kx Y.X.mg Y.X.base k x ps sp) (hr : Room k Y.X.A) (hg : Gl Y.X x) (hdb : (x == ("__debug__" : Str)) = false := by decide) : QE Y (.Call (.Name x p) [] [] pos) (wFn sp wNil) := by
  obtain ⟨f, fd, h1, h2, h3, h4⟩ := d.ok
  refine PE_imp (pe_call0 h4 hr hg h1 h2 h3 .nil pass0 hdb) fun σ H Q h => ?_
  have z := up_fn (E := E0) h
  show upSp Y.X.kx sp ([] ++ []) H Q E0
  obtain ⟨ρ, M, Qw, so, q, k⟩ := h
  exact ⟨[], M, Qw, noX, Reps.nil, so.mo, q, fun w M2 v H2 q2 g2 r m => k w M2 v H2 q2 g2 r m, fun _ _ _ z => z.elim⟩
end
/-- the slots at a def's start -/
def wStart (N : List Str) (ws : List W) : En := ws.map some ++ List.replicate (N.length - ws.length) none
/-- what is wanted at a body's end -/
def wEnd (Q : WK) : Eds := { nx := fun _ M' => ∃ M0, Sub M0 M' ∧ Q .non M0, rt := fun w M' => ∃ M0, Sub M0 M' ∧ Q w M0 }
section
variable {P : Program} {w : World} {K : PySem.W.Frag} {mg : Str → Option Value} {base : Heap}
/-- the context of a def's body -/
abbrev fnCy (P : Program) (w : World) (K : PySem.W.Frag) (mg : Str → Option Value) (base : Heap) (N : List Str) (qual : Str) (st : Stmt) (f : Addr) (cdv : Value) (A : Around) (outer : List Env) (s : Shared) (H : Hp) (E : XK) (M : Me) : Cy :=
  ⟨(cxOf CX0 P w K mg base N qual (defScope st) f cdv A outer s H E).nox, H, M⟩
/-- a def: its body's derivation and its reading -/
theorem fn_ok {x qual : Str} {st : Stmt} {f : Addr} {fd : FuncData} {N ps : List Str} {k : Nat} {sp : PSp} {t : WS} (F : Fun K x qual st f fd) (S : FnScope N ps (defScope st)) (len : ∀ ws M Q E, sp ws M Q E → ws.length = ps.length)
    (body : ∀ (cdv : Value) (A : Around) (outer : List Env) (s : Shared) (H : Hp) (E : XK) (M : Me), Room k (A.deeper (envOfC qual (defScope st) s.heap.objs.size f cdv)) → QSs (fnCy P w K mg base N qual st f cdv A outer s H E M) (defBody st) t)
    (rd : ∀ ws M Q E, sp ws M Q E → t (wEnd Q) (wStart N ws) M) : FnOk P w K mg base CX0 (k + 1) f fd ps (upSp ⟨P, w, K⟩ sp) := by
  refine F.ok S (fun vs H Q E ⟨ws, M, Qw, Ew, rs, _, h, _⟩ => by rw [rs.length]; exact len _ _ _ _ h) (fun cdv A outer s H vs Q E hr h => ?_)
  obtain ⟨ws, M, Qw, Ew, rs, m, h, k1, _⟩ := h
  refine ⟨_, body cdv A outer s H E M hr, wStart N ws, M, wEnd Qw, ⟨fun i y e => ?_, ?_, m, Go.refl _ _⟩, rd ws M Qw Ew h, fun ρ' M' σ' H' ⟨M0, s0, q⟩ g so => k1 .non M0 .non H' q (g.sub s0) rep_non (so.mo.sub s0),
    fun y M' v H' ⟨M0, s0, q⟩ g r m' => k1 y M0 v H' q (g.sub s0) r (m'.sub s0), fun _ _ _ _ z => z.elim, fun _ _ _ _ z => z.elim⟩
  · unfold wStart at e
    by_cases hi : i < ws.length
    · rw [List.getElem?_append_left (by simpa using hi), List.getElem?_map] at e
      cases q : ws[i]? with
      | none => rw [q] at e; cases e
      | some z =>
        rw [q] at e
        have e' : z = y := by simpa using e
        subst e'
        obtain ⟨v, h1, h2⟩ := rs.get q
        refine ⟨v, ?_, h2⟩
        unfold L2.start
        rw [List.getElem?_append_left (by rw [List.length_map]; exact (List.getElem?_eq_some_iff.mp h1).1), List.getElem?_map, h1]
        rfl
    · rw [List.getElem?_append_right (by simpa using hi)] at e
      by_cases hj : i - (ws.map some).length < N.length - ws.length
      · rw [List.getElem?_replicate] at e
        rw [if_pos hj] at e
        cases e
      · rw [List.getElem?_replicate, if_neg hj] at e
        cases e
  · unfold wStart L2.start
    rw [List.length_append, List.length_append, List.length_map, List.length_map, List.length_replicate, List.length_replicate, rs.length]
end
end PV
set_option maxHeartbeats 1000000
/-! PV: operators, comparisons, subscripts, built-ins. -/
namespace PV
open PySem PySem.Spec PyProof.Rows L2

section
variable {X : Cx} {B : Kx} {K : PySem.W.Frag} {H : Hp} {M : Me}
/-- one more alternative -/
theorem OpW.or {f : Value → Value → Sem Value} {r r' r'' : R2W} (h : OpW X f r) (h' : OpW X f r') (i : ∀ x y M Q, r'' x y M Q → r x y M Q ∨ r' x y M Q) : OpW X f r'' :=
  OpR_imp (OpR.or h h') fun x y H Q ⟨wx, wy, M, Qw, rx, ry, m, q, k⟩ => (i wx wy M Qw q).elim (fun q => .inl ⟨wx, wy, M, Qw, rx, ry, m, q, k⟩) fun q => .inr ⟨wx, wy, M, Qw, rx, ry, m, q, k⟩
theorem OpW.imp {f : Value → Value → Sem Value} {r r'' : R2W} (h : OpW X f r) (i : ∀ x y M Q, r'' x y M Q → r x y M Q) : OpW X f r'' :=
  OpR_imp h fun x y H Q ⟨wx, wy, M, Qw, rx, ry, m, q, k⟩ => ⟨wx, wy, M, Qw, rx, ry, m, i wx wy M Qw q, k⟩
theorem CallW.or {f : Value} {r r' r'' : RLW} (h : CallW X f r) (h' : CallW X f r') (i : ∀ x M Q, r'' x M Q → r x M Q ∨ r' x M Q) : CallW X f r'' :=
  CallR_imp (CallR.or h h') fun xs H Q ⟨ws, M, Qw, rx, m, q, k⟩ => (i ws M Qw q).elim (fun q => .inl ⟨ws, M, Qw, rx, m, q, k⟩) fun q => .inr ⟨ws, M, Qw, rx, m, q, k⟩
/-! ### whole numbers -/
def r2I (C : Int → Int → Prop) (g : Int → Int → W) : R2W := fun x y M Q => match x, y with
  | .int i, .int j => C i j ∧ Q (g i j) M
  | _, _ => False
theorem op2I {f : Value → Value → Sem Value} {C : Int → Int → Prop} {g : Int → Int → Int} (h : OpR X f (rI C fun i j => .int (g i j))) : OpW X f (r2I C fun i j => .int (g i j)) :=
  OpR_imp h fun x y H Q ⟨wx, wy, M, Qw, rx, ry, m, q, k⟩ => by
    unfold r2I at q
    split at q
    · rename_i i j
      exact ⟨i, j, un_int rx, un_int ry, q.1, k _ M _ H q.2 (Go.refl _ _) rep_int m⟩
    · exact q.elim
theorem op2I0 {f : Value → Value → Sem Value} {g : Int → Int → Int} (h : OpR X f (rI0 fun i j => .int (g i j))) : OpW X f (r2I (fun _ _ => True) fun i j => .int (g i j)) :=
  OpR_imp h fun x y H Q ⟨wx, wy, M, Qw, rx, ry, m, q, k⟩ => by
    unfold r2I at q
    split at q
    · rename_i i j
      exact ⟨i, j, un_int rx, un_int ry, k _ M _ H q.2 (Go.refl _ _) rep_int m⟩
    · exact q.elim
theorem op2B0 {f : Value → Value → Sem Value} {g : Int → Int → Bool} (h : OpR X f (rI0 fun i j => .bl (g i j))) : OpW X f (r2I (fun _ _ => True) fun i j => .bl (g i j)) :=
  OpR_imp h fun x y H Q ⟨wx, wy, M, Qw, rx, ry, m, q, k⟩ => by
    unfold r2I at q
    split at q
    · rename_i i j
      exact ⟨i, j, un_int rx, un_int ry, k _ M _ H q.2 (Go.refl _ _) rep_bl m⟩
    · exact q.elim
/-- a product's, a quotient's bound -/
def MulOk (i j : Int) : Prop := CMul i j ∨ CMulW i j
theorem MulOk.left {i j : Int} (h1 : -(2 ^ 64) < i) (h2 : i < 2 ^ 64) : MulOk i j := .inl (.inl ⟨h1, h2⟩)
theorem MulOk.right {i j : Int} (h1 : -(2 ^ 64) < j) (h2 : j < 2 ^ 64) : MulOk i j := .inl (.inr ⟨h1, h2⟩)
def DivOk (_ j : Int) : Prop := 0 < j ∧ j < 2 ^ 64
theorem DivOk.w {i j : Int} (h : DivOk i j) : CDivW i j := by
  obtain ⟨h1, h2⟩ := h
  exact wide_div (b := 64) h1 (by omega) (by decide) (by decide)

/-! ### + -/
def rAdd2 : R2W := fun x y M Q => match x, y with
  | .int i, .int j => Q (.int (i + j)) M
  | .str a, .str b => a.length + b.length ≤ sizeLine ∧ Q (.str (a ++ b)) M
  | .tup xs, .tup ys => xs.length + ys.length ≤ sizeLine ∧ Q (.tup (xs ++ ys)) M
  | .ref a, .ref b => match M a, M b with
    | some (.lst xs), some (.lst ys) => xs.length + ys.length ≤ sizeLine ∧ ∀ p, M p = none → Q (.ref p) (put M p (.lst (xs ++ ys)))
    | _, _ => False
  | _, _ => False
theorem wop_addS : OpW X (binaryOp .Add) fun x y M Q => ∃ a b, x = .str a ∧ y = .str b ∧ a.length + b.length ≤ sizeLine ∧ Q (.str (a ++ b)) M :=
  OpR_imp op_add_str fun x y H Q ⟨wx, wy, M, Qw, rx, ry, m, ⟨a, b, ex, ey, h, q⟩, k⟩ => by
    subst ex ey
    exact ⟨a, b, un_str rx, un_str ry, h, k _ M _ H q (Go.refl _ _) rep_str m⟩
theorem wop_addT : OpW X (binaryOp .Add) fun x y M Q => ∃ xs ys, x = .tup xs ∧ y = .tup ys ∧ xs.length + ys.length ≤ sizeLine ∧ Q (.tup (xs ++ ys)) M :=
  OpR_imp op_catA fun x y H Q ⟨wx, wy, M, Qw, rx, ry, m, ⟨xs, ys, ex, ey, h, q⟩, k⟩ => by
    subst ex ey
    obtain ⟨a, vs, e1, s1, r1⟩ := rx.untup
    obtain ⟨b, us, e2, s2, r2⟩ := ry.untup
    refine ⟨a, b, vs, us, e1, e2, s1, s2, by rw [r1.length, r2.length]; exact h, fun e => ?_, fun n e => ?_, fun n1 n2 p hp => ?_⟩
    · subst e
      have e3 : xs = [] := List.eq_nil_of_length_eq_zero (by rw [← r1.length]; rfl)
      subst e3
      exact k _ M _ H q (Go.refl _ _) (Rep.tup s2 (by simpa using r2)) m
    · subst e
      have e3 : ys = [] := List.eq_nil_of_length_eq_zero (by rw [← r2.length]; rfl)
      subst e3
      exact k _ M _ H q (Go.refl _ _) (Rep.tup s1 (by simpa using r1)) m
    · have g := GoH.new (o := .tup (vs ++ us)) hp
      exact k _ M _ _ q (Go.same (sameNew hp)) (Rep.tup (SqT.of upd_same) ((r1.go g).append (r2.go g))) (m.new hp)
theorem wop_addL : OpW X (binaryOp .Add) fun x y M Q => ∃ a b xs ys, x = .ref a ∧ y = .ref b ∧ M a = some (.lst xs) ∧ M b = some (.lst ys) ∧ xs.length + ys.length ≤ sizeLine ∧ ∀ p, M p = none → Q (.ref p) (put M p (.lst (xs ++ ys))) :=
  OpR_imp op_cat fun x y H Q ⟨wx, wy, M, Qw, rx, ry, m, ⟨a, b, xs, ys, ex, ey, ha, hb, h, q⟩, k⟩ => by
    subst ex ey
    obtain ⟨vs, h1, r1⟩ := m a _ ha
    obtain ⟨us, h2, r2⟩ := m b _ hb
    refine ⟨a, b, vs, us, un_ref rx, un_ref ry, h1, h2, by rw [r1.length, r2.length]; exact h, fun p hp => ?_⟩
    have g := GoH.new (o := .lst (vs ++ us)) hp
    exact k _ _ _ _ (q p (m.free hp)) (Go.new hp) rep_ref (m.put g ⟨_, upd_same, (r1.go g).append (r2.go g)⟩)
theorem w_add : OpW X (binaryOp .Add) rAdd2 :=
  OpW.or (op2I0 op_add) (OpW.or wop_addS (OpW.or wop_addT wop_addL (r'' := fun x y M Q => (∃ xs ys, x = .tup xs ∧ y = .tup ys ∧ xs.length + ys.length ≤ sizeLine ∧ Q (.tup (xs ++ ys)) M) ∨ _) fun _ _ _ _ h => h) (r'' := fun x y M Q => _ ∨ _) fun _ _ _ _ h => h) fun x y M Q h => by
    unfold rAdd2 at h
    split at h
    · exact .inl ⟨trivial, h⟩
    · exact .inr (.inl ⟨_, _, rfl, rfl, h.1, h.2⟩)
    · exact .inr (.inr (.inl ⟨_, _, rfl, rfl, h.1, h.2⟩))
    · split at h
      · rename_i e1 e2
        exact .inr (.inr (.inr ⟨_, _, _, _, rfl, rfl, e1, e2, h.1, h.2⟩))
      · exact h.elim
    · exact h.elim
/-! ### -, *, //, %, **, << -/
def rSub2 : R2W := fun x y M Q => match x, y with
  | .int i, .int j => Q (.int (i - j)) M
  | _, _ => False
theorem w_sub : OpW X (binaryOp .Sub) rSub2 := (op2I0 op_sub).imp fun x y M Q h => by
  unfold rSub2 at h
  split at h
  · exact ⟨trivial, h⟩
  · exact h.elim
def rMul2 : R2W := fun x y M Q => match x, y with
  | .int i, .int j => MulOk i j ∧ Q (.int (i * j)) M
  | .tup xs, .int k => (k ≤ 1000 ∧ xs.length ≤ 1000 ∧ 2 ≤ k ∧ xs ≠ []) ∧ Q (.tup (List.replicate k.toNat xs).flatten) M
  | .ref a, .int k => match M a with
    | some (.lst xs) => (-(2 ^ 63) ≤ k ∧ k < 2 ^ 63 ∧ xs.length * k.toNat ≤ sizeLine) ∧ ∀ p, M p = none → Q (.ref p) (put M p (.lst (List.replicate k.toNat xs).flatten))
    | _ => False
  | _, _ => False
theorem wop_mulI : OpW X (binaryOp .Mult) (r2I MulOk fun i j => .int (i * j)) := OpW.or (op2I op_mul) (op2I op_mulW) fun x y M Q h => by
  unfold r2I at h
  split at h
  · rcases h.1 with c | c
    · exact .inl ⟨c, h.2⟩
    · exact .inr ⟨c, h.2⟩
  · exact h.elim
theorem wop_mulT : OpW X (binaryOp .Mult) fun x y M Q => ∃ xs k, x = .tup xs ∧ y = .int k ∧ (k ≤ 1000 ∧ xs.length ≤ 1000 ∧ 2 ≤ k ∧ xs ≠ []) ∧ Q (.tup (List.replicate k.toNat xs).flatten) M :=
  OpR_imp op_repT fun x y H Q ⟨wx, wy, M, Qw, rx, ry, m, ⟨xs, n, ex, ey, ⟨h1, h2, h3, h4⟩, q⟩, k⟩ => by
    subst ex ey
    obtain ⟨a, vs, e1, s1, r1⟩ := rx.untup
    refine ⟨a, n, vs, e1, un_int ry, s1, fun e => h4 ?_, h3, h1, by rw [r1.length]; exact h2, fun p hp => ?_⟩
    · subst e
      exact List.eq_nil_of_length_eq_zero (by rw [← r1.length]; rfl)
    · exact k _ M _ _ q (Go.same (sameNew hp)) (Rep.tup (SqT.of upd_same) ((r1.go (GoH.new hp)).rep _)) (m.new hp)
theorem wop_mulL : OpW X (binaryOp .Mult) fun x y M Q => ∃ a xs k, x = .ref a ∧ y = .int k ∧ M a = some (.lst xs) ∧ (-(2 ^ 63) ≤ k ∧ k < 2 ^ 63 ∧ xs.length * k.toNat ≤ sizeLine) ∧ ∀ p, M p = none → Q (.ref p) (put M p (.lst (List.replicate k.toNat xs).flatten)) :=
  OpR_imp op_rep fun x y H Q ⟨wx, wy, M, Qw, rx, ry, m, ⟨a, xs, n, ex, ey, ha, ⟨h1, h2, h3⟩, q⟩, k⟩ => by
    subst ex ey
    obtain ⟨vs, e1, r1⟩ := m a _ ha
    refine ⟨a, n, vs, un_ref rx, un_int ry, e1, h1, h2, by rw [r1.length]; exact h3, fun p hp => ?_⟩
    have g := GoH.new (o := .lst (List.replicate n.toNat vs).flatten) hp
    exact k _ _ _ _ (q p (m.free hp)) (Go.new hp) rep_ref (m.put g ⟨_, upd_same, (r1.go g).rep _⟩)
theorem w_mul : OpW X (binaryOp .Mult) rMul2 :=
  OpW.or wop_mulI (OpW.or wop_mulT wop_mulL (r'' := fun x y M Q => _ ∨ _) fun _ _ _ _ h => h) fun x y M Q h => by
    unfold rMul2 at h
    split at h
    · exact .inl h
    · exact .inr (.inl ⟨_, _, rfl, rfl, h.1, h.2⟩)
    · split at h
      · rename_i e1
        exact .inr (.inr ⟨_, _, _, rfl, rfl, e1, h.1, h.2⟩)
      · exact h.elim
    · exact h.elim
def rDiv2 : R2W := fun x y M Q => match x, y with
  | .int i, .int j => DivOk i j ∧ Q (.int (i / j)) M
  | _, _ => False
theorem w_fdiv : OpW X (binaryOp .FloorDiv) rDiv2 := (op2I op_fdivW).imp fun x y M Q h => by
  unfold rDiv2 at h
  split at h
  · exact ⟨h.1.w, h.2⟩
  · exact h.elim
def rMod2 : R2W := fun x y M Q => match x, y with
  | .int i, .int j => 0 < j ∧ Q (.int (i % j)) M
  | _, _ => False
theorem w_mod : OpW X (binaryOp .Mod) rMod2 := (op2I op_mod).imp fun x y M Q h => by
  unfold rMod2 at h
  split at h
  · exact h
  · exact h.elim
def rPow2 : R2W := fun x y M Q => match x, y with
  | .int i, .int j => CPow i j ∧ Q (.int (i ^ j.toNat)) M
  | _, _ => False
theorem w_pow : OpW X (binaryOp .Pow) rPow2 := (op2I op_pow).imp fun x y M Q h => by
  unfold rPow2 at h
  split at h
  · exact h
  · exact h.elim
def rShl2 : R2W := fun x y M Q => match x, y with
  | .int i, .int j => CPow i j ∧ Q (.int (i * 2 ^ j.toNat)) M
  | _, _ => False
theorem w_shl : OpW X (binaryOp .LShift) rShl2 := (op2I op_shl).imp fun x y M Q h => by
  unfold rShl2 at h
  split at h
  · exact h
  · exact h.elim
def rShr2 : R2W := fun x y M Q => match x, y with
  | .int i, .int j => 0 ≤ j ∧ Q (.int (i / 2 ^ j.toNat)) M
  | _, _ => False
theorem w_shr : OpW X (binaryOp .RShift) rShr2 := (op2I op_shr).imp fun x y M Q h => by
  unfold rShr2 at h
  split at h
  · exact h
  · exact h.elim
def rNeg1 : R1W := fun x M Q => match x with
  | .int i => Q (.int (-i)) M
  | _ => False
theorem w_neg : UnW X (unaryOp .USub) rNeg1 := UnR_imp un_neg fun x H Q ⟨wx, M, Qw, rx, m, q, k⟩ => by
  unfold rNeg1 at q
  split at q
  · rename_i i
    exact ⟨i, un_int rx, k _ M _ H q (Go.refl _ _) rep_int m⟩
  · exact q.elim
def rIAdd2 : R2W := fun x y M Q => match x, y with
  | .int i, .int j => Q (.int (i + j)) M
  | .str a, .str b => a.length + b.length ≤ sizeLine ∧ Q (.str (a ++ b)) M
  | _, _ => False
theorem w_iadd : OpW X (inplaceOp .Add) rIAdd2 := OpW.or (op2I0 iop_add) (r' := fun x y M Q => ∃ a b, x = .str a ∧ y = .str b ∧ a.length + b.length ≤ sizeLine ∧ Q (.str (a ++ b)) M)
  (OpR_imp iop_add_str fun x y H Q ⟨wx, wy, M, Qw, rx, ry, m, ⟨a, b, ex, ey, h, q⟩, k⟩ => by
    subst ex ey
    exact ⟨a, b, un_str rx, un_str ry, h, k _ M _ H q (Go.refl _ _) rep_str m⟩) fun x y M Q h => by
  unfold rIAdd2 at h
  split at h
  · exact .inl ⟨trivial, h⟩
  · exact .inr ⟨_, _, rfl, rfl, h.1, h.2⟩
  · exact h.elim
theorem w_isub : OpW X (inplaceOp .Sub) rSub2 := (op2I0 iop_sub).imp fun x y M Q h => by
  unfold rSub2 at h
  split at h
  · exact ⟨trivial, h⟩
  · exact h.elim
theorem w_imul : OpW X (inplaceOp .Mult) (r2I CMul fun i j => .int (i * j)) := op2I iop_mul

/-! ### data -/
mutual
/-- a value without addresses, as data -/
def pd : W → PyData
  | .non => .none
  | .bl b => .bool b
  | .int i => .int i
  | .str x => .str x
  | .ref _ => .none
  | .cl _ => .none
  | .tup ws => .tuple (pds ws)
def pds : List W → List PyData
  | [] => []
  | w :: ws => pd w :: pds ws
end
mutual
def nr : W → Bool
  | .ref _ => false
  | .cl _ => false
  | .str x => PyData.strOk x
  | .tup ws => nrs ws
  | _ => true
def nrs : List W → Bool
  | [] => true
  | w :: ws => nr w && nrs ws
end
/-- values as data, with the lists that are live -/
def Dw (M : Me) : PyData → W → Prop
  | .none, w => w = .non
  | .bool b, w => w = .bl b
  | .int i, w => w = .int i
  | .str x, w => w = .str x
  | .tuple ds, w => ∃ ws, w = .tup ws ∧ Dws ds ws
  | .list ds, w => ∃ a ws, w = .ref a ∧ rdl (M a) = some ws ∧ Dws ds ws
  | .dict _, _ => False
where Dws : List PyData → List W → Prop
  | [], ws => ws = []
  | d :: ds, ws => ∃ w r, ws = w :: r ∧ Dw M d w ∧ Dws ds r
mutual
theorem pd_dw {M : Me} : ∀ w : W, nr w = true → Dw M (pd w) w
  | .non, _ => by unfold pd Dw; rfl
  | .bl _, _ => by unfold pd Dw; rfl
  | .int _, _ => by unfold pd Dw; rfl
  | .str _, _ => by unfold pd Dw; rfl
  | .ref _, h => by unfold nr at h; cases h
  | .cl _, h => by unfold nr at h; cases h
  | .tup ws, h => by unfold pd Dw; exact ⟨ws, rfl, pds_dw ws (by unfold nr at h; exact h)⟩
theorem pds_dw {M : Me} : ∀ ws : List W, nrs ws = true → Dw.Dws M (pds ws) ws
  | [], _ => by unfold pds Dw.Dws; rfl
  | w :: ws, h => by
    unfold nrs at h
    rw [Bool.and_eq_true] at h
    unfold pds Dw.Dws
    exact ⟨w, ws, rfl, pd_dw w h.1, pds_dw ws h.2⟩
end
mutual
theorem dw_dp {M : Me} (m : Mo B H M) : ∀ (d : PyData) (w : W) (v : V), Dw M d w → Rep B.K H w v → Dp B.K H v d
  | .none, w, v, h, r => by unfold Dw at h; subst h; rw [un_non r]; exact .non
  | .bool b, w, v, h, r => by unfold Dw at h; subst h; rw [un_bl r]; exact .bl b
  | .int i, w, v, h, r => by unfold Dw at h; subst h; rw [un_int r]; exact .int i
  | .str x, w, v, h, r => by unfold Dw at h; subst h; rw [un_str r]; exact .str x
  | .tuple ds, w, v, h, r => by
    unfold Dw at h
    obtain ⟨ws, e, hs⟩ := h
    subst e
    obtain ⟨a, vs, e, s, rs⟩ := r.untup
    subst e
    exact .tup s (dws_dp m ds ws vs hs rs)
  | .list ds, w, v, h, r => by
    unfold Dw at h
    obtain ⟨a, ws, e, hr, hs⟩ := h
    subst e
    rw [un_ref r]
    obtain ⟨vs, s, rs⟩ := rdl_sq m hr
    exact .lst s (dws_dp m ds ws vs hs rs)
  | .dict _, w, v, h, r => by unfold Dw at h; exact h.elim
theorem dws_dp {M : Me} (m : Mo B H M) : ∀ (ds : List PyData) (ws : List W) (vs : List V), Dw.Dws M ds ws → Reps B.K H ws vs → DpAll B.K H vs ds
  | [], ws, vs, h, r => by
    unfold Dw.Dws at h
    subst h
    rw [r.unnil]
    exact .nil
  | d :: ds, ws, vs, h, r => by
    unfold Dw.Dws at h
    obtain ⟨w, wr, e, h1, h2⟩ := h
    subst e
    obtain ⟨v, vr, e, r1, r2⟩ := r.uncons
    subst e
    exact .cons (dw_dp m d w v h1 r1) (dws_dp m ds wr vr h2 r2)
end
mutual
theorem nr_lay : ∀ w : W, nr w = true → (pd w).canLay0 = true
  | .non, _ => by simp [pd, PyData.canLay0]
  | .bl _, _ => by simp [pd, PyData.canLay0]
  | .int _, _ => by simp [pd, PyData.canLay0]
  | .str _, h => by
    unfold nr at h
    simpa [pd, PyData.canLay0] using h
  | .ref _, _ => by simp [pd, PyData.canLay0]
  | .cl _, _ => by simp [pd, PyData.canLay0]
  | .tup ws, h => by
    unfold nr at h
    unfold pd
    simp only [PyData.canLay0]
    exact nrs_lay ws h
theorem nrs_lay : ∀ ws : List W, nrs ws = true → PyData.canLayAll0 (pds ws) = true
  | [], _ => by simp [pds, PyData.canLayAll0]
  | w :: ws, h => by
    unfold nrs at h
    rw [Bool.and_eq_true] at h
    unfold pds
    simp only [PyData.canLayAll0, nr_lay w h.1, nrs_lay ws h.2, Bool.and_self]
end
mutual
def dp : W → Nat
  | .tup ws => dps ws + 1
  | _ => 0
def dps : List W → Nat
  | [] => 0
  | w :: ws => max (dp w) (dps ws)
end
mutual
theorem dp_depth : ∀ w : W, (pd w).depth = dp w
  | .non => by simp [pd, PyData.depth, dp]
  | .bl _ => by simp [pd, PyData.depth, dp]
  | .int _ => by simp [pd, PyData.depth, dp]
  | .str _ => by simp [pd, PyData.depth, dp]
  | .ref _ => by simp [pd, PyData.depth, dp]
  | .cl _ => by simp [pd, PyData.depth, dp]
  | .tup ws => by
    unfold pd dp
    simp only [PyData.depth, dps_depth ws]
    try omega
theorem dps_depth : ∀ ws : List W, PyData.depthAll (pds ws) = dps ws
  | [] => by simp [pds, PyData.depthAll, dps]
  | w :: ws => by
    unfold pds dps
    simp only [PyData.depthAll, dp_depth w, dps_depth ws]
end
/-- plain data: no address, not too deep -/
def flt (w : W) : Bool := nr w && decide (dp w ≤ 60)
def flts (ws : List W) : Bool := nrs ws && decide (dps ws ≤ 60)
theorem flt_shaped {w : W} (h : flt w = true) : SeqAt.shaped (pd w) = true := by
  unfold flt at h
  rw [Bool.and_eq_true, decide_eq_true_eq] at h
  show ((pd w).canLay0 && decide ((pd w).depth ≤ 64)) = true
  rw [nr_lay w h.1, dp_depth w, decide_eq_true (by omega)]
  rfl
theorem flts_shaped {ws : List W} (h : flts ws = true) : SeqAt.shaped (.list (pds ws)) = true := by
  unfold flts at h
  rw [Bool.and_eq_true, decide_eq_true_eq] at h
  show (PyData.canLay0 (.list (pds ws)) && decide (PyData.depth (.list (pds ws)) ≤ 64)) = true
  simp only [PyData.canLay0, PyData.depth, nrs_lay ws h.1, dps_depth ws, Bool.true_and, decide_eq_true_eq]
  omega
/-- == of plain data -/
def weq (x y : W) : Bool := PyData.eqv (pd x) (pd y)
def weqs (xs ys : List W) : Bool := PyData.eqvAll (pds xs) (pds ys)
/-- == -/
def rEqS (M : Me) (x y : W) (Q : Bool → Prop) : Prop := match x, y with
  | .int i, .int j => Q (decide (i = j))
  | .bl a, .bl b => Q (decide (a = b))
  | .str a, .str b => Q (decide (a = b))
  | .ref a, .ref b => match rdl (M a), rdl (M b) with
    | some xs, some [] => Q xs.isEmpty
    | some xs, some ys => (flts xs && flts ys) = true ∧ Q (weqs xs ys)
    | _, _ => False
  | x, y => (flt x && flt y) = true ∧ Q (weq x y)
def rEq2 : R2W := fun x y M Q => rEqS M x y fun b => Q (.bl b) M
def rNe2 : R2W := fun x y M Q => rEqS M x y fun b => Q (.bl (!b)) M
/-- == told by any data -/
def rEqD2 : R2W := fun x y M Q => ∃ d e, Dw M d x ∧ Dw M e y ∧ SeqAt.shaped d = true ∧ SeqAt.shaped e = true ∧ Q (.bl (PyData.eqv d e)) M
def rNeD2 : R2W := fun x y M Q => ∃ d e, Dw M d x ∧ Dw M e y ∧ SeqAt.shaped d = true ∧ SeqAt.shaped e = true ∧ Q (.bl (!PyData.eqv d e)) M
theorem w_eqD (hu : X.A.units + 64 < cLine) : OpW X (compareOp .Eq) rEqD2 := OpR_imp (op_eqD hu) fun x y H Q ⟨wx, wy, M, Qw, rx, ry, m, ⟨d, e, h1, h2, s1, s2, q⟩, k⟩ =>
  ⟨d, e, dw_dp m d wx x h1 rx, dw_dp m e wy y h2 ry, s1, s2, k _ M _ H q (Go.refl _ _) rep_bl m⟩
theorem w_neD (hu : X.A.units + 64 < cLine) : OpW X (compareOp .NotEq) rNeD2 := OpR_imp (op_neD hu) fun x y H Q ⟨wx, wy, M, Qw, rx, ry, m, ⟨d, e, h1, h2, s1, s2, q⟩, k⟩ =>
  ⟨d, e, dw_dp m d wx x h1 rx, dw_dp m e wy y h2 ry, s1, s2, k _ M _ H q (Go.refl _ _) rep_bl m⟩
theorem eqS_D {M : Me} {x y : W} {Q : Bool → Prop} (h : rEqS M x y Q) : (∃ a b, x = .str a ∧ y = .str b ∧ Q (decide (a = b))) ∨ (∃ a xs, x = .ref a ∧ rdl (M a) = some xs ∧ ∃ b, y = .ref b ∧ rdl (M b) = some [] ∧ Q xs.isEmpty) ∨
    ∃ d e, Dw M d x ∧ Dw M e y ∧ SeqAt.shaped d = true ∧ SeqAt.shaped e = true ∧ Q (PyData.eqv d e) := by
  have sc : ∀ {d e : PyData} {q : Bool}, Dw M d x → Dw M e y → SeqAt.shaped d = true → SeqAt.shaped e = true → PyData.eqv d e = q → Q q → ∃ d e, Dw M d x ∧ Dw M e y ∧ SeqAt.shaped d = true ∧ SeqAt.shaped e = true ∧ Q (PyData.eqv d e) :=
    fun {d e q} h1 h2 h3 h4 h5 h6 => ⟨d, e, h1, h2, h3, h4, by rw [h5]; exact h6⟩
  unfold rEqS at h
  split at h
  · rename_i i j
    exact .inr (.inr (sc (d := .int i) (e := .int j) (by unfold Dw; rfl) (by unfold Dw; rfl) rfl rfl (by simp [PyData.eqv, Bool.beq_eq_decide_eq]) h))
  · rename_i i j
    exact .inr (.inr (sc (d := .bool i) (e := .bool j) (by unfold Dw; rfl) (by unfold Dw; rfl) rfl rfl (by simp [PyData.eqv, Bool.beq_eq_decide_eq]) h))
  · exact .inl ⟨_, _, rfl, rfl, h⟩
  · rename_i a b
    split at h
    · rename_i xs e1 e2
      exact .inr (.inl ⟨a, xs, rfl, e1, b, rfl, e2, h⟩)
    · rename_i xs ys _ e1 e2
      obtain ⟨hf, h⟩ := h
      rw [Bool.and_eq_true] at hf
      have n1 : nrs xs = true := by have := hf.1; unfold flts at this; rw [Bool.and_eq_true] at this; exact this.1
      have n2 : nrs ys = true := by have := hf.2; unfold flts at this; rw [Bool.and_eq_true] at this; exact this.1
      exact .inr (.inr (sc (d := .list (pds xs)) (e := .list (pds ys)) (by unfold Dw; exact ⟨a, xs, rfl, e1, pds_dw xs n1⟩) (by unfold Dw; exact ⟨b, ys, rfl, e2, pds_dw ys n2⟩) (flts_shaped hf.1) (flts_shaped hf.2) (by simp only [PyData.eqv]; rfl) h))
    · exact h.elim
  · obtain ⟨hf, h⟩ := h
    rw [Bool.and_eq_true] at hf
    have n1 : nr x = true := by have := hf.1; unfold flt at this; rw [Bool.and_eq_true] at this; exact this.1
    have n2 : nr y = true := by have := hf.2; unfold flt at this; rw [Bool.and_eq_true] at this; exact this.1
    exact .inr (.inr (sc (pd_dw x n1) (pd_dw y n2) (flt_shaped hf.1) (flt_shaped hf.2) rfl h))
/-- a list against the empty one -/
theorem empty_cmp {op : CmpOp} {f : Bool → Bool} (hu : X.A.units < cLine)
    (rE : ∀ {E : Value → Shared → Prop} {s : Shared} {l b : Addr} {i1 i2 : Array Value} {e : Nat → Bool} {Q : Value → Shared → Prop}, s.heap.IsList l i1 → s.heap.IsList b i2 → i1.size = i2.size → (∀ j (h1 : j < i1.size) (h2 : j < i2.size), SeqAt.EqAt X.A.in1 s i1[j] i2[j] (e j)) → Q (.bool (f ((List.range i1.size).all e))) s → wpAny (model X.prog X.w) X.A (compareOp op (.ref l) (.ref b)) Q E s)
    (rL : ∀ {E : Value → Shared → Prop} {s : Shared} {l b : Addr} {i1 i2 : Array Value} {Q : Value → Shared → Prop}, s.heap.IsList l i1 → s.heap.IsList b i2 → (i1.size != i2.size) = true → Q (.bool (f false)) s → wpAny (model X.prog X.w) X.A (compareOp op (.ref l) (.ref b)) Q E s) :
    OpW X (compareOp op) fun x y M Q => ∃ a xs, x = .ref a ∧ rdl (M a) = some xs ∧ ∃ b, y = .ref b ∧ rdl (M b) = some [] ∧ Q (.bl (f xs.isEmpty)) M := by
  intro pins s σ H x y v u Q I rx ry ⟨wx, wy, M, Qw, r1, r2, m, ⟨a, xs, e1, h1, b, e2, h2, q⟩, k⟩
  subst e1 e2
  have e3 := un_ref r1
  have e4 := un_ref r2
  subst e3 e4
  cases rx
  cases ry
  obtain ⟨vs, s1, rs1⟩ := rdl_sq m h1
  obtain ⟨us, s2, rs2⟩ := rdl_sq m h2
  obtain ⟨i1, v1, p1, _⟩ := I.list s1
  obtain ⟨i2, v2, p2, _⟩ := I.list s2
  have l1 := v1.length
  have l2 := v2.length
  rw [rs1.length] at l1
  rw [rs2.length] at l2
  have fin : ∀ c : Bool, c = xs.isEmpty → EP X pins σ Q (.bool (f c)) s := fun c hc => ⟨.bl (f c), H, I, rfl, k _ M _ H (by rw [hc]; exact q) (Go.refl _ _) rep_bl m⟩
  cases xs with
  | nil =>
    refine rE (e := fun _ => true) p1.isList p2.isList (by simpa using (l1.symm.trans l2)) (fun j h3 h4 => ?_) (fin _ ?_)
    · simp at h3 l1
      omega
    · simp at l1 ⊢
  | cons w ws =>
    refine rL p1.isList p2.isList ?_ (fin false rfl)
    rw [bne_iff_ne]
    simp at l1 l2 ⊢
    omega
theorem w_eqT : OpW X (compareOp .Eq) fun x y M Q => ∃ a b, x = .str a ∧ y = .str b ∧ Q (.bl (decide (a = b))) M :=
  OpR_imp op_eq fun x y H Q ⟨wx, wy, M, Qw, rx, ry, m, ⟨a, b, ex, ey, q⟩, k⟩ => by
    subst ex ey
    have e1 := un_str rx
    have e2 := un_str ry
    subst e1 e2
    have e : decide (V.str a = V.str b) = decide (a = b) := by
      by_cases z : a = b
      · subst z; simp
      · rw [decide_eq_false z, decide_eq_false (fun q => z (by injection q))]
    refine ⟨rfl, ?_⟩
    rw [e]
    exact k _ M _ H q (Go.refl _ _) rep_bl m
theorem w_neT : OpW X (compareOp .NotEq) fun x y M Q => ∃ a b, x = .str a ∧ y = .str b ∧ Q (.bl (!decide (a = b))) M :=
  OpR_imp op_ne fun x y H Q ⟨wx, wy, M, Qw, rx, ry, m, ⟨a, b, ex, ey, q⟩, k⟩ => by
    subst ex ey
    have e1 := un_str rx
    have e2 := un_str ry
    subst e1 e2
    have e : decide (V.str a = V.str b) = decide (a = b) := by
      by_cases z : a = b
      · subst z; simp
      · rw [decide_eq_false z, decide_eq_false (fun q => z (by injection q))]
    refine ⟨rfl, ?_⟩
    rw [e]
    exact k _ M _ H q (Go.refl _ _) rep_bl m
theorem w_eq (hu : X.A.units + 64 < cLine) : OpW X (compareOp .Eq) rEq2 :=
  OpW.or w_eqT (OpW.or (empty_cmp (f := fun c => c) (by omega) (fun h1 h2 h3 h4 h5 => SeqAt.eq_listAt h1 h2 h3 (by omega) h4 h5) (fun h1 h2 h3 h4 => SeqAt.eq_list_lengthsAt h1 h2 h3 (by omega) h4)) (w_eqD hu) (r'' := fun x y M Q => _ ∨ _) fun _ _ _ _ h => h) fun x y M Q h => eqS_D h
theorem w_ne (hu : X.A.units + 64 < cLine) : OpW X (compareOp .NotEq) rNe2 :=
  OpW.or w_neT (OpW.or (empty_cmp (f := fun c => !c) (by omega) (fun h1 h2 h3 h4 h5 => SeqAt.RcNeAt.lists h1 h2 h3 (by omega) h4 _ _ _ _ h5) (fun h1 h2 h3 h4 => SeqAt.RcNeAt.lists_lengths h1 h2 h3 (by omega) _ _ _ _ h4)) (w_neD hu) (r'' := fun x y M Q => _ ∨ _) fun _ _ _ _ h => h) fun x y M Q h => eqS_D h
end
end PV
set_option maxHeartbeats 1000000
/-! PV: order, identity, membership, subscripts, slices, stores. -/
namespace PV
open PySem PySem.Spec PyProof.Rows L2

section
variable {X : Cx} {B : Kx} {K : PySem.W.Frag} {H : Hp} {M : Me}
/-! ### order of whole numbers -/
def rI2 (g : Int → Int → Bool) : R2W := fun x y M Q => match x, y with
  | .int i, .int j => Q (.bl (g i j)) M
  | _, _ => False
theorem opI2 {f : Value → Value → Sem Value} {g : Int → Int → Bool} (h : OpR X f (rI0 fun i j => .bl (g i j))) : OpW X f (rI2 g) := (op2B0 h).imp fun x y M Q h => by
  unfold rI2 at h
  split at h
  · exact ⟨trivial, h⟩
  · exact h.elim
def rLt2 : R2W := rI2 fun i j => decide (i < j)
def rLe2 : R2W := rI2 fun i j => decide (i ≤ j)
def rGt2 : R2W := rI2 fun i j => decide (j < i)
def rGe2 : R2W := rI2 fun i j => decide (j ≤ i)
theorem w_lt : OpW X (compareOp .Lt) rLt2 := opI2 op_lt
theorem w_le : OpW X (compareOp .LtE) rLe2 := opI2 op_le
theorem w_gt : OpW X (compareOp .Gt) rGt2 := opI2 op_gt
theorem w_ge : OpW X (compareOp .GtE) rGe2 := opI2 op_ge
/-! ### is -/
def isN : W → Bool
  | .non => true
  | _ => false
theorem isN_V {w : W} {v : V} (r : Rep K H w v) : decide (v = .non) = isN w := by
  cases w with
  | non => rw [un_non r]; rfl
  | bl b => rw [un_bl r]; rfl
  | int i => rw [un_int r]; rfl
  | str x => rw [un_str r]; rfl
  | ref a => rw [un_ref r]; rfl
  | cl ws =>
    obtain ⟨a, vs, e, _, _⟩ := r.uncl
    rw [e]; rfl
  | tup ws =>
    obtain ⟨a, vs, e, _, _⟩ := r.untup
    rw [e]; rfl
def rIsS (x y : W) (Q : Bool → Prop) : Prop := match y, x with
  | .non, x => Q (isN x)
  | .bl b, .bl a => Q (decide (a = b))
  | _, _ => False
def rIs2 : R2W := fun x y M Q => rIsS x y fun b => Q (.bl b) M
def rIsNot2 : R2W := fun x y M Q => rIsS x y fun b => Q (.bl (!b)) M
theorem w_is : OpW X (compareOp .Is) rIs2 := OpR_imp (OpR.or op_isN op_isBl) fun x y H Q ⟨wx, wy, M, Qw, rx, ry, m, q, k⟩ => by
  unfold rIs2 rIsS at q
  split at q
  · refine .inl ⟨un_non ry, ?_⟩
    rw [isN_V rx]
    exact k _ M _ H q (Go.refl _ _) rep_bl m
  · exact .inr ⟨_, _, un_bl rx, un_bl ry, k _ M _ H q (Go.refl _ _) rep_bl m⟩
  · exact q.elim
theorem w_isnot : OpW X (compareOp .IsNot) rIsNot2 := OpR_imp (OpR.or op_notN op_notBl) fun x y H Q ⟨wx, wy, M, Qw, rx, ry, m, q, k⟩ => by
  unfold rIsNot2 rIsS at q
  split at q
  · refine .inl ⟨un_non ry, ?_⟩
    rw [isN_V rx]
    exact k _ M _ H q (Go.refl _ _) rep_bl m
  · exact .inr ⟨_, _, un_bl rx, un_bl ry, k _ M _ H q (Go.refl _ _) rep_bl m⟩
  · exact q.elim
/-! ### look-ups -/
section
variable {κ β : Type} [DecidableEq κ]
def look (kvs : List (κ × β)) (k : κ) : Option β := (kvs.find? fun kv => decide (kv.1 = k)).map (·.2)
def place (kvs : List (κ × β)) (k : κ) (v : β) : List (κ × β) := if (look kvs k).isSome = true then kvs.map (fun kv => if kv.1 = k then (kv.1, v) else kv) else kvs ++ [(k, v)]
theorem look_nil {k : κ} : look ([] : List (κ × β)) k = none := rfl
theorem look_cons {p : κ × β} {r : List (κ × β)} {k : κ} : look (p :: r) k = if p.1 = k then some p.2 else look r k := by
  unfold look
  rw [List.find?_cons]
  by_cases h : p.1 = k
  · simp [h]
  · simp [h]
theorem look_any (k : κ) : ∀ kvs : List (κ × β), (kvs.any fun kv => decide (kv.1 = k)) = (look kvs k).isSome
  | [] => rfl
  | p :: r => by
    rw [List.any_cons, look_cons, look_any k r]
    by_cases h : p.1 = k
    · simp [h]
    · simp [h]
end
theorem look_rel {κ : Type} [DecidableEq κ] {kvs : List (κ × W)} {xs : List (κ × V)} (h : Paired (fun p x => p.1 = x.1 ∧ Rep K H p.2 x.2) kvs xs) (k : κ) :
    (look kvs k = none ∧ valV xs k = none) ∨ ∃ w v, look kvs k = some w ∧ valV xs k = some v ∧ Rep K H w v := by
  induction h with
  | nil => exact .inl ⟨rfl, rfl⟩
  | @cons p x ps xs r _ ih =>
    obtain ⟨e, rp⟩ := r
    by_cases z : p.1 = k
    · refine .inr ⟨p.2, x.2, ?_, ?_, rp⟩
      · rw [look_cons, if_pos z]
      · rw [valV_pos (by rw [← e]; exact z)]
    · rw [look_cons, if_neg z, valV_neg (by rw [← e]; exact z)]
      exact ih
theorem place_rel {κ : Type} [DecidableEq κ] {kvs : List (κ × W)} {xs : List (κ × V)} (h : Paired (fun p x => p.1 = x.1 ∧ Rep K H p.2 x.2) kvs xs) (k : κ) {w : W} {v : V} (r : Rep K H w v) :
    Paired (fun p x => p.1 = x.1 ∧ Rep K H p.2 x.2) (place kvs k w) (putK xs k v) := by
  unfold place putK
  have e : (look kvs k).isSome = xs.any fun kv => decide (kv.1 = k) := by
    rw [← look_any]
    clear r
    induction h with
    | nil => rfl
    | cons q _ ih => rw [List.any_cons, List.any_cons, ih, q.1]
  rw [e]
  split
  · clear e
    rename_i hh
    clear hh
    induction h with
    | nil => exact .nil
    | @cons p x ps xs q _ ih =>
      rw [List.map_cons, List.map_cons]
      refine .cons ?_ ih
      rw [q.1]
      split
      · exact ⟨rfl, r⟩
      · exact q
  · clear e
    rename_i hh
    clear hh
    induction h with
    | nil => exact .cons ⟨rfl, r⟩ .nil
    | cons q _ ih => exact .cons q ih
/-- a key of a dict of whole numbers and texts -/
def wkey : W → Option Key
  | .int i => some (.inl i)
  | .str x => some (.inr x)
  | _ => none
theorem wkey_V {w : W} {v : V} {k : Key} (h : wkey w = some k) (r : Rep K H w v) : v = kV k := by
  cases w with
  | int i => cases h; exact un_int r
  | str x => cases h; exact un_str r
  | _ => cases h
def rdK : Option Ob → Option (List (Key × W))
  | some (.dK kvs) => some kvs
  | some (.lkK kvs) => some kvs
  | _ => none
theorem rdK_rd {a : Addr} {kvs : List (Key × W)} (m : Mo B H M) (h : rdK (M a) = some kvs) : ∃ xs, Rd H a (.dK xs) ∧ Paired (KRow B H) kvs xs := by
  cases e : M a with
  | none => rw [e] at h; cases h
  | some o =>
    rw [e] at h
    cases o with
    | dK ks =>
      have e2 : ks = kvs := by simpa [rdK] using h
      subst e2
      obtain ⟨xs, h1, h2⟩ := m a _ e
      exact ⟨xs, .inl h1, h2⟩
    | lkK ks =>
      have e2 : ks = kvs := by simpa [rdK] using h
      subst e2
      obtain ⟨o, xs, h1, h2⟩ := m a _ e
      exact ⟨xs, .inr ⟨o, h1⟩, h2⟩
    | _ => simp [rdK] at h
/-! ### in -/
def flatW : W → Bool
  | .non => true
  | .bl _ => true
  | .int _ => true
  | .str _ => true
  | _ => false
def fv : W → V
  | .non => .non
  | .bl b => .bl b
  | .int i => .int i
  | .str x => .str x
  | .ref a => .ref a
  | .tup _ => .non
  | .cl _ => .non
def eqF : W → W → Bool
  | .non, .non => true
  | .bl a, .bl b => a == b
  | .bl a, .int b => (if a then 1 else 0) == b
  | .int a, .bl b => a == (if b then 1 else 0)
  | .int a, .int b => decide (a = b)
  | .str a, .str b => decide (a = b)
  | _, _ => false
theorem eqF_V (x y : W) (hx : flatW x = true) (hy : flatW y = true) : eqV (fv x) (fv y) = eqF x y := by
  cases x <;> cases y <;> first | rfl | (simp [flatW] at hx hy; done) | (simp [fv, eqV, eqF, Bool.beq_eq_decide_eq]; done) | skip
theorem fv_rep {w : W} {v : V} (h : flatW w = true) (r : Rep K H w v) : v = fv w ∧ flatV v = true := by
  cases w with
  | non => exact ⟨un_non r, by rw [un_non r]; rfl⟩
  | bl b => exact ⟨un_bl r, by rw [un_bl r]; rfl⟩
  | int i => exact ⟨un_int r, by rw [un_int r]; rfl⟩
  | str x => exact ⟨un_str r, by rw [un_str r]; rfl⟩
  | _ => cases h
theorem fvs_rep : ∀ {ws : List W} {vs : List V}, ws.all flatW = true → Reps K H ws vs → vs = ws.map fv ∧ vs.all flatV = true
  | [], _, _, r => by rw [r.unnil]; exact ⟨rfl, rfl⟩
  | w :: ws, vs, h, r => by
    rw [List.all_cons, Bool.and_eq_true] at h
    obtain ⟨v, vr, e, r1, r2⟩ := r.uncons
    obtain ⟨e1, f1⟩ := fv_rep h.1 r1
    obtain ⟨e2, f2⟩ := fvs_rep h.2 r2
    subst e
    refine ⟨by rw [List.map_cons, e1, e2], by rw [List.all_cons, f1, f2]; rfl⟩
def inW (x : W) (xs : List W) : Bool := xs.any fun y => eqF y x
theorem inW_V {x : W} {xs : List W} (hx : flatW x = true) : xs.all flatW = true → inV (fv x) (xs.map fv) = inW x xs := by
  intro h
  unfold inV inW
  rw [List.any_map]
  induction xs with
  | nil => rfl
  | cons y r ih =>
    rw [List.all_cons, Bool.and_eq_true] at h
    rw [List.any_cons, List.any_cons, ih h.2]
    have e : ((fun y => eqV y (fv x)) ∘ fv) y = eqF y x := eqF_V y x h.1 hx
    rw [e]
def rdN : Option Ob → Option (List (W × W))
  | some (.dN kvs) => some kvs
  | some (.lkN kvs) => some kvs
  | _ => none
def lookN (kvs : List (W × W)) (k : W) : Option W := (kvs.find? fun p => decide (nk p.1 = nk k)).map (·.2)
def placeN (kvs : List (W × W)) (k v : W) : List (W × W) := if (lookN kvs k).isSome = true then kvs.map (fun p => if nk p.1 = nk k then (p.1, v) else p) else kvs ++ [(k, v)]
def rInS (M : Me) (x y : W) (Q : Bool → Prop) : Prop := match y with
  | .tup xs => (flatW x && xs.all flatW) = true ∧ Q (inW x xs)
  | .str z => match x with
    | .str a => match a.cps.toList with
      | [c] => Q (decide (c ∈ z.cps.toList))
      | _ => False
    | _ => False
  | .ref a => match M a with
    | some (.lst xs) => (flatW x && xs.all flatW) = true ∧ Q (inW x xs)
    | some (.dK kvs) => match wkey x with
      | some k => Q (look kvs k).isSome
      | none => False
    | some (.lkK kvs) => match wkey x with
      | some k => Q (look kvs k).isSome
      | none => False
    | some (.dN kvs) => KeyOk x ∧ Q (lookN kvs x).isSome
    | some (.lkN kvs) => KeyOk x ∧ Q (lookN kvs x).isSome
    | _ => False
  | _ => False
def rIn2 : R2W := fun x y M Q => rInS M x y fun b => Q (.bl b) M
def rNotIn2 : R2W := fun x y M Q => rInS M x y fun b => Q (.bl (!b)) M
/-- dicts whose keys are tuples: the raw rows -/
theorem nest_is {pins : List (Addr × Obj)} {σ : L2.St} {s : Shared} (I : Inv X pins σ H s) : ∀ {w : W} {v : V} {u : Value}, kr w = true → Rep X.K H w v → RelV v u → NestedIs s.heap (nk w) u
  | .non, v, u, _, r, ru => by rw [un_non r] at ru; cases ru; unfold nk; exact .none
  | .bl b, v, u, _, r, ru => by rw [un_bl r] at ru; cases ru; unfold nk; exact .bool rfl
  | .int i, v, u, _, r, ru => by rw [un_int r] at ru; obtain ⟨t, rfl⟩ := ru; unfold nk; exact .int i t
  | .str x, v, u, _, r, ru => by rw [un_str r] at ru; obtain ⟨t, rfl⟩ := ru; unfold nk; exact .text x t
  | .ref a, v, u, h, _, _ => by unfold kr at h; cases h
  | .cl a, v, u, h, _, _ => by unfold kr at h; cases h
  | .tup ws, v, u, h, r, ru => by
    unfold kr at h
    obtain ⟨a, vs, e, sq, rs⟩ := r.untup
    subst e
    cases ru
    obtain ⟨us, rv, ⟨o, e1, e2, n, e3⟩, _⟩ := I.tuple sq
    unfold nk
    exact .tup e1 e2 e3 (by simpa using nests I ws vs us h rs rv)
where nests {pins : List (Addr × Obj)} {σ : L2.St} {s : Shared} (I : Inv X pins σ H s) : ∀ (ws : List W) (vs : List V) (us : List Value), krs ws = true → Reps X.K H ws vs → Vals vs us → NestedAll s.heap (nks ws) us
  | [], vs, us, _, r, ru => by rw [r.unnil] at ru; cases ru; unfold nks; exact .nil
  | w :: ws, vs, us, h, r, ru => by
    unfold krs at h
    rw [Bool.and_eq_true] at h
    obtain ⟨v, vr, e, r1, r2⟩ := r.uncons
    subst e
    cases ru with
    | cons q1 q2 => unfold nks; exact .cons (nest_is I h.1 r1 q1) (nests I ws vr _ h.2 r2 q2)

/-- what the raw rows give: the library's own word -/
theorem n_of {pins : List (Addr × Obj)} {σ : L2.St} {s : Shared} (I : Inv X pins σ H s) {a : Addr} {es : Array DictEntry} {kvs : List (W × W)} (rd : Rd H a (.ext (DRaw a es))) (n : NDict X.kx H kvs es) :
    ∃ xs, Paired (NRow X.kx H) kvs xs ∧ s.heap.DictOfH (nestedKind X.prog X.w) a xs := by
  obtain ⟨sz, xs, p, e, nd⟩ := n
  obtain ⟨⟨o, ep, h1, h2, h3⟩, _, _⟩ := rd.ok I.hok
  refine ⟨xs, p, o, es, ep, h1, h2, h3, e, fun x hx => ?_, nd⟩
  have aux : ∀ {ps : List (W × W)} {ys : List (NestedKey × Addr × Value)}, Paired (NRow X.kx H) ps ys → ∀ y ∈ ys, (nestedKind X.prog X.w).is s.heap y.1 y.2.1 := by
    intro ps ys q
    induction q with
    | nil => intro y hy; cases hy
    | cons r _ ih =>
      intro y hy
      rcases List.mem_cons.mp hy with z | z
      · subst z
        obtain ⟨e1, r1, ⟨_, k1, k2⟩, _⟩ := r
        rw [e1]
        exact ⟨nest_is I k1 r1 rfl, k2⟩
      · exact ih y z
  exact aux p x hx
theorem n_key {pins : List (Addr × Obj)} {σ : L2.St} {s : Shared} (I : Inv X pins σ H s) {w : W} {v : V} {u : Value} (hk : KeyOk w) (r : Rep X.K H w v) (ru : RelV v u) : ∃ b, v = .ref b ∧ u = .ref b ∧ (nestedKind X.prog X.w).is s.heap (nk w) b := by
  obtain ⟨⟨ws, e⟩, k1, k2⟩ := hk
  subst e
  obtain ⟨b, vs, e, _, _⟩ := r.untup
  subst e
  cases ru
  exact ⟨b, rfl, rfl, nest_is I k1 r rfl, k2⟩
theorem n_room {A : Around} (hu : A.units + 64 < cLine) : (nestedKind X.prog X.w).room A.in1 := by
  show A.units + 1 + 8 < cLine
  omega
theorem n_look {kvs : List (W × W)} {xs : List (NestedKey × Addr × Value)} (p : Paired (NRow B H) kvs xs) (k : W) :
    (lookN kvs k = none ∧ atKey xs (nk k) = none) ∨ ∃ w b u v, lookN kvs k = some w ∧ atKey xs (nk k) = some (b, u) ∧ RelV v u ∧ Rep B.K H w v := by
  induction p with
  | nil => exact .inl ⟨rfl, rfl⟩
  | @cons q x ps ys r _ ih =>
    obtain ⟨e, r1, k1, vv, rv, r2⟩ := r
    by_cases z : nk q.1 = nk k
    · refine .inr ⟨q.2, x.2.1, x.2.2, vv, ?_, ?_, rv, r2⟩
      · simp [lookN, z]
      · simp [atKey, e, z]
    · have n1 : lookN (q :: ps) k = lookN ps k := by simp [lookN, z]
      have n2 : atKey (x :: ys) (nk k) = atKey ys (nk k) := by simp [atKey, e, z]
      rw [n1, n2]
      exact ih
theorem n_place {kvs : List (W × W)} {xs : List (NestedKey × Addr × Value)} (p : Paired (NRow B H) kvs xs) {k w : W} {b : Addr} {v : V} {u : Value} (hk : KeyOk k) (rk : Rep B.K H k (.ref b)) (rv : RelV v u) (rw' : Rep B.K H w v) :
    Paired (NRow B H) (placeN kvs k w) (storedH xs (nk k) b u) := by
  have e : (lookN kvs k).isSome = (atKey xs (nk k)).isSome := by
    rcases n_look p k with ⟨h1, h2⟩ | ⟨_, _, _, _, h1, h2, _⟩
    · rw [h1, h2]; rfl
    · rw [h1, h2]; rfl
  unfold placeN storedH
  rw [e]
  by_cases z : (atKey xs (nk k)).isSome = true
  · rw [if_pos z, if_pos z]
    clear e z
    induction p with
    | nil => exact .nil
    | @cons q x ps ys r _ ih =>
      rw [List.map_cons, List.map_cons]
      refine .cons ?_ ih
      obtain ⟨e1, r1, k1, r2⟩ := r
      unfold putAt
      by_cases y : nk q.1 = nk k
      · rw [if_pos y, if_pos (e1.trans y)]
        exact ⟨e1, r1, k1, v, rv, rw'⟩
      · rw [if_neg y, if_neg (fun t => y (e1.symm.trans t))]
        exact ⟨e1, r1, k1, r2⟩
  · rw [if_neg z, if_neg z]
    clear e z
    induction p with
    | nil => exact .cons ⟨rfl, rk, hk, v, rv, rw'⟩ .nil
    | cons r _ ih => exact .cons r ih
theorem rdN_rd {a : Addr} {kvs : List (W × W)} (m : Mo B H M) (h : rdN (M a) = some kvs) : ∃ es, Rd H a (.ext (DRaw a es)) ∧ (a == sysModules) = false ∧ NDict B H kvs es := by
  cases e : M a with
  | none => rw [e] at h; cases h
  | some o =>
    rw [e] at h
    cases o with
    | dN ks =>
      have e2 : ks = kvs := by simpa [rdN] using h
      subst e2
      obtain ⟨es, h1, h2⟩ := m a _ e
      exact ⟨es, .inl h1, h2⟩
    | lkN ks =>
      have e2 : ks = kvs := by simpa [rdN] using h
      subst e2
      obtain ⟨o, es, h1, h2⟩ := m a _ e
      exact ⟨es, .inr ⟨o, h1⟩, h2⟩
    | _ => simp [rdN] at h
theorem wop_inSeq (neg : Bool) (f : Value → Value → Sem Value) (h : OpR X f (rIn X.K neg)) : OpW X f fun x y M Q => (∃ xs, y = .tup xs ∨ ∃ a, y = .ref a ∧ rdl (M a) = some xs) ∧ ∀ xs, (y = .tup xs ∨ ∃ a, y = .ref a ∧ rdl (M a) = some xs) → (flatW x && xs.all flatW) = true ∧ Q (.bl (if neg then !inW x xs else inW x xs)) M :=
  OpR_imp h fun x y H Q ⟨wx, wy, M, Qw, rx, ry, m, ⟨⟨xs, hy⟩, q⟩, k⟩ => by
    obtain ⟨hf, q⟩ := q xs hy
    rw [Bool.and_eq_true] at hf
    obtain ⟨e1, f1⟩ := fv_rep hf.1 rx
    have fin : ∀ {vs : List V}, Reps X.K H xs vs → vs.all flatV = true ∧ Q (.bl (if neg then !inV x vs else inV x vs)) H := fun {vs} r => by
      obtain ⟨e2, f2⟩ := fvs_rep hf.2 r
      refine ⟨f2, ?_⟩
      rw [e1, e2, inW_V hf.1 hf.2]
      exact k _ M _ H q (Go.refl _ _) rep_bl m
    rcases hy with e | ⟨a, e, hr⟩
    · subst e
      obtain ⟨a, vs, e3, sq, rs⟩ := ry.untup
      exact ⟨a, vs, e3, .inr sq, f1, (fin rs).1, (fin rs).2⟩
    · subst e
      obtain ⟨vs, sq, rs⟩ := rdl_sq m hr
      exact ⟨a, vs, un_ref ry, .inl sq, f1, (fin rs).1, (fin rs).2⟩
theorem wop_inK (hu : X.A.units + 64 < cLine) : OpW X (compareOp .In) fun x y M Q => ∃ a kvs k, y = .ref a ∧ rdK (M a) = some kvs ∧ wkey x = some k ∧ Q (.bl (look kvs k).isSome) M :=
  fun pins s σ H x y v u Q I rx ry ⟨wx, wy, M, Qw, r1, r2, m, ⟨a, kvs, kk, e, hr, hk, q⟩, k⟩ => by
    subst e
    rw [un_ref r2] at ry
    cases ry
    obtain ⟨xs, rd, p⟩ := rdK_rd m hr
    have ek := wkey_V hk r1
    subst ek
    refine d_in (by omega) I (o := valV xs kk) (.inl ⟨xs, kk, rd, rfl, rfl⟩) rx fun s' I' => ⟨.bl (valV xs kk).isSome, H, I', rfl, ?_⟩
    have e : (valV xs kk).isSome = (look kvs kk).isSome := by
      rcases look_rel p kk with ⟨h1, h2⟩ | ⟨_, _, h1, h2, _⟩
      · rw [h1, h2]; rfl
      · rw [h1, h2]; rfl
    rw [e]
    exact k _ M _ H q (Go.refl _ _) rep_bl m
theorem wop_notInK (hu : X.A.units + 64 < cLine) : OpW X (compareOp .NotIn) fun x y M Q => ∃ a kvs k, y = .ref a ∧ rdK (M a) = some kvs ∧ wkey x = some k ∧ Q (.bl (!(look kvs k).isSome)) M :=
  fun pins s σ H x y v u Q I rx ry ⟨wx, wy, M, Qw, r1, r2, m, ⟨a, kvs, kk, e, hr, hk, q⟩, k⟩ => by
    subst e
    rw [un_ref r2] at ry
    cases ry
    obtain ⟨xs, rd, p⟩ := rdK_rd m hr
    have ek := wkey_V hk r1
    subst ek
    refine d_notIn (by omega) I (o := valV xs kk) (.inl ⟨xs, kk, rd, rfl, rfl⟩) rx fun s' I' => ⟨.bl (!(valV xs kk).isSome), H, I', rfl, ?_⟩
    have e : (valV xs kk).isSome = (look kvs kk).isSome := by
      rcases look_rel p kk with ⟨h1, h2⟩ | ⟨_, _, h1, h2, _⟩
      · rw [h1, h2]; rfl
      · rw [h1, h2]; rfl
    rw [e]
    exact k _ M _ H q (Go.refl _ _) rep_bl m
theorem wop_inN (hu : X.A.units + 64 < cLine) : OpW X (compareOp .In) fun x y M Q => ∃ a kvs, y = .ref a ∧ rdN (M a) = some kvs ∧ KeyOk x ∧ Q (.bl (lookN kvs x).isSome) M :=
  fun pins s σ H x y v u Q I rx ry ⟨wx, wy, M, Qw, r1, r2, m, ⟨a, kvs, e, hr, hk, q⟩, k⟩ => by
    subst e
    rw [un_ref r2] at ry
    cases ry
    obtain ⟨es, rd, hd, n⟩ := rdN_rd m hr
    obtain ⟨xs, p, dd⟩ := n_of I rd n
    obtain ⟨b, e1, e2, ki⟩ := n_key I hk r1 rx
    subst e1 e2
    refine wpAny_in_heap (n_room hu) ki hd dd ⟨.bl (atKey xs (nk wx)).isSome, H, I.tok _, rfl, ?_⟩
    have e : (atKey xs (nk wx)).isSome = (lookN kvs wx).isSome := by
      rcases n_look p wx with ⟨h1, h2⟩ | ⟨_, _, _, _, h1, h2, _⟩
      · rw [h1, h2]; rfl
      · rw [h1, h2]; rfl
    rw [e]
    exact k _ M _ H q (Go.refl _ _) rep_bl m
theorem wop_notInN (hu : X.A.units + 64 < cLine) : OpW X (compareOp .NotIn) fun x y M Q => ∃ a kvs, y = .ref a ∧ rdN (M a) = some kvs ∧ KeyOk x ∧ Q (.bl (!(lookN kvs x).isSome)) M :=
  fun pins s σ H x y v u Q I rx ry ⟨wx, wy, M, Qw, r1, r2, m, ⟨a, kvs, e, hr, hk, q⟩, k⟩ => by
    subst e
    rw [un_ref r2] at ry
    cases ry
    obtain ⟨es, rd, hd, n⟩ := rdN_rd m hr
    obtain ⟨xs, p, dd⟩ := n_of I rd n
    obtain ⟨b, e1, e2, ki⟩ := n_key I hk r1 rx
    subst e1 e2
    refine wpAny_notIn_heap (n_room hu) ki hd dd ⟨.bl (!(atKey xs (nk wx)).isSome), H, I.tok _, rfl, ?_⟩
    have e : (atKey xs (nk wx)).isSome = (lookN kvs wx).isSome := by
      rcases n_look p wx with ⟨h1, h2⟩ | ⟨_, _, _, _, h1, h2, _⟩
      · rw [h1, h2]; rfl
      · rw [h1, h2]; rfl
    rw [e]
    exact k _ M _ H q (Go.refl _ _) rep_bl m
theorem wop_inC : OpW X (compareOp .In) fun x y M Q => ∃ a c z, x = .str a ∧ a.cps.toList = [c] ∧ y = .str z ∧ Q (.bl (decide (c ∈ z.cps.toList))) M :=
  OpR_imp op_in_sign fun x y H Q ⟨wx, wy, M, Qw, rx, ry, m, ⟨a, c, z, e1, h, e2, q⟩, k⟩ => by
    subst e1 e2
    refine ⟨c, z, ?_, un_str ry, k _ M _ H q (Go.refl _ _) rep_bl m⟩
    rw [un_str rx]
    obtain ⟨cs⟩ := a
    have e : cs = #[c] := by
      obtain ⟨l⟩ := cs
      simp at h
      rw [h]
    rw [e]
theorem wop_notInC : OpW X (compareOp .NotIn) fun x y M Q => ∃ a c z, x = .str a ∧ a.cps.toList = [c] ∧ y = .str z ∧ Q (.bl (!decide (c ∈ z.cps.toList))) M :=
  OpR_imp op_notIn_sign fun x y H Q ⟨wx, wy, M, Qw, rx, ry, m, ⟨a, c, z, e1, h, e2, q⟩, k⟩ => by
    subst e1 e2
    refine ⟨c, z, ?_, un_str ry, k _ M _ H q (Go.refl _ _) rep_bl m⟩
    rw [un_str rx]
    obtain ⟨cs⟩ := a
    have e : cs = #[c] := by
      obtain ⟨l⟩ := cs
      simp at h
      rw [h]
    rw [e]
/-- the five kinds -/
theorem inS_split {M : Me} {x y : W} {Q : Bool → Prop} (h : rInS M x y Q) :
    ((∃ xs, y = .tup xs ∨ ∃ a, y = .ref a ∧ rdl (M a) = some xs) ∧ ∀ xs, (y = .tup xs ∨ ∃ a, y = .ref a ∧ rdl (M a) = some xs) → (flatW x && xs.all flatW) = true ∧ Q (inW x xs)) ∨
    (∃ a kvs k, y = .ref a ∧ rdK (M a) = some kvs ∧ wkey x = some k ∧ Q (look kvs k).isSome) ∨ (∃ a kvs, y = .ref a ∧ rdN (M a) = some kvs ∧ KeyOk x ∧ Q (lookN kvs x).isSome) ∨
    ∃ a c z, x = .str a ∧ a.cps.toList = [c] ∧ y = .str z ∧ Q (decide (c ∈ z.cps.toList)) := by
  have one : ∀ {a : Addr} {xs : List W}, rdl (M a) = some xs → (flatW x && xs.all flatW) = true ∧ Q (inW x xs) → ((∃ xs, (W.ref a = .tup xs) ∨ ∃ b, W.ref a = .ref b ∧ rdl (M b) = some xs) ∧ ∀ xs, (W.ref a = .tup xs ∨ ∃ b, W.ref a = .ref b ∧ rdl (M b) = some xs) → (flatW x && xs.all flatW) = true ∧ Q (inW x xs)) := fun {a xs} h1 h2 =>
    ⟨⟨xs, .inr ⟨a, rfl, h1⟩⟩, fun ys hy => by
      rcases hy with e | ⟨b, e, h3⟩
      · cases e
      · cases e
        rw [h1] at h3
        cases h3
        exact h2⟩
  unfold rInS at h
  split at h
  · rename_i xs
    exact .inl ⟨⟨xs, .inl rfl⟩, fun ys hy => by
      rcases hy with e | ⟨b, e, h3⟩
      · cases e; exact h
      · cases e⟩
  · split at h
    · split at h
      · rename_i c e
        exact .inr (.inr (.inr ⟨_, c, _, rfl, e, rfl, h⟩))
      · exact h.elim
    · exact h.elim
  · split at h
    · rename_i xs e
      exact .inl (one (by rw [e]; rfl) h)
    · split at h
      · rename_i kvs e o k ek
        exact .inr (.inl ⟨_, kvs, k, rfl, by rw [e]; rfl, ek, h⟩)
      · exact h.elim
    · split at h
      · rename_i kvs e o k ek
        exact .inr (.inl ⟨_, kvs, k, rfl, by rw [e]; rfl, ek, h⟩)
      · exact h.elim
    · rename_i kvs e
      exact .inr (.inr (.inl ⟨_, kvs, rfl, by rw [e]; rfl, h.1, h.2⟩))
    · rename_i kvs e
      exact .inr (.inr (.inl ⟨_, kvs, rfl, by rw [e]; rfl, h.1, h.2⟩))
    · exact h.elim
  · exact h.elim
theorem w_in (hu : X.A.units + 64 < cLine) : OpW X (compareOp .In) rIn2 :=
  OpW.or (wop_inSeq false _ op_in_seq) (OpW.or (wop_inK hu) (OpW.or (wop_inN hu) wop_inC (r'' := fun x y M Q => _ ∨ _) fun _ _ _ _ h => h) (r'' := fun x y M Q => _ ∨ _) fun _ _ _ _ h => h) fun x y M Q h => inS_split h
theorem w_notIn (hu : X.A.units + 64 < cLine) : OpW X (compareOp .NotIn) rNotIn2 :=
  OpW.or (wop_inSeq true _ op_notIn_seq) (OpW.or (wop_notInK hu) (OpW.or (wop_notInN hu) wop_notInC (r'' := fun x y M Q => _ ∨ _) fun _ _ _ _ h => h) (r'' := fun x y M Q => _ ∨ _) fun _ _ _ _ h => h) fun x y M Q h => inS_split h
end
end PV
set_option maxHeartbeats 1000000
/-! PV: subscripts, slices, stores, methods, built-ins. -/
namespace PV
open PySem PySem.Spec PyProof.Rows L2

section
variable {X : Cx} {B : Kx} {K : PySem.W.Frag} {H : Hp} {M : Me}
/-! ### o[i] -/
def up2I (X : Cx) (r : R2W) : Prop := IxR X (up2 X.kx r)
theorem IxR_imp {r r' : R2} (h : IxR X r) (i : ∀ x y H Q, r' x y H Q → r x y H Q) : IxR X r' := fun value slice pins s σ H x y v u Q I rx ry q => h value slice pins s σ H x y v u Q I rx ry (i x y H Q q)
def rIx2 : R2W := fun x y M Q => match x with
  | .cl xs => match y with
    | .int i => match atI xs i with
      | some w => Q w M
      | none => False
    | _ => False
  | .tup xs => match y with
    | .int i => match atI xs i with
      | some w => Q w M
      | none => False
    | _ => False
  | .str z => match y with
    | .int i => z.length ≤ sizeLine ∧ match atI z.cps.toList i with
      | some c => Q (.str ⟨#[c]⟩) M
      | none => False
    | _ => False
  | .ref a => match M a with
    | some (.lst xs) => match y with
      | .int i => match atI xs i with
        | some w => Q w M
        | none => False
      | _ => False
    | some (.dK kvs) => match (wkey y).bind (look kvs) with
      | some w => Q w M
      | none => False
    | some (.lkK kvs) => match (wkey y).bind (look kvs) with
      | some w => Q w M
      | none => False
    | some (.dN kvs) => KeyOk y ∧ match lookN kvs y with
      | some w => Q w M
      | none => False
    | some (.lkN kvs) => KeyOk y ∧ match lookN kvs y with
      | some w => Q w M
      | none => False
    | _ => False
  | _ => False
theorem ixN_len {n m : Nat} (h : n = m) (i : Int) : ixN n i = ixN m i := by rw [h]
theorem at_rep {xs : List W} {vs : List V} {i : Int} {w : W} (r : Reps K H xs vs) (h : atI xs i = some w) : ∃ v, atI vs i = some v ∧ Rep K H w v := by
  unfold atI at h ⊢
  rw [r.length]
  cases e : ixN xs.length i with
  | none => rw [e] at h; cases h
  | some j =>
    rw [e] at h
    exact r.get h
theorem wix_T : up2I X fun x y M Q => ∃ xs i w, x = .tup xs ∧ y = .int i ∧ atI xs i = some w ∧ Q w M := IxR_imp ix_tup fun x y H Q ⟨wx, wy, M, Qw, rx, ry, m, ⟨xs, i, w, e1, e2, h, q⟩, k⟩ => by
  subst e1 e2
  obtain ⟨a, vs, e3, s, rs⟩ := rx.untup
  obtain ⟨v, h2, r2⟩ := at_rep rs h
  exact ⟨a, vs, i, v, e3, un_int ry, s, h2, k _ M _ H q (Go.refl _ _) r2 m⟩
theorem wix_L : up2I X fun x y M Q => ∃ a xs i w, x = .ref a ∧ rdl (M a) = some xs ∧ y = .int i ∧ atI xs i = some w ∧ Q w M := IxR_imp ix_list fun x y H Q ⟨wx, wy, M, Qw, rx, ry, m, ⟨a, xs, i, w, e1, hr, e2, h, q⟩, k⟩ => by
  subst e1 e2
  obtain ⟨vs, s, rs⟩ := rdl_sq m hr
  obtain ⟨v, h2, r2⟩ := at_rep rs h
  exact ⟨a, vs, i, v, un_ref rx, un_int ry, s, h2, k _ M _ H q (Go.refl _ _) r2 m⟩
theorem wix_C : up2I X fun x y M Q => ∃ xs i w, x = .cl xs ∧ y = .int i ∧ atI xs i = some w ∧ Q w M := IxR_imp ix_list fun x y H Q ⟨wx, wy, M, Qw, rx, ry, m, ⟨xs, i, w, e1, e2, h, q⟩, k⟩ => by
  subst e1 e2
  obtain ⟨a, vs, e3, s, rs⟩ := rx.uncl
  obtain ⟨v, h2, r2⟩ := at_rep rs h
  exact ⟨a, vs, i, v, e3, un_int ry, s.sq, h2, k _ M _ H q (Go.refl _ _) r2 m⟩
theorem wix_S : up2I X fun x y M Q => ∃ z i c, x = .str z ∧ y = .int i ∧ z.length ≤ sizeLine ∧ atI z.cps.toList i = some c ∧ Q (.str ⟨#[c]⟩) M := IxR_imp ix_str fun x y H Q ⟨wx, wy, M, Qw, rx, ry, m, ⟨z, i, c, e1, e2, hz, h, q⟩, k⟩ => by
  subst e1 e2
  exact ⟨z, i, c, un_str rx, un_int ry, hz, h, k _ M _ H q (Go.refl _ _) rep_str m⟩
theorem wix_K (hu : X.A.units + 64 < cLine) : up2I X fun x y M Q => ∃ a kvs kk w, x = .ref a ∧ rdK (M a) = some kvs ∧ wkey y = some kk ∧ look kvs kk = some w ∧ Q w M :=
  fun value slice pins s σ H x y v u Q I rx ry ⟨wx, wy, M, Qw, r1, r2, m, ⟨a, kvs, kk, w, e1, hr, hk, hl, q⟩, k⟩ hs => by
    subst e1
    rw [un_ref r1] at rx
    cases rx
    obtain ⟨xs, rd, p⟩ := rdK_rd m hr
    have ek := wkey_V hk r2
    subst ek
    rcases look_rel p kk with ⟨h1, _⟩ | ⟨w', vv, h1, h2, r3⟩
    · rw [hl] at h1; cases h1
    · rw [hl] at h1
      cases h1
      have g : DGet H a (kV kk) (some vv) := .inl ⟨xs, kk, rd, rfl, h2.symm⟩
      exact tail_any (dict_typeIs I g) PySem.F.slot_dict_getitem.lookup (d_getItem (by omega) I g ry fun u' s' I' ru => ⟨vv, H, I', ru, k _ M _ H q (Go.refl _ _) r3 m⟩) hs
theorem wix_N (hu : X.A.units + 64 < cLine) : up2I X fun x y M Q => ∃ a kvs w, x = .ref a ∧ rdN (M a) = some kvs ∧ KeyOk y ∧ lookN kvs y = some w ∧ Q w M :=
  fun value slice pins s σ H x y v u Q I rx ry ⟨wx, wy, M, Qw, r1, r2, m, ⟨a, kvs, w, e1, hr, hk, hl, q⟩, k⟩ hs => by
    subst e1
    rw [un_ref r1] at rx
    cases rx
    obtain ⟨es, rd, hd, n⟩ := rdN_rd m hr
    obtain ⟨xs, p, dd⟩ := n_of I rd n
    obtain ⟨b, e1, e2, ki⟩ := n_key I hk r2 ry
    subst e1 e2
    rcases n_look p wy with ⟨h1, _⟩ | ⟨w', b', u', vv, h1, h2, r3, r4⟩
    · rw [hl] at h1; cases h1
    · rw [hl] at h1
      cases h1
      exact tail_any dd.typeIs PySem.F.slot_dict_getitem.lookup (wpAny_getItem_heap (n_room hu) ki dd h2 ⟨vv, H, I.tok _, r3, k _ M _ H q (Go.refl _ _) r4 m⟩) hs
theorem w_ix (hu : X.A.units + 64 < cLine) : up2I X rIx2 := IxR_imp (IxR.or wix_C <| IxR.or wix_T (IxR.or wix_L (IxR.or wix_S (IxR.or (wix_K hu) (wix_N hu))))) fun x y H Q ⟨wx, wy, M, Qw, rx, ry, m, q, k⟩ => by
  have mk : ∀ {r : R2W}, r wx wy M Qw → up2 X.kx r x y H Q := fun {r} q => ⟨wx, wy, M, Qw, rx, ry, m, q, k⟩
  unfold rIx2 at q
  split at q
  · split at q
    · split at q
      · rename_i e
        exact .inl (mk ⟨_, _, _, rfl, rfl, e, q⟩)
      · exact q.elim
    · exact q.elim
  · split at q
    · split at q
      · rename_i e
        exact .inr (.inl (mk ⟨_, _, _, rfl, rfl, e, q⟩))
      · exact q.elim
    · exact q.elim
  · split at q
    · obtain ⟨hz, q⟩ := q
      split at q
      · rename_i e
        exact .inr (.inr (.inr (.inl (mk ⟨_, _, _, rfl, rfl, hz, e, q⟩))))
      · exact q.elim
    · exact q.elim
  · split at q
    · rename_i e0
      split at q
      · split at q
        · rename_i e
          exact .inr (.inr (.inl (mk ⟨_, _, _, _, rfl, by rw [e0]; rfl, rfl, e, q⟩)))
        · exact q.elim
      · exact q.elim
    · rename_i e0
      split at q
      · rename_i e
        obtain ⟨kk, h1, h2⟩ := Option.bind_eq_some_iff.mp e
        exact .inr (.inr (.inr (.inr (.inl (mk ⟨_, _, kk, _, rfl, by rw [e0]; rfl, h1, h2, q⟩)))))
      · exact q.elim
    · rename_i e0
      split at q
      · rename_i e
        obtain ⟨kk, h1, h2⟩ := Option.bind_eq_some_iff.mp e
        exact .inr (.inr (.inr (.inr (.inl (mk ⟨_, _, kk, _, rfl, by rw [e0]; rfl, h1, h2, q⟩)))))
      · exact q.elim
    · rename_i e0
      obtain ⟨hk, q⟩ := q
      split at q
      · rename_i e
        exact .inr (.inr (.inr (.inr (.inr (mk ⟨_, _, _, rfl, by rw [e0]; rfl, hk, e, q⟩)))))
      · exact q.elim
    · rename_i e0
      obtain ⟨hk, q⟩ := q
      split at q
      · rename_i e
        exact .inr (.inr (.inr (.inr (.inr (mk ⟨_, _, _, rfl, by rw [e0]; rfl, hk, e, q⟩)))))
      · exact q.elim
    · exact q.elim
  · exact q.elim
end
section
variable {Y : Cy} {a b lo hi : Expr} {pos p2 : Pos}
theorem q_ix {ta tb : WE} (hu : Y.X.A.units + 64 < cLine) (ha : QE Y a ta) (hb : QE Y b tb) (hs : PlainIx b := by exact fun _ _ => rfl) : QE Y (.Subscript a b pos) (wOp rIx2 ta tb) := PE_imp (pe_ix (w_ix hu) ha hb hs) fun _ _ _ h => up_op h
/-! ### o[lo:hi] -/
abbrev WO := En → Me → (Option Int → Me → Prop) → Prop
def upO (c : Cb) (t : WO) : TO := fun σ H Q => ∃ ρ M Qw, StOk c ρ M σ H ∧ t ρ M Qw ∧ ∀ o M' H', Qw o M' → Go H M H' M' → Mo c.B H' M' → Q o H'
def QO (Y : Cy) (e : Option Expr) (t : WO) : Prop := PO Y.X e (upO Y.b t)
theorem PO_imp {X : Cx} {e : Option Expr} {t t' : TO} (h : PO X e t) (i : ∀ σ H Q, t' σ H Q → t σ H Q) : PO X e t' := ⟨fun pins s σ H Q I q => h.run pins s σ H Q I (i σ H Q q)⟩
def wNoPart : WO := fun _ M Q => Q none M
def wPart (t : WE) : WO := fun ρ M Q => t ρ M fun x M1 => match x with
  | .int i => Q (some i) M1
  | _ => False
theorem qo_none : QO Y none wNoPart := PO_imp po_none fun σ H Q ⟨ρ, M, Qw, so, q, k⟩ => k none M H q (Go.refl _ _) so.mo
theorem qo_some {e : Expr} {t : WE} (h : QE Y e t) : QO Y (some e) (wPart t) := PO_imp (po_some h) fun σ H Q ⟨ρ, M, Qw, so, q, k⟩ => ⟨ρ, M, _, so, q, fun w M1 v H1 q1 g r m => by
  split at q1
  · exact ⟨_, un_int r, k _ M1 H1 q1 g m⟩
  · exact q1.elim⟩
def cutW (xs : List W) (lo hi : Option Int) : List W := (xs.drop (HT.sIx xs.length 0 lo)).take (HT.sIx xs.length xs.length hi - HT.sIx xs.length 0 lo)
theorem cut_rep {K : PySem.W.Frag} {H : Hp} {xs : List W} {vs : List V} (r : Reps K H xs vs) (lo hi : Option Int) : Reps K H (cutW xs lo hi) (cutV vs lo hi) := by
  unfold cutW cutV
  rw [r.length]
  exact (r.drop _).take _
abbrev RSW := W → Option Int → Option Int → Me → WK → Prop
def upSl (B : Kx) (r : RSW) : V → Option Int → Option Int → Hp → VK → Prop := fun x lo hi H Q => ∃ wx M Qw, Rep B.K H wx x ∧ Mo B H M ∧ r wx lo hi M Qw ∧ ∀ w M' v H', Qw w M' → Go H M H' M' → Rep B.K H' w v → Mo B H' M' → Q v H'
theorem SlR_imp {X : Cx} {r r' : V → Option Int → Option Int → Hp → VK → Prop} (h : SlR X r) (i : ∀ x lo hi H Q, r' x lo hi H Q → r x lo hi H Q) : SlR X r' :=
  fun pins s σ H x v vl vu lo hi sl Q I rx hs pl pu q => h pins s σ H x v vl vu lo hi sl Q I rx hs pl pu (i x lo hi H Q q)
def rSl2 : RSW := fun x lo hi M Q => match x with
  | .tup xs => Q (.tup (cutW xs lo hi)) M
  | .cl xs => ∀ p, M p = none → Q (.ref p) (put M p (.lst (cutW xs lo hi)))
  | .str z => z.length ≤ sizeLine ∧ Q (.str (cutS z lo hi)) M
  | .ref a => match rdl (M a) with
    | some xs => ∀ p, M p = none → Q (.ref p) (put M p (.lst (cutW xs lo hi)))
    | none => False
  | _ => False
theorem w_slT {X : Cx} : SlR X (upSl X.kx fun x lo hi M Q => ∃ xs, x = .tup xs ∧ Q (.tup (cutW xs lo hi)) M) := SlR_imp sl_tupA fun x lo hi H Q ⟨wx, M, Qw, rx, m, ⟨xs, e, q⟩, k⟩ => by
  subst e
  obtain ⟨a, vs, e, s, rs⟩ := rx.untup
  refine ⟨a, vs, e, s, fun ⟨h1, h2⟩ => ?_, fun _ p hp => ?_⟩
  · refine k _ M _ H q (Go.refl _ _) (Rep.tup s ?_) m
    have e2 : cutW xs lo hi = xs := by
      unfold cutW
      rw [rs.length] at h1 h2
      rw [h1, h2, List.drop_zero, Nat.sub_zero, List.take_length]
    rw [e2]
    exact rs
  · exact k _ M _ _ q (Go.same (sameNew hp)) (Rep.tup (SqT.of upd_same) ((cut_rep rs lo hi).go (GoH.new hp))) (m.new hp)
theorem w_slL {X : Cx} : SlR X (upSl X.kx fun x lo hi M Q => ∃ a xs, x = .ref a ∧ rdl (M a) = some xs ∧ ∀ p, M p = none → Q (.ref p) (put M p (.lst (cutW xs lo hi)))) := SlR_imp sl_list fun x lo hi H Q ⟨wx, M, Qw, rx, m, ⟨a, xs, e, h, q⟩, k⟩ => by
  subst e
  obtain ⟨vs, s, rs⟩ := rdl_sq m h
  refine ⟨a, vs, un_ref rx, s, fun p hp => ?_⟩
  have g := GoH.new (o := .lst (cutV vs lo hi)) hp
  exact k _ _ _ _ (q p (m.free hp)) (Go.new hp) rep_ref (m.put g ⟨_, upd_same, (cut_rep rs lo hi).go g⟩)
theorem w_slC {X : Cx} : SlR X (upSl X.kx fun x lo hi M Q => ∃ xs, x = .cl xs ∧ ∀ p, M p = none → Q (.ref p) (put M p (.lst (cutW xs lo hi)))) := SlR_imp sl_list fun x lo hi H Q ⟨wx, M, Qw, rx, m, ⟨xs, e, q⟩, k⟩ => by
  subst e
  obtain ⟨a, vs, e, s, rs⟩ := rx.uncl
  refine ⟨a, vs, e, s.sq, fun p hp => ?_⟩
  have g := GoH.new (o := .lst (cutV vs lo hi)) hp
  exact k _ _ _ _ (q p (m.free hp)) (Go.new hp) rep_ref (m.put g ⟨_, upd_same, (cut_rep rs lo hi).go g⟩)
theorem w_slS {X : Cx} : SlR X (upSl X.kx fun x lo hi M Q => ∃ z, x = .str z ∧ z.length ≤ sizeLine ∧ Q (.str (cutS z lo hi)) M) := SlR_imp sl_str fun x lo hi H Q ⟨wx, M, Qw, rx, m, ⟨z, e, h, q⟩, k⟩ => by
  subst e
  exact ⟨z, un_str rx, h, k _ M _ H q (Go.refl _ _) rep_str m⟩
theorem w_sl {X : Cx} : SlR X (upSl X.kx rSl2) := SlR_imp (SlR.or w_slT (SlR.or w_slL (SlR.or w_slS w_slC))) fun x lo hi H Q ⟨wx, M, Qw, rx, m, q, k⟩ => by
  unfold rSl2 at q
  split at q
  · exact .inl ⟨_, M, Qw, rx, m, ⟨_, rfl, q⟩, k⟩
  · exact .inr (.inr (.inr ⟨_, M, Qw, rx, m, ⟨_, rfl, q⟩, k⟩))
  · exact .inr (.inr (.inl ⟨_, M, Qw, rx, m, ⟨_, rfl, q.1, q.2⟩, k⟩))
  · split at q
    · rename_i e
      exact .inr (.inl ⟨_, M, Qw, rx, m, ⟨_, _, rfl, e, q⟩, k⟩)
    · exact q.elim
  · exact q.elim
def wSl (t : WE) (tl th : WO) : WE := fun ρ M Q => t ρ M fun x M1 => tl ρ M1 fun l M2 => th ρ M2 fun u M3 => rSl2 x l u M3 Q
theorem q_sl {t : WE} {tl th : WO} {lo hi : Option Expr} (h : QE Y a t) (hl : QO Y lo tl) (hh : QO Y hi th) : QE Y (.Subscript a (.Slice lo hi none p2) pos) (wSl t tl th) := PE_imp (pe_slice w_sl h hl hh) fun σ H Q ⟨ρ, M, Qw, so, q, k⟩ =>
  ⟨ρ, M, _, so, q, fun wx M1 vx H1 q1 g1 r1 m1 => ⟨ρ, M1, _, so.step g1 m1, q1, fun l M2 H2 q2 g2 m2 => ⟨ρ, M2, _, so.step (g1.trans g2) m2, q2, fun u M3 H3 q3 g3 m3 =>
    ⟨wx, M3, Qw, (r1.go g2.h).go g3.h, m3, q3, fun w M' v H' q g r m => k w M' v H' q (((g1.trans g2).trans g3).trans g) r m⟩⟩⟩⟩
end
end PV
set_option maxHeartbeats 1000000
/-! PV: stores, methods, built-ins. -/
namespace PV
open PySem PySem.Spec PyProof.Rows L2

section
variable {X : Cx} {B : Kx} {K : PySem.W.Frag} {H : Hp} {M : Me}
/-! ### o[i] = v -/
def rSet3 : R3W := fun o i v M Q => match o with
  | .ref a => match M a with
    | some (.lst xs) => match i with
      | .int k => match ixN xs.length k with
        | some j => Q (put M a (.lst (xs.set j v)))
        | none => False
      | _ => False
    | some (.dK kvs) => match wkey i with
      | some k => kvs.length < sizeLine ∧ Q (put M a (.dK (place kvs k v)))
      | none => False
    | some (.dN kvs) => KeyOk i ∧ kvs.length < sizeLine ∧ Q (put M a (.dN (placeN kvs i v)))
    | _ => False
  | _ => False
theorem PSet.or {r r' : TSet} (h : PSet X r) (h' : PSet X r') : PSet X fun o i v H Q => r o i v H Q ∨ r' o i v H Q := fun pins s σ H o i v ov iv u Q I r1 r2 r3 q => by
  rcases q with q | q
  · exact h pins s σ H o i v ov iv u Q I r1 r2 r3 q
  · exact h' pins s σ H o i v ov iv u Q I r1 r2 r3 q
theorem wset_L : SetW X fun o i v M Q => ∃ a xs k j, o = .ref a ∧ M a = some (.lst xs) ∧ i = .int k ∧ ixN xs.length k = some j ∧ Q (put M a (.lst (xs.set j v))) :=
  PSet_imp set_list fun o i v H Q ⟨wo, wi, wv, M, Qw, r1, r2, r3, m, ⟨a, xs, n, j, e1, h, e2, hj, q⟩, k⟩ => by
    subst e1 e2
    obtain ⟨vs, h1, rs⟩ := m a _ h
    have g : GoH H (upd H a (.lst (vs.set j v))) := GoH.write h1 (fun _ z => nomatch z) (fun _ _ z => nomatch z)
    exact ⟨a, vs, n, j, un_ref r1, un_int r2, h1, by rw [rs.length]; exact hj, k _ _ q (Go.put g h) (m.put g ⟨_, upd_same, (rs.go g).set j (r3.go g)⟩)⟩
theorem wset_K (hu : X.A.units + 64 < cLine) : SetW X fun o i v M Q => ∃ a kvs k, o = .ref a ∧ M a = some (.dK kvs) ∧ wkey i = some k ∧ kvs.length < sizeLine ∧ Q (put M a (.dK (place kvs k v))) :=
  fun pins s σ H o i v ov iv u Q I q1 q2 q3 ⟨wo, wi, wv, M, Qw, r1, r2, r3, m, ⟨a, kvs, kk, e1, h, hk, hl, q⟩, k⟩ => by
    subst e1
    rw [un_ref r1] at q1
    cases q1
    obtain ⟨xs, h1, p⟩ := m a _ h
    have ek := wkey_V hk r2
    subst ek
    have g : GoH H (upd H a (.dK (putK xs kk v))) := GoH.write h1 (fun _ z => nomatch z) (fun _ _ z => nomatch z)
    have pl : kvs.length = xs.length := Paired.length p
    refine d_setItem (by omega) I (.inl ⟨xs, kk, h1, rfl, by rw [← pl]; exact hl, rfl⟩) q2 q3 fun s' I' => ⟨_, I', k _ _ q (Go.put g h) (m.put g ⟨_, upd_same, ?_⟩)⟩
    exact place_rel (Paired.mapP p fun _ _ ⟨e, r⟩ => ⟨e, r.go g⟩) kk (r3.go g)
theorem wset_N (hu : X.A.units + 64 < cLine) : SetW X fun o i v M Q => ∃ a kvs, o = .ref a ∧ M a = some (.dN kvs) ∧ KeyOk i ∧ kvs.length < sizeLine ∧ Q (put M a (.dN (placeN kvs i v))) :=
  fun pins s σ H o i v ov iv u Q I q1 q2 q3 ⟨wo, wi, wv, M, Qw, r1, r2, r3, m, ⟨a, kvs, e1, h, hk, hl, q⟩, k⟩ => by
    subst e1
    rw [un_ref r1] at q1
    cases q1
    obtain ⟨es, h1, hd, n⟩ := m a _ h
    obtain ⟨xs, p, dd⟩ := n_of I (.inl h1) n
    obtain ⟨b, e1, e2, ki⟩ := n_key I hk r2 q2
    subst e1 e2
    have pl : kvs.length = xs.length := Paired.length p
    refine wpAny_setItem_heap (n_room hu) ki dd (fun h' dd' hs => ?_) (by rw [← pl]; exact n.sz)
    obtain ⟨o', es', ep', g1, g2, g3, g4, _, g5⟩ := dd'
    have g : GoH H (upd H a (.ext (DRaw a es'))) := GoH.write h1 (fun _ z => nomatch z) (fun _ _ z => nomatch z)
    have I' : Inv X pins σ (upd H a (.ext (DRaw a es'))) { s with heap := h', toks := s.toks + (nestedKind X.prog X.w).draws (nk wi) } :=
      I.write (x := a) (e := a) (by rw [h1]; exact True.intro) (.inl rfl) (fun c u hc z => (hs.2 c hc).trans z) ⟨o', g1⟩
        ⟨⟨o', ep', g1, g2, g3⟩, ⟨o', g1⟩, fun h1 h2 ⟨o2, ep2, z1, z2⟩ st => ⟨o2, ep2, st _ z1, z2⟩⟩
    have p2 : Paired (NRow X.kx (upd H a (.ext (DRaw a es')))) (placeN kvs wi wv) (storedH xs (nk wi) b u) :=
      n_place (Paired.mapP p fun _ _ ⟨e1, r, kk, vv, rv, r2⟩ => ⟨e1, r.go g, kk, vv, rv, r2.go g⟩) hk (r2.go g) q3 (r3.go g)
    have len : (placeN kvs wi wv).length ≤ kvs.length + 1 := by
      unfold placeN
      split
      · rw [List.length_map]; omega
      · rw [List.length_append]; simp
    refine ⟨_, I', k _ _ q (Go.put g h) (m.put g ⟨es', upd_same, hd, ⟨by omega, _, p2, g4, g5⟩⟩)⟩
theorem w_set (hu : X.A.units + 64 < cLine) : SetW X rSet3 := PSet_imp (PSet.or wset_L (PSet.or (wset_K hu) (wset_N hu))) fun o i v H Q ⟨wo, wi, wv, M, Qw, r1, r2, r3, m, q, k⟩ => by
  have mk : ∀ {r : R3W}, r wo wi wv M Qw → up3 X.kx r o i v H Q := fun {r} q => ⟨wo, wi, wv, M, Qw, r1, r2, r3, m, q, k⟩
  unfold rSet3 at q
  split at q
  · split at q
    · rename_i e0
      split at q
      · split at q
        · rename_i e
          exact .inl (mk ⟨_, _, _, _, rfl, e0, rfl, e, q⟩)
        · exact q.elim
      · exact q.elim
    · rename_i e0
      split at q
      · rename_i e
        exact .inr (.inl (mk ⟨_, _, _, rfl, e0, e, q.1, q.2⟩))
      · exact q.elim
    · rename_i e0
      exact .inr (.inr (mk ⟨_, _, rfl, e0, q.1, q.2.1, q.2.2⟩))
    · exact q.elim
  · exact q.elim

/-! ### methods of lists -/
abbrev RMW := W → List W → Me → WK → Prop
def upM (B : Kx) (r : RMW) : V → List V → Hp → VK → Prop := fun x xs H Q => ∃ wx ws M Qw, Rep B.K H wx x ∧ Reps B.K H ws xs ∧ Mo B H M ∧ r wx ws M Qw ∧ ∀ w M' v H', Qw w M' → Go H M H' M' → Rep B.K H' w v → Mo B H' M' → Q v H'
theorem MtR_imp {id : String} {r r' : V → List V → Hp → VK → Prop} (h : MtR X id r) (i : ∀ x xs H Q, r' x xs H Q → r x xs H Q) : MtR X id r' := fun pins s σ H x xs v us Q I rx rs q => h pins s σ H x xs v us Q I rx rs (i x xs H Q q)
def rApp : RMW := fun x ws M Q => match x, ws with
  | .ref a, [w] => match M a with
    | some (.lst xs) => xs.length < sizeLine ∧ Q .non (put M a (.lst (xs ++ [w])))
    | _ => False
  | _, _ => False
theorem w_app : MtR X "list.append" (upM X.kx rApp) := MtR_imp mt_append fun x vs H Q ⟨wx, ws, M, Qw, rx, rs, m, q, k⟩ => by
  unfold rApp at q
  split at q
  · rename_i a w
    split at q
    · rename_i xs e
      obtain ⟨us, h1, r1⟩ := m a _ e
      obtain ⟨y, r, e2, ry, rn⟩ := rs.uncons
      have e3 := rn.unnil
      subst e2 e3
      have g : GoH H (upd H a (.lst (us ++ [y]))) := GoH.write h1 (fun _ z => nomatch z) (fun _ _ z => nomatch z)
      exact ⟨a, us, y, un_ref rx, rfl, h1, by rw [r1.length]; exact q.1, k _ _ _ _ q.2 (Go.put g e) rep_non (m.put g ⟨_, upd_same, (r1.go g).append (.cons (ry.go g) .nil)⟩)⟩
    · exact q.elim
  · exact q.elim
def rExt : RMW := fun x ws M Q => match x, ws with
  | .ref a, [.ref b] => match M a, M b with
    | some (.lst xs), some (.lst ys) => xs.length + ys.length ≤ sizeLine ∧ Q .non (put M a (.lst (xs ++ ys)))
    | _, _ => False
  | _, _ => False
theorem w_ext : MtR X "list.extend" (upM X.kx rExt) := MtR_imp mt_extend fun x vs H Q ⟨wx, ws, M, Qw, rx, rs, m, q, k⟩ => by
  unfold rExt at q
  split at q
  · rename_i a b
    split at q
    · rename_i xs ys e e'
      obtain ⟨us, h1, r1⟩ := m a _ e
      obtain ⟨zs, h2, r2⟩ := m b _ e'
      obtain ⟨y, r, e2, ry, rn⟩ := rs.uncons
      have e3 := rn.unnil
      have e4 := un_ref ry
      subst e2 e3 e4
      have g : GoH H (upd H a (.lst (us ++ zs))) := GoH.write h1 (fun _ z => nomatch z) (fun _ _ z => nomatch z)
      exact ⟨a, b, us, zs, un_ref rx, rfl, h1, h2, by rw [r1.length, r2.length]; exact q.1, k _ _ _ _ q.2 (Go.put g e) rep_non (m.put g ⟨_, upd_same, (r1.go g).append (r2.go g)⟩)⟩
    · exact q.elim
  · exact q.elim
/-- pop(), pop(i) -/
def rPop : RMW := fun x ws M Q => match x, ws with
  | .ref a, [] => match M a with
    | some (.lst xs) => match xs[xs.length - 1]? with
      | some w => Q w (put M a (.lst xs.dropLast))
      | none => False
    | _ => False
  | .ref a, [.int i] => match M a with
    | some (.lst xs) => (-(2 ^ 63) ≤ i ∧ i < 2 ^ 63) ∧ match seqIndex? i xs.length with
      | some j => match xs[j]? with
        | some w => Q w (put M a (.lst (xs.eraseIdx j)))
        | none => False
      | none => False
    | _ => False
  | _, _ => False
theorem w_pop : MtR X "list.pop" (upM X.kx rPop) := MtR_imp (MtR.or mt_pop mt_popAt) fun x vs H Q ⟨wx, ws, M, Qw, rx, rs, m, q, k⟩ => by
  unfold rPop at q
  split at q
  · rename_i a
    split at q
    · rename_i xs e
      split at q
      · rename_i w e'
        obtain ⟨us, h1, r1⟩ := m a _ e
        obtain ⟨y, h2, ry⟩ := r1.get e'
        have g : GoH H (upd H a (.lst us.dropLast)) := GoH.write h1 (fun _ z => nomatch z) (fun _ _ z => nomatch z)
        exact .inl ⟨a, us, y, un_ref rx, rs.unnil, h1, by rw [r1.length]; exact h2, k _ _ _ _ q (Go.put g e) (ry.go g) (m.put g ⟨_, upd_same, (r1.go g).dropLast⟩)⟩
      · exact q.elim
    · exact q.elim
  · rename_i a i
    split at q
    · rename_i xs e
      obtain ⟨hb, q⟩ := q
      split at q
      · rename_i j ej
        split at q
        · rename_i w e'
          obtain ⟨us, h1, r1⟩ := m a _ e
          obtain ⟨y, h2, ry⟩ := r1.get e'
          obtain ⟨z, r, e2, rz, rn⟩ := rs.uncons
          have e3 := rn.unnil
          have e4 := un_int rz
          subst e2 e3 e4
          have g : GoH H (upd H a (.lst (us.eraseIdx j))) := GoH.write h1 (fun _ z => nomatch z) (fun _ _ z => nomatch z)
          exact .inr ⟨a, us, i, j, y, un_ref rx, rfl, h1, hb.1, hb.2, by rw [r1.length]; exact ej, h2, k _ _ _ _ q (Go.put g e) (ry.go g) (m.put g ⟨_, upd_same, (r1.go g).eraseIdx j⟩)⟩
        · exact q.elim
      · exact q.elim
    · exact q.elim
  · exact q.elim
def rClr : RMW := fun x ws M Q => match x, ws with
  | .ref a, [] => match M a with
    | some (.lst xs) => Q .non (put M a (.lst []))
    | _ => False
  | _, _ => False
end
section
variable {Y : Cy} {o e : Expr} {es : List Expr} {name : Str} {apos cpos : Pos} {id : String} {r : RMW}
/-- a list's method with arguments, without -/
def wMt (r : RMW) (t : WE) (u : WA) : WE := fun ρ M Q => t ρ M fun x M1 => match x with
  | .ref a => (rdl (M1 a)).isSome = true ∧ u ρ M1 fun ws M2 => r (.ref a) ws M2 Q
  | _ => False
def wMt0 (r : RMW) (t : WE) : WE := fun ρ M Q => t ρ M fun x M1 => match x with
  | .ref a => (rdl (M1 a)).isSome = true ∧ r (.ref a) [] M1 Q
  | _ => False
theorem q_mt {t : WE} {u : WA} (slot : Slot "list" name id) (hty : typeOf (.builtin id) = pure (.type "method_descriptor")) (hm : MtR Y.X id (upM Y.X.kx r)) (ho : QE Y o t) (ha : QA Y (e :: es) u)
    (hbase : attributeBase o name Y.X.env (eval o Y.X.env) = eval o Y.X.env := by rfl)
    (hfew : ((backTo cpos (starEach (e :: es) Y.X.env)).all (fun x => !x.1) && (backToKw cpos (keywordEach [] Y.X.env)).all (fun x => x.1.isSome) && decide ((e :: es).length + ([] : List Keyword).length + (if ([] : List Keyword).isEmpty then 0 else 1) < 30)) = true := by rfl)
    (hline : (apos.endLine == cpos.line) = true := by rfl) (hs : starEach (e :: es) Y.X.env = (false, eval e Y.X.env) :: starEach es Y.X.env := by rfl) (hplain : (backTo cpos (starEach es Y.X.env)).any (·.1) = false := by rfl) :
    QE Y (.Call (.Attribute o name apos) (e :: es) [] cpos) (wMt r t u) :=
  PE_imp (pe_bm PySem.F.plainAttrs_list slot hty hm ho ha hbase hfew hline hs hplain) fun σ H Q ⟨ρ, M, Qw, so, q, k⟩ => ⟨ρ, M, _, so, q, fun wx M1 vx H1 q1 g1 r1 m1 => by
    split at q1
    · rename_i a
      obtain ⟨hr, q1⟩ := q1
      obtain ⟨xs, hx⟩ := Option.isSome_iff_exists.mp hr
      obtain ⟨vs, sq, _⟩ := rdl_sq m1 hx
      have e := un_ref r1
      subst e
      exact ⟨.inl ⟨rfl, vs, sq⟩, ρ, M1, _, so.step g1 m1, q1, fun ws M2 us H2 q2 g2 rs m2 => ⟨.ref a, ws, M2, Qw, rep_ref, rs, m2, q2, fun w M' v H' q g r m => k w M' v H' q ((g1.trans g2).trans g) r m⟩⟩
    · exact q1.elim⟩
theorem q_mt0 {t : WE} (slot : Slot "list" name id) (hty : typeOf (.builtin id) = pure (.type "method_descriptor")) (hm : MtR Y.X id (upM Y.X.kx r)) (ho : QE Y o t)
    (hbase : attributeBase o name Y.X.env (eval o Y.X.env) = eval o Y.X.env := by rfl) (hline : (apos.endLine == cpos.line) = true := by rfl) :
    QE Y (.Call (.Attribute o name apos) [] [] cpos) (wMt0 r t) :=
  PE_imp (pe_bm0 PySem.F.plainAttrs_list slot hty hm ho hbase hline) fun σ H Q ⟨ρ, M, Qw, so, q, k⟩ => ⟨ρ, M, _, so, q, fun wx M1 vx H1 q1 g1 r1 m1 => by
    split at q1
    · rename_i a
      obtain ⟨hr, q1⟩ := q1
      obtain ⟨xs, hx⟩ := Option.isSome_iff_exists.mp hr
      obtain ⟨vs, sq, _⟩ := rdl_sq m1 hx
      have e := un_ref r1
      subst e
      exact ⟨.inl ⟨rfl, vs, sq⟩, .ref a, [], M1, Qw, rep_ref, Reps.nil, m1, q1, fun w M' v H' q g r m => k w M' v H' q (g1.trans g) r m⟩
    · exact q1.elim⟩
end

/-! ### built-ins -/
section
variable {X : Cx} {B : Kx} {K : PySem.W.Frag} {H : Hp} {M : Me}
theorem args1 {w : W} {vs : List V} (r : Reps K H [w] vs) : ∃ v, vs = [v] ∧ Rep K H w v := by
  obtain ⟨v, vr, e, h1, h2⟩ := r.uncons
  rw [h2.unnil] at e
  exact ⟨v, e, h1⟩
theorem args2 {w x : W} {vs : List V} (r : Reps K H [w, x] vs) : ∃ v u, vs = [v, u] ∧ Rep K H w v ∧ Rep K H x u := by
  obtain ⟨v, vr, e, h1, h2⟩ := r.uncons
  obtain ⟨u, e2, h3⟩ := args1 h2
  rw [e2] at e
  exact ⟨v, u, e, h1, h3⟩
def rLen : RLW := fun ws M Q => match ws with
  | [.tup xs] => Q (.int (xs.length : Int)) M
  | [.str z] => z.length ≤ sizeLine ∧ Q (.int (z.length : Int)) M
  | [.cl xs] => Q (.int (xs.length : Int)) M
  | [.ref a] => match rdl (M a) with
    | some xs => Q (.int (xs.length : Int)) M
    | none => False
  | _ => False
theorem w_len : CallW X (.builtin "len") rLen := CallR_imp call_len fun xs H Q ⟨ws, M, Qw, rs, m, q, k⟩ => by
  unfold rLen at q
  split at q
  · obtain ⟨v, e, r⟩ := args1 rs
    subst e
    obtain ⟨a, vs, e, s, r2⟩ := r.untup
    subst e
    exact ⟨_, vs.length, rfl, .inr ⟨vs, s, rfl⟩, by rw [r2.length]; exact k _ M _ H q (Go.refl _ _) rep_int m⟩
  · obtain ⟨v, e, r⟩ := args1 rs
    subst e
    have e := un_str r
    subst e
    exact ⟨_, _, rfl, ⟨q.1, rfl⟩, k _ M _ H q.2 (Go.refl _ _) rep_int m⟩
  · obtain ⟨v, e, r⟩ := args1 rs
    subst e
    obtain ⟨a, vs, e, s, r2⟩ := r.uncl
    subst e
    exact ⟨_, vs.length, rfl, .inl ⟨vs, s.sq, rfl⟩, by rw [r2.length]; exact k _ M _ H q (Go.refl _ _) rep_int m⟩
  · obtain ⟨v, e, r⟩ := args1 rs
    subst e
    have e := un_ref r
    subst e
    split at q
    · rename_i e
      obtain ⟨vs, s, r2⟩ := rdl_sq m e
      exact ⟨_, vs.length, rfl, .inl ⟨vs, s, rfl⟩, by rw [r2.length]; exact k _ M _ H q (Go.refl _ _) rep_int m⟩
    · exact q.elim
  · exact q.elim
def rAbs : RLW := fun ws M Q => match ws with
  | [.int i] => Q (.int (i.natAbs : Int)) M
  | _ => False
theorem w_abs : CallW X (.builtin "abs") rAbs := CallR_imp call_abs fun xs H Q ⟨ws, M, Qw, rs, m, q, k⟩ => by
  unfold rAbs at q
  split at q
  · rename_i i
    obtain ⟨v, e, r⟩ := args1 rs
    subst e
    have e := un_int r
    subst e
    refine ⟨i, rfl, ?_⟩
    have e : (if i < 0 then -i else i) = (i.natAbs : Int) := by split <;> omega
    rw [e]
    exact k _ M _ H q (Go.refl _ _) rep_int m
  · exact q.elim
def rMax2W : RLW := fun ws M Q => match ws with
  | [.int i, .int j] => Q (.int (max i j)) M
  | _ => False
def rMin2W : RLW := fun ws M Q => match ws with
  | [.int i, .int j] => Q (.int (min i j)) M
  | _ => False
theorem w_max2 (hc : X.calm = true) : CallW X (.builtin "max") rMax2W := CallR_imp (call_max2 hc) fun xs H Q ⟨ws, M, Qw, rs, m, q, k⟩ => by
  unfold rMax2W at q
  split at q
  · rename_i i j
    obtain ⟨v, u, e, r1, r2⟩ := args2 rs
    have e1 := un_int r1
    have e2 := un_int r2
    subst e e1 e2
    refine ⟨i, j, rfl, ?_⟩
    have e : (if j > i then j else i) = max i j := by rw [Int.max_def]; split <;> split <;> omega
    rw [e]
    exact k _ M _ H q (Go.refl _ _) rep_int m
  · exact q.elim
theorem w_min2 (hc : X.calm = true) : CallW X (.builtin "min") rMin2W := CallR_imp (call_min2 hc) fun xs H Q ⟨ws, M, Qw, rs, m, q, k⟩ => by
  unfold rMin2W at q
  split at q
  · rename_i i j
    obtain ⟨v, u, e, r1, r2⟩ := args2 rs
    have e1 := un_int r1
    have e2 := un_int r2
    subst e e1 e2
    refine ⟨i, j, rfl, ?_⟩
    have e : (if j < i then j else i) = min i j := by rw [Int.min_def]; split <;> split <;> omega
    rw [e]
    exact k _ M _ H q (Go.refl _ _) rep_int m
  · exact q.elim
def b2i (b : Bool) : Int := if b then 1 else 0
def rInt : RLW := fun ws M Q => match ws with
  | [.int i] => Q (.int i) M
  | [.bl b] => Q (.int (b2i b)) M
  | _ => False
theorem w_int : CallW X (.type "int") rInt := CallR_imp call_int1 fun xs H Q ⟨ws, M, Qw, rs, m, q, k⟩ => by
  unfold rInt at q
  split at q
  · obtain ⟨v, e, r⟩ := args1 rs
    have e1 := un_int r
    subst e e1
    exact .inl ⟨_, rfl, k _ M _ H q (Go.refl _ _) rep_int m⟩
  · obtain ⟨v, e, r⟩ := args1 rs
    have e1 := un_bl r
    subst e e1
    exact .inr ⟨_, rfl, k _ M _ H q (Go.refl _ _) rep_int m⟩
  · exact q.elim
/-- tuple(x), list(x) of lists and tuples -/
def rTup : RLW := fun ws M Q => match ws with
  | [.tup xs] => Q (.tup xs) M
  | [.ref a] => match rdl (M a) with
    | some xs => Q (.tup xs) M
    | none => False
  | _ => False
theorem w_tup : CallW X (.type "tuple") rTup := CallR_imp call_tuple_of fun xs H Q ⟨ws, M, Qw, rs, m, q, k⟩ => by
  unfold rTup at q
  split at q
  · obtain ⟨v, e, r⟩ := args1 rs
    subst e
    obtain ⟨a, vs, e, s, r2⟩ := r.untup
    subst e
    exact ⟨a, vs, rfl, .inr ⟨s, k _ M _ H q (Go.refl _ _) (Rep.tup s r2) m⟩⟩
  · obtain ⟨v, e, r⟩ := args1 rs
    subst e
    have e := un_ref r
    subst e
    split at q
    · rename_i e
      obtain ⟨vs, s, r2⟩ := rdl_sq m e
      exact ⟨_, vs, rfl, .inl ⟨s, fun l hl => k _ M _ _ q (Go.same (sameNew hl)) (Rep.tup (SqT.of upd_same) (r2.go (GoH.new hl))) (m.new hl)⟩⟩
    · exact q.elim
  · exact q.elim
def rLst : RLW := fun ws M Q => match ws with
  | [.tup xs] => ∀ p, M p = none → Q (.ref p) (put M p (.lst xs))
  | [.cl xs] => ∀ p, M p = none → Q (.ref p) (put M p (.lst xs))
  | [.ref a] => match rdl (M a) with
    | some xs => ∀ p, M p = none → Q (.ref p) (put M p (.lst xs))
    | none => False
  | _ => False
theorem w_lst : CallW X (.type "list") rLst := CallR_imp call_list_of fun xs H Q ⟨ws, M, Qw, rs, m, q, k⟩ => by
  have fin : ∀ {ys : List W} {vs : List V} {l : Addr}, Reps X.K H ys vs → H l = none → (∀ p, M p = none → Qw (.ref p) (put M p (.lst ys))) → Q (.ref l) (upd H l (.lst vs)) := fun {ys vs l} r hl q =>
    k _ _ _ _ (q l (m.free hl)) (Go.new hl) rep_ref (m.put (GoH.new hl) ⟨vs, upd_same, r.go (GoH.new hl)⟩)
  unfold rLst at q
  split at q
  · obtain ⟨v, e, r⟩ := args1 rs
    subst e
    obtain ⟨a, vs, e, s, r2⟩ := r.untup
    subst e
    exact ⟨a, vs, rfl, .inr s, fun l hl => fin r2 hl q⟩
  · obtain ⟨v, e, r⟩ := args1 rs
    subst e
    obtain ⟨a, vs, e, s, r2⟩ := r.uncl
    subst e
    exact ⟨a, vs, rfl, .inl s.sq, fun l hl => fin r2 hl q⟩
  · obtain ⟨v, e, r⟩ := args1 rs
    subst e
    have e := un_ref r
    subst e
    split at q
    · rename_i e
      obtain ⟨vs, s, r2⟩ := rdl_sq m e
      exact ⟨_, vs, rfl, .inl s, fun l hl => fin r2 hl q⟩
    · exact q.elim
  · exact q.elim
/-- all(list of truths) -/
def rAll2 : RLW := fun ws M Q => match ws with
  | [.ref a] => ∃ bs : List Bool, rdl (M a) = some (bs.map W.bl) ∧ Q (.bl (bs.all fun b => b)) M
  | _ => False
theorem bls_rep : ∀ {bs : List Bool} {vs : List V}, Reps K H (bs.map W.bl) vs → vs = bs.map V.bl
  | [], _, r => r.unnil
  | b :: bs, vs, r => by
    obtain ⟨v, vr, e, h1, h2⟩ := r.uncons
    rw [e, un_bl h1, bls_rep h2]; rfl
theorem w_all (hc : X.calm = true) : CallW X (.builtin "all") rAll2 := CallR_imp (cr_all hc) fun xs H Q ⟨ws, M, Qw, rs, m, q, k⟩ => by
  unfold rAll2 at q
  split at q
  · obtain ⟨v, e, r⟩ := args1 rs
    subst e
    have e := un_ref r
    subst e
    obtain ⟨bs, h, q⟩ := q
    obtain ⟨vs, s, r2⟩ := rdl_sq m h
    rw [bls_rep r2] at s
    exact ⟨_, bs, rfl, s, k _ M _ H q (Go.refl _ _) rep_bl m⟩
  · exact q.elim
/-- sum(list of whole numbers) -/
def rSum2 : RLW := fun ws M Q => match ws with
  | [.ref a] => ∃ ns : List Int, rdl (M a) = some (ns.map W.int) ∧ Q (.int ns.sum) M
  | _ => False
theorem w_sum (hc : X.calm = true) : CallW X (.builtin "sum") rSum2 := CallR_imp (cr_sum hc) fun xs H Q ⟨ws, M, Qw, rs, m, q, k⟩ => by
  unfold rSum2 at q
  split at q
  · obtain ⟨v, e, r⟩ := args1 rs
    subst e
    have e := un_ref r
    subst e
    obtain ⟨ns, h, q⟩ := q
    obtain ⟨vs, s, r2⟩ := rdl_sq m h
    rw [r2.ints] at s
    exact ⟨_, ns, rfl, s, k _ M _ H q (Go.refl _ _) rep_int m⟩
  · exact q.elim
/-- sorted(list of whole numbers), sorted(dict by whole numbers: below 64) -/
def rSorted2 : RLW := fun ws M Q => match ws with
  | [.ref a] => (∃ ns : List Int, rdl (M a) = some (ns.map W.int) ∧ ∀ ns' : List Int, ns'.Perm ns → ns'.Pairwise (· ≤ ·) → ∀ p, M p = none → Q (.ref p) (put M p (.lst (ns'.map W.int)))) ∨
    (∃ (kvs : List (Key × W)) (ks : List Int), rdK (M a) = some kvs ∧ kvs.map (·.1) = ks.map Sum.inl ∧ ks.length < 64 ∧ ∀ ns' : List Int, ns'.Perm ks → ns'.Pairwise (· ≤ ·) → ∀ p, M p = none → Q (.ref p) (put M p (.lst (ns'.map W.int))))
  | _ => False
theorem w_sorted (hc : X.calm = true) : CallW X (.builtin "sorted") rSorted2 := CallR_imp (CallR.or cr_sortedI (call_sortedDI hc)) fun xs H Q ⟨ws, M, Qw, rs, m, q, k⟩ => by
  unfold rSorted2 at q
  split at q
  · obtain ⟨v, e, r⟩ := args1 rs
    subst e
    have e := un_ref r
    subst e
    rcases q with ⟨ns, h, q⟩ | ⟨kvs, ks, h, e1, h2, q⟩
    · obtain ⟨vs, s, r2⟩ := rdl_sq m h
      rw [r2.ints] at s
      refine .inl ⟨_, ns, rfl, s, fun ns' p h1 h2 hp => ?_⟩
      exact k _ _ _ _ (q ns' h1 h2 p (m.free hp)) (Go.new hp) rep_ref (m.put (GoH.new hp) ⟨_, upd_same, Reps.of_ints⟩)
    · obtain ⟨xs, rd, p⟩ := rdK_rd m h
      have e2 : xs.map (·.1) = kvs.map (·.1) := by
        clear rd h e1 q
        induction p with
        | nil => rfl
        | cons r _ ih => rw [List.map_cons, List.map_cons, ih, r.1]
      refine .inr ⟨_, xs, ks, rfl, rd, e2.trans e1, h2, fun ns' p h1 h2 hp => ?_⟩
      exact k _ _ _ _ (q ns' h1 h2 p (m.free hp)) (Go.new hp) rep_ref (m.put (GoH.new hp) ⟨_, upd_same, Reps.of_ints⟩)
  · exact q.elim
end

/-! ### isinstance, a new dict, module constants -/
inductive Tn where
  | int | bool | str | tuple | list | dict
def Tn.nm : Tn → String
  | .int => "int" | .bool => "bool" | .str => "str" | .tuple => "tuple" | .list => "list" | .dict => "dict"
def Tn.has : Tn → W → Option Ob → Option Bool
  | .int, .int _, _ => some true
  | .int, .bl _, _ => some true
  | .bool, .bl _, _ => some true
  | .str, .str _, _ => some true
  | .tuple, .tup _, _ => some true
  | .list, .ref _, some (.lst _) => some true
  | .list, .cl _, _ => some true
  | .dict, .ref _, some (.dK _) => some true
  | .dict, .ref _, some (.lkK _) => some true
  | _, .ref _, some (.lst _) => some false
  | _, .ref _, some (.dK _) => some false
  | _, .ref _, some (.lkK _) => some false
  | _, .ref _, _ => none
  | _, _, _ => some false
end PV
set_option maxHeartbeats 1000000
/-! PV: isinstance, new dicts, constants of the module. -/
namespace PV
open PySem PySem.Spec PyProof.Rows L2

section
variable {Y : Cy} {e : Expr} {pos p p2 : Pos} {K : PySem.W.Frag} {H : Hp} {B : Kx} {M : Me}
def obOf (M : Me) : W → Option Ob
  | .ref a => M a
  | _ => none
def wIsi (T : Tn) (t : WE) : WE := fun ρ M Q => t ρ M fun x M1 => match T.has x (obOf M1 x) with
  | some b => Q (.bl b) M1
  | none => False
theorem ty_tup {ws : List W} {v : V} (r : Rep K H (.tup ws) v) : TyX K H v (.type "tuple") := by
  obtain ⟨a, vs, e, s, _⟩ := r.untup
  subst e
  rcases s with (h | ⟨o, h⟩) | ⟨o, its, n, h1, h2, _⟩
  · exact .base (.tup h)
  · exact .fTuple h
  · exact .kTuple h1 h2
/-- a value's type by its form -/
def tyN : W → Option Ob → Option String
  | .non, _ => some "NoneType"
  | .bl _, _ => some "bool"
  | .int _, _ => some "int"
  | .str _, _ => some "str"
  | .tup _, _ => some "tuple"
  | .ref _, some (.lst _) => some "list"
  | .cl _, _ => some "list"
  | .ref _, some (.dK _) => some "dict"
  | .ref _, some (.lkK _) => some "dict"
  | .ref _, _ => none
theorem ty_of {w : W} {v : V} {n : String} (m : Mo B H M) (r : Rep B.K H w v) (h : tyN w (obOf M w) = some n) : TyX B.K H v (.type n) := by
  cases w with
  | non => cases h; rw [un_non r]; exact .base .non
  | bl b => cases h; rw [un_bl r]; exact .base (.bl b)
  | int i => cases h; rw [un_int r]; exact .base (.int i)
  | str x => cases h; rw [un_str r]; exact .base (.str x)
  | tup ws => cases h; exact ty_tup r
  | cl ws =>
    cases h
    obtain ⟨a, vs, e, s, _⟩ := r.uncl
    subst e
    rcases s with ⟨o, s⟩ | ⟨o, its, n, h1, h2, _⟩
    · exact .base (.frz s)
    · exact .kList h1 h2
  | ref a =>
    rw [un_ref r]
    cases e : M a with
    | none => simp only [obOf, e, tyN] at h; cases h
    | some o =>
      simp only [obOf, e] at h
      cases o with
      | lst xs =>
        cases h
        obtain ⟨vs, h1, _⟩ := m a _ e
        exact .base (.lst h1)
      | dK xs =>
        cases h
        obtain ⟨vs, h1, _⟩ := m a _ e
        exact .base (.dK h1)
      | lkK xs =>
        cases h
        obtain ⟨o, vs, h1, _⟩ := m a _ e
        exact .fDict h1
      | _ => cases h
def kitN (n : String) (T : Tn) : Bool := n == T.nm || (n == "bool" && T.nm == "int")
theorem kit_all (T : Tn) : kitB "NoneType" T.nm = some (kitN "NoneType" T) ∧ kitB "bool" T.nm = some (kitN "bool" T) ∧ kitB "int" T.nm = some (kitN "int" T) ∧ kitB "str" T.nm = some (kitN "str" T) ∧
    kitB "tuple" T.nm = some (kitN "tuple" T) ∧ kitB "list" T.nm = some (kitN "list" T) ∧ kitB "dict" T.nm = some (kitN "dict" T) := by
  cases T <;> decide +kernel
theorem has_kit {T : Tn} {w : W} {o : Option Ob} {b : Bool} (h : T.has w o = some b) : ∃ n, tyN w o = some n ∧ kitB n T.nm = some b := by
  obtain ⟨k1, k2, k3, k4, k5, k6, k7⟩ := kit_all T
  cases w with
  | non => refine ⟨_, rfl, ?_⟩; cases T <;> cases h <;> exact k1
  | bl x => refine ⟨_, rfl, ?_⟩; cases T <;> cases h <;> exact k2
  | int x => refine ⟨_, rfl, ?_⟩; cases T <;> cases h <;> exact k3
  | str x => refine ⟨_, rfl, ?_⟩; cases T <;> cases h <;> exact k4
  | tup x => refine ⟨_, rfl, ?_⟩; cases T <;> cases h <;> exact k5
  | cl x => refine ⟨_, rfl, ?_⟩; cases T <;> cases h <;> exact k6
  | ref a =>
    cases o with
    | none => cases T <;> cases h
    | some o =>
      cases o with
      | lst x => refine ⟨_, rfl, ?_⟩; cases T <;> cases h <;> exact k6
      | dK x => refine ⟨_, rfl, ?_⟩; cases T <;> cases h <;> exact k7
      | lkK x => refine ⟨_, rfl, ?_⟩; cases T <;> cases h <;> exact k7
      | _ => cases T <;> cases h
theorem q_isi {x : Str} (T : Tn) {t : WE} (h : QE Y e t) (hg : Gl Y.X "isinstance") (hm : Y.X.mg "isinstance" = none) (hgT : Gl Y.X x) (hmT : Y.X.mg x = none) (hv : bootBuiltins x = some (.type T.nm) := by decide +kernel) (hn : x ≠ "__name__" := by decide)
    (hdb : (x == ("__debug__" : Str)) = false := by decide) (hs : starEach [e, .Name x p2] Y.X.env = (false, eval e Y.X.env) :: starEach [.Name x p2] Y.X.env := by rfl) (hs2 : starEach [.Name x p2] Y.X.env = (false, eval (.Name x p2) Y.X.env) :: starEach [] Y.X.env := by rfl)
    (hpl : (backTo pos (starEach [.Name x p2] Y.X.env)).any (·.1) = false := by rfl) :
    QE Y (.Call (.Name "isinstance" p) [e, .Name x p2] [] pos) (wIsi T t) :=
  PE_imp (pe_callB (id := "isinstance") call_isi hg hm (by decide +kernel) (pa_cons h (pa_cons (pe_bltn (v := .ty T.nm) hgT hmT hv rfl hn hdb) pa_nil hs2) hs) (by decide) (by decide) hs hpl) fun σ H Q ⟨ρ, M, Qw, so, q, k⟩ => ⟨ρ, M, _, so, q, fun w M1 v H1 q1 g r m => by
    split at q1
    · rename_i b e
      obtain ⟨n, h1, h2⟩ := has_kit e
      exact ⟨v, .ty T.nm, .type n, .type T.nm, b, rfl, .ty _, ty_of m r h1, kit_ty h2, k _ M1 _ H1 q1 g rep_bl m⟩
    · exact q1.elim⟩
def wNewK : WE := fun _ M Q => ∀ p, M p = none → Q (.ref p) (put M p (.dK []))
def wNewN : WE := fun _ M Q => ∀ p, M p = none → Q (.ref p) (put M p (.dN []))
theorem q_newK : QE Y (.Dict [] [] pos) wNewK := PE_imp pe_dnewK fun σ H Q ⟨ρ, M, Qw, so, q, k⟩ => fun p hp => k _ _ _ _ (q p (so.mo.free hp)) (Go.new hp) rep_ref (so.mo.put (GoH.new hp) ⟨[], upd_same, .nil⟩)
theorem pe_newN {X : Cx} : PE X (.Dict [] [] pos) (fun _ H Q => ∀ p, H p = none → (p == sysModules) = false → Q (.ref p) (upd H p (.ext (DRaw p #[])))) := ⟨fun pins s σ H Q I h => by
  have nb : (s.heap.objs.size == sysModules) = false := beq_eq_false_iff_ne.mpr (Nat.ne_of_gt I.big)
  have hn : H s.heap.objs.size = none := I.hok.fresh (Nat.le_refl _)
  refine wpAny_Dict_empty ⟨.ref s.heap.objs.size, upd H s.heap.objs.size (.ext (DRaw s.heap.objs.size #[])), I.laid (t' := s.toks) (fun b u e => Heap.get?_push_of_some _ e) (Nat.le_refl _) ?_, rfl, h _ hn nb⟩
  have hd : DRaw s.heap.objs.size #[] (s.heap.push { cls := .type "dict", data := .dict #[] }) := ⟨_, 0, Heap.get?_push_size _ rfl, ⟨rfl, rfl, rfl⟩, rfl⟩
  exact ⟨hd, ⟨_, Heap.get?_push_size _ rfl⟩, fun h1 h2 ⟨o2, ep2, z1, z2⟩ st => ⟨o2, ep2, st _ z1, z2⟩⟩⟩
theorem q_newN : QE Y (.Dict [] [] pos) wNewN := PE_imp pe_newN fun σ H Q ⟨ρ, M, Qw, so, q, k⟩ => fun p hp hs =>
  k _ _ _ _ (q p (so.mo.free hp)) (Go.new hp) rep_ref (so.mo.put (GoH.new hp) ⟨#[], upd_same, hs, ⟨Nat.zero_le _, [], .nil, rfl, List.nodup_nil⟩⟩)
/-- a constant of the module -/
theorem q_glob {x : Str} {v : V} {w : W} {u : Value} (hg : Gl Y.X x) (hm : Y.X.mg x = some u) (rv : RelV v u) (r : ∀ H, Rep Y.X.K H w v) (hd : (x == ("__debug__" : Str)) = false := by decide) : QE Y (.Name x pos) (wC w) := q_const (pe_glob hg hm rv hd) r
theorem q_globI {x : Str} {i : Int} (hm : ∃ t, Y.X.mg x = some (.int i t)) (hg : Gl Y.X x := by rfl) (hd : (x == ("__debug__" : Str)) = false := by decide) : QE Y (.Name x pos) (wC (.int i)) := hm.elim fun t hm => q_glob (v := .int i) hg hm ⟨_, rfl⟩ (fun _ => rep_int) hd
theorem q_globS {x z : Str} (hm : ∃ t, Y.X.mg x = some (.str z t)) (hg : Gl Y.X x := by rfl) (hd : (x == ("__debug__" : Str)) = false := by decide) : QE Y (.Name x pos) (wC (.str z)) := hm.elim fun t hm => q_glob (v := .str z) hg hm ⟨_, rfl⟩ (fun _ => rep_str) hd
theorem q_chain {op op' : CmpOp} {r r' : R2W} {a b c : Expr} {ta tb tc : WE} (ho : OpW Y.X (compareOp op) r) (ho' : OpW Y.X (compareOp op') r') (ha : QE Y a ta) (hb : QE Y b tb) (hc : QE Y c tc)
    (hm : lastMarks [op, op'] [b, c] = false := by with_unfolding_all rfl) : QE Y (.Compare a [op, op'] [b, c] pos) (wChain r r' ta tb tc) := PE_imp (pe_chain ho ho' ha hb hc hm) fun _ _ _ h => up_chain h
theorem qt_chain {op op' : CmpOp} {r r' : R2W} {a b c : Expr} {ta tb tc : WE} (ho : OpW Y.X (compareOp op) r) (ho' : OpW Y.X (compareOp op') r') (ha : QE Y a ta) (hb : QE Y b tb) (hc : QE Y c tc)
    (hm : lastMarks [op, op'] [b, c] = false := by with_unfolding_all rfl) : QT Y (.Compare a [op, op'] [b, c] pos) (wB (wChain r r' ta tb tc)) := PT_imp (pt_chain ho ho' ha hb hc hm) fun σ H Q ⟨ρ, M, Qw, so, q, k⟩ =>
  up_chain (Q := fun v H1 => ∃ k, v = .bl k ∧ Q k H1) ⟨ρ, M, _, so, q, fun w M1 v H1 q1 g r m => by
    split at q1
    · exact ⟨_, un_bl r, k _ M1 H1 q1 g m⟩
    · exact q1.elim⟩
end
end PV
set_option maxHeartbeats 1000000
/-! PV: loops in use, the law's end. -/
namespace PV
open PySem PySem.Spec PyProof.Rows L2

section
variable {f : ItW} {g : WG} {tt : WT} {te : WE} {tb : WS} {D : Eds} {ρ : En} {M : Me} {Q : WK} {vs : List Nat}
/-- what a turn is to reach -/
abbrev nxt (D : Eds) (I : En → Me → Prop) : Eds := { D with nx := fun ρ' M' => ∃ M0, Sub M0 M' ∧ I ρ' M0, ct := fun ρ' M' => ∃ M0, Sub M0 M' ∧ I ρ' M0, bk := D.nx }
theorem for_c {ws : List W} (I : Nat → En → Me → Prop) (h0 : I 0 ρ M) (hs : ∀ i w ρ M, ws[i]? = some w → I i ρ M → g w ρ M (tb (nxt D (I (i + 1))))) (hd : ∀ ρ M, I ws.length ρ M → D.nx ρ M) : wForB (fun _ => some ws) g tb D ρ M :=
  ⟨fun i ρ M => i ≤ ws.length ∧ I i ρ M, ws.length, ⟨Nat.zero_le _, h0⟩, fun i ρ M h => h.1, fun i ρ M ⟨hi, h⟩ => ⟨ws, rfl, fun w hw => by
    have hl : i + 1 ≤ ws.length := (List.getElem?_eq_some_iff.mp hw).1
    have z := hs i w ρ M hw h
    have e : (fun i => (fun ρ' (M' : Me) => ∃ M0, Sub M0 M' ∧ I i ρ' M0)) = fun i => fun ρ' M' => ∃ M0, Sub M0 M' ∧ I i ρ' M0 := rfl
    have e2 : (fun (ρ' : En) (M' : Me) => ∃ M0, Sub M0 M' ∧ I (i + 1) ρ' M0) = fun ρ' M' => ∃ M0, Sub M0 M' ∧ (i + 1 ≤ ws.length ∧ I (i + 1) ρ' M0) := by
      funext ρ' M'
      exact propext ⟨fun ⟨M0, a, b⟩ => ⟨M0, a, hl, b⟩, fun ⟨M0, a, _, b⟩ => ⟨M0, a, b⟩⟩
    unfold nxt at z
    rw [e2] at z
    exact z, fun hl => hd ρ M (by
      have e : i = ws.length := by omega
      rw [← e]; exact h)⟩⟩
theorem for_l {a : Addr} {ws : List W} (I : Nat → En → Me → Prop) (h0 : I 0 ρ M) (hl : ∀ i ρ M, I i ρ M → M a = some (.lst ws)) (hs : ∀ i w ρ M, ws[i]? = some w → I i ρ M → g w ρ M (tb (nxt D (I (i + 1))))) (hd : ∀ ρ M, I ws.length ρ M → D.nx ρ M) : wForB (fun M => rdl (M a)) g tb D ρ M :=
  ⟨fun i ρ M => i ≤ ws.length ∧ I i ρ M, ws.length, ⟨Nat.zero_le _, h0⟩, fun i ρ M h => h.1, fun i ρ M ⟨hi, h⟩ => ⟨ws, by show rdl (M a) = some ws; rw [hl i ρ M h]; rfl, fun w hw => by
    have hl : i + 1 ≤ ws.length := (List.getElem?_eq_some_iff.mp hw).1
    have z := hs i w ρ M hw h
    have e2 : (fun (ρ' : En) (M' : Me) => ∃ M0, Sub M0 M' ∧ I (i + 1) ρ' M0) = fun ρ' M' => ∃ M0, Sub M0 M' ∧ (i + 1 ≤ ws.length ∧ I (i + 1) ρ' M0) := by
      funext ρ' M'
      exact propext ⟨fun ⟨M0, a, b⟩ => ⟨M0, a, hl, b⟩, fun ⟨M0, a, _, b⟩ => ⟨M0, a, b⟩⟩
    unfold nxt at z
    rw [e2] at z
    exact z, fun hl => hd ρ M (by
      have e : i = ws.length := by omega
      rw [← e]; exact h)⟩⟩
theorem rngW_len (lo hi : Int) : (rngW lo hi).length = (hi - lo).toNat := by unfold rngW; rw [List.length_map, List.length_range]
theorem rngW_get {lo hi : Int} {i : Nat} {w : W} (h : (rngW lo hi)[i]? = some w) : w = .int (lo + (i : Int)) ∧ (i : Int) < hi - lo := by
  unfold rngW at h
  rw [List.getElem?_map] at h
  by_cases hl : i < (hi - lo).toNat
  · rw [List.getElem?_range hl] at h
    exact ⟨(by simpa using h.symm), by omega⟩
  · rw [List.getElem?_eq_none (by simpa using hl)] at h; cases h
/-- over range(lo, hi) -/
theorem for_r {lo hi : Int} (I : Nat → En → Me → Prop) (h0 : I 0 ρ M) (hs : ∀ (i : Nat) ρ M, (i : Int) < hi - lo → I i ρ M → g (.int (lo + (i : Int))) ρ M (tb (nxt D (I (i + 1))))) (hd : ∀ ρ M, I (hi - lo).toNat ρ M → D.nx ρ M) : wForB (fun _ => some (rngW lo hi)) g tb D ρ M :=
  for_c I h0 (fun i w ρ M hw h => by
    obtain ⟨e, hl⟩ := rngW_get hw
    rw [e]
    exact hs i ρ M hl h) (fun ρ M h => hd ρ M (by rw [rngW_len] at h; exact h))
/-- a while -/
theorem while_w {c : WT} (I : Nat → En → Me → Prop) (m : Nat) (h0 : I m ρ M) (hs : ∀ m ρ M, I m ρ M → c ρ M fun x M1 => match x with
    | true => tb (nxt D (fun ρ' M' => ∃ m', m' < m ∧ I m' ρ' M')) ρ M1
    | false => D.nx ρ M1) : wWhile c tb D ρ M := ⟨I, ⟨m, h0⟩, hs⟩

/-! comprehensions -/
theorem lc_c {ws : List W} (hz : ws.length ≤ 16000000) (I : Nat → List W → Me → Prop) (h0 : I 0 [] M)
    (hs : ∀ i acc w M, ws[i]? = some w → I i acc M → g w (wWipe ρ vs) M fun ρ2 M2 => tt ρ2 M2 fun b M3 => match b with
      | true => te ρ2 M3 fun y M4 => ∃ M0, Sub M0 M4 ∧ I (i + 1) (acc ++ [y]) M0
      | false => ∃ M0, Sub M0 M3 ∧ I (i + 1) acc M0) (hd : ∀ acc M, I ws.length acc M → ∀ p, M p = none → Q (.ref p) (put M p (.lst acc))) : wLcB (fun _ => some ws) g tt te vs ρ M Q := by
  refine ⟨fun i acc M => i ≤ ws.length ∧ acc.length ≤ i ∧ I i acc M, ws.length, ⟨Nat.zero_le _, Nat.le_refl _, h0⟩, fun i acc M h => h.1, fun i acc M ⟨hi, ha, h⟩ => ⟨?_, ws, rfl, fun w hw => ?_, fun hl => hd acc M (by
      have e : i = ws.length := by omega
      rw [← e]; exact h)⟩⟩
  · have : (16777216 : Nat) = sizeLine := sizeLine_eq.symm
    omega
  · have hl : i + 1 ≤ ws.length := (List.getElem?_eq_some_iff.mp hw).1
    have z := hs i acc w M hw h
    have e1 : ∀ (y : W) (M4 : Me), (∃ M0, Sub M0 M4 ∧ I (i + 1) (acc ++ [y]) M0) = ∃ M0, Sub M0 M4 ∧ (i + 1 ≤ ws.length ∧ (acc ++ [y]).length ≤ i + 1 ∧ I (i + 1) (acc ++ [y]) M0) := fun y M4 =>
      propext ⟨fun ⟨M0, a, b⟩ => ⟨M0, a, hl, by rw [List.length_append]; simp; omega, b⟩, fun ⟨M0, a, _, _, b⟩ => ⟨M0, a, b⟩⟩
    have e2 : ∀ (M3 : Me), (∃ M0, Sub M0 M3 ∧ I (i + 1) acc M0) = ∃ M0, Sub M0 M3 ∧ (i + 1 ≤ ws.length ∧ acc.length ≤ i + 1 ∧ I (i + 1) acc M0) := fun M3 =>
      propext ⟨fun ⟨M0, a, b⟩ => ⟨M0, a, hl, by omega, b⟩, fun ⟨M0, a, _, _, b⟩ => ⟨M0, a, b⟩⟩
    simp only [e1, e2] at z
    exact z
theorem lc_l {a : Addr} {ws : List W} (hz : ws.length ≤ 16000000) (I : Nat → List W → Me → Prop) (h0 : I 0 [] M) (hr : ∀ i acc M, I i acc M → M a = some (.lst ws))
    (hs : ∀ i acc w M, ws[i]? = some w → I i acc M → g w (wWipe ρ vs) M fun ρ2 M2 => tt ρ2 M2 fun b M3 => match b with
      | true => te ρ2 M3 fun y M4 => ∃ M0, Sub M0 M4 ∧ I (i + 1) (acc ++ [y]) M0
      | false => ∃ M0, Sub M0 M3 ∧ I (i + 1) acc M0) (hd : ∀ acc M, I ws.length acc M → ∀ p, M p = none → Q (.ref p) (put M p (.lst acc))) : wLcB (fun M => rdl (M a)) g tt te vs ρ M Q := by
  refine ⟨fun i acc M => i ≤ ws.length ∧ acc.length ≤ i ∧ I i acc M, ws.length, ⟨Nat.zero_le _, Nat.le_refl _, h0⟩, fun i acc M h => h.1, fun i acc M ⟨hi, ha, h⟩ => ⟨?_, ws, by show rdl (M a) = some ws; rw [hr i acc M h]; rfl, fun w hw => ?_, fun hl => hd acc M (by
      have e : i = ws.length := by omega
      rw [← e]; exact h)⟩⟩
  · have : (16777216 : Nat) = sizeLine := sizeLine_eq.symm
    omega
  · have hl : i + 1 ≤ ws.length := (List.getElem?_eq_some_iff.mp hw).1
    have z := hs i acc w M hw h
    have e1 : ∀ (y : W) (M4 : Me), (∃ M0, Sub M0 M4 ∧ I (i + 1) (acc ++ [y]) M0) = ∃ M0, Sub M0 M4 ∧ (i + 1 ≤ ws.length ∧ (acc ++ [y]).length ≤ i + 1 ∧ I (i + 1) (acc ++ [y]) M0) := fun y M4 =>
      propext ⟨fun ⟨M0, a, b⟩ => ⟨M0, a, hl, by rw [List.length_append]; simp; omega, b⟩, fun ⟨M0, a, _, _, b⟩ => ⟨M0, a, b⟩⟩
    have e2 : ∀ (M3 : Me), (∃ M0, Sub M0 M3 ∧ I (i + 1) acc M0) = ∃ M0, Sub M0 M3 ∧ (i + 1 ≤ ws.length ∧ acc.length ≤ i + 1 ∧ I (i + 1) acc M0) := fun M3 =>
      propext ⟨fun ⟨M0, a, b⟩ => ⟨M0, a, hl, by omega, b⟩, fun ⟨M0, a, _, _, b⟩ => ⟨M0, a, b⟩⟩
    simp only [e1, e2] at z
    exact z
theorem filter_take {ws : List W} {i : Nat} {w : W} {p : W → Bool} {v : W → W} (h : ws[i]? = some w) : ((ws.take (i + 1)).filter p).map v = ((ws.take i).filter p).map v ++ (if p w = true then [v w] else []) := by
  have e : ws.take (i + 1) = ws.take i ++ [w] := by rw [List.take_succ, h]; rfl
  rw [e, List.filter_append, List.map_append]
  by_cases hp : p w = true
  · rw [if_pos hp, List.filter_cons, if_pos hp]; rfl
  · rw [if_neg hp, List.filter_cons, if_neg hp]; rfl
/-- the block changes nothing -/
theorem lc_fm {ws : List W} (hf : f M = some ws) (hz : ws.length ≤ 16000000) (p : W → Bool) (v : W → W)
    (hs : ∀ (i : Nat) (w : W), ws[i]? = some w → ∀ (R : WK) (R0 : Me → Prop), (p w = true → ∀ M4, Sub M M4 → R (v w) M4) → (p w = false → ∀ M3, Sub M M3 → R0 M3) →
      g w (wWipe ρ vs) M fun ρ2 M2 => tt ρ2 M2 fun b M3 => match b with
      | true => te ρ2 M3 R
      | false => R0 M3) (hd : ∀ q, M q = none → Q (.ref q) (put M q (.lst ((ws.filter p).map v)))) : wLcB f g tt te vs ρ M Q := by
  refine ⟨fun i acc M' => M' = M ∧ i ≤ ws.length ∧ acc = ((ws.take i).filter p).map v, ws.length, ⟨rfl, Nat.zero_le _, by simp⟩, fun i acc M h => h.2.1, fun i acc M' ⟨e, hi, ha⟩ => ⟨?_, ws, by rw [e]; exact hf, fun w hw => ?_, fun hl => ?_⟩⟩
  · have : (16777216 : Nat) = sizeLine := sizeLine_eq.symm
    have h1 : acc.length ≤ i := by
      rw [ha, List.length_map]
      have := List.length_filter_le p (ws.take i)
      rw [List.length_take] at this
      omega
    omega
  · subst e
    have hl : i + 1 ≤ ws.length := (List.getElem?_eq_some_iff.mp hw).1
    have ft := filter_take (p := p) (v := v) hw
    exact hs i w hw _ _ (fun hp M4 s => ⟨M', s, rfl, hl, by rw [ft, if_pos hp, ha]⟩) (fun hp M3 s => ⟨M', s, rfl, hl, by rw [ft, if_neg (by rw [hp]; exact Bool.false_ne_true), ha, List.append_nil]⟩)
  · subst e
    have e2 : acc = (ws.filter p).map v := by
      rw [ha]
      have : i = ws.length := by omega
      rw [this, List.take_length]
    rw [e2]
    exact hd
/-- .. and keeps all -/
theorem lc_m {ws : List W} (hf : f M = some ws) (hz : ws.length ≤ 16000000) (v : W → W)
    (hs : ∀ (i : Nat) (w : W), ws[i]? = some w → ∀ (R : WK), (∀ M4, Sub M M4 → R (v w) M4) → g w (wWipe ρ vs) M fun ρ2 M2 => te ρ2 M2 R) (hd : ∀ q, M q = none → Q (.ref q) (put M q (.lst (ws.map v)))) : wLcB f g wYes te vs ρ M Q :=
  lc_fm hf hz (fun _ => true) v (fun i w hw R R0 h1 _ => hs i w hw R (h1 rfl)) (by rw [show ws.filter (fun _ => true) = ws from List.filter_eq_self.mpr (fun _ _ => rfl)]; exact hd)
end
/-! ### draws: a list of whole numbers that is used up -/
theorem put_none {M : Me} {a b : Addr} {o : Ob} : put M a o b = none ↔ b ≠ a ∧ M b = none := by
  unfold put
  by_cases h : b = a
  · simp [h]
  · simp [h]
/-- all but a as it was (new things aside), at a a list of whole numbers -/
def DrS (a : Addr) (M M' : Me) : Prop := (∀ b o, b ≠ a → M b = some o → M' b = some o) ∧ ∃ ds : List Int, M' a = some (.lst (ds.map W.int))
section
variable {a p : Addr} {M M' : Me} {o : Ob} {ds : List Int}
theorem DrS.refl (h : M a = some (.lst (ds.map W.int))) : DrS a M M := ⟨fun _ _ _ h => h, ds, h⟩
theorem DrS.step (h : DrS a M M') : DrS a M (put M' a (.lst (ds.map W.int))) := ⟨fun b o n e => by rw [put_ne n]; exact h.1 b o n e, ds, put_same⟩
theorem DrS.new (h : DrS a M M') (n : M' p = none) : DrS a M (put M' p o) := ⟨fun b u ne e => put_old (h.1 b u ne e) n, h.2.elim fun ds e => ⟨ds, put_old e n⟩⟩
theorem DrS.trans {M2 : Me} (h : DrS a M M') (h2 : DrS a M' M2) : DrS a M M2 := ⟨fun b o n e => h2.1 b o n (h.1 b o n e), h2.2⟩
/-- a local thing changes -/
theorem DrS.loc {u : Ob} (h : DrS a M M') (n : M p = none) (ne : p ≠ a) : DrS a M (put M' p u) := ⟨fun b x nb e => by
  rw [put_ne (fun z => by rw [z, n] at e; cases e)]; exact h.1 b x nb e, h.2.elim fun ds e => ⟨ds, by rw [put_ne (Ne.symm ne)]; exact e⟩⟩
theorem DrS.sub (h : DrS a M M') : ∃ ds : List Int, Sub (put M a (.lst (ds.map W.int))) M' := by
  obtain ⟨h1, ds, h2⟩ := h
  refine ⟨ds, fun b o e => ?_⟩
  by_cases n : b = a
  · subst n; rw [put_same] at e; cases e; exact h2
  · rw [put_ne n] at e; exact h1 b o n e
end
/-! ### places of short lists -/
section
variable {α : Type} {a b c d e : α} {r : List α}
theorem atI_of {xs : List α} {i : Int} {v : α} (h0 : 0 ≤ i) (h : xs[i.toNat]? = some v) : atI xs i = some v := by
  have h1 := atI_nat h
  rw [Int.toNat_of_nonneg h0] at h1
  exact h1
theorem atI_0 : atI (a :: r) 0 = some a := atI_of (by decide) rfl
theorem atI_1 : atI (a :: b :: r) 1 = some b := atI_of (by decide) rfl
theorem atI_2 : atI (a :: b :: c :: r) 2 = some c := atI_of (by decide) rfl
theorem atI_3 : atI (a :: b :: c :: d :: r) 3 = some d := atI_of (by decide) rfl
theorem atI_4 : atI (a :: b :: c :: d :: e :: r) 4 = some e := atI_of (by decide) rfl
theorem atI_m1 : atI [a] (-1) = some a := rfl
theorem atI_m2 : atI [a, b] (-1) = some b := rfl
theorem atI_m3 : atI [a, b, c] (-1) = some c := rfl
theorem atI_m4 : atI [a, b, c, d] (-1) = some d := rfl
theorem atI_m5 : atI [a, b, c, d, e] (-1) = some e := rfl
end
theorem cut_1 {a : W} {r : List W} : cutW (a :: r) (some 1) none = r := by
  unfold cutW
  rw [show HT.sIx (a :: r).length 0 (some 1) = min 1 (a :: r).length from HT.sIx_nat _ 0 1, HT.sIx_none, List.length_cons, show min 1 (r.length + 1) = 1 by omega]
  show List.take (r.length + 1 - 1) r = r
  rw [Nat.add_sub_cancel, List.take_length]
theorem sIx_n (n d k : Nat) : HT.sIx n d (some (k : Int)) = min k n := HT.sIx_nat n d k
/-- xs[:k], xs[k:] -/
theorem cut_to {xs : List W} (k : Nat) : cutW xs none (some (k : Int)) = xs.take k := by
  unfold cutW
  rw [sIx_n, HT.sIx_none, List.drop_zero, Nat.sub_zero, List.take_eq_take_iff]
  omega
theorem cut_from {xs : List W} (k : Nat) : cutW xs (some (k : Int)) none = xs.drop k := by
  unfold cutW
  rw [sIx_n, HT.sIx_none]
  by_cases h : k ≤ xs.length
  · rw [Nat.min_eq_left h, List.take_of_length_le (by rw [List.length_drop]; omega)]
  · rw [Nat.min_eq_right (by omega), List.drop_length, List.drop_eq_nil_of_le (by omega)]
    simp
theorem rdl_l {xs : List W} : rdl (some (.lst xs)) = some xs := rfl
theorem wst1 {N : List Str} {a : W} : wStart N [a] = some a :: List.replicate (N.length - 1) none := rfl
theorem wst2 {N : List Str} {a b : W} : wStart N [a, b] = some a :: some b :: List.replicate (N.length - 2) none := rfl
theorem wst3 {N : List Str} {a b c : W} : wStart N [a, b, c] = some a :: some b :: some c :: List.replicate (N.length - 3) none := rfl
theorem wst4 {N : List Str} {a b c d : W} : wStart N [a, b, c, d] = some a :: some b :: some c :: some d :: List.replicate (N.length - 4) none := rfl
theorem wst5 {N : List Str} {a b c d e : W} : wStart N [a, b, c, d, e] = some a :: some b :: some c :: some d :: some e :: List.replicate (N.length - 5) none := rfl
/-! ### the law's end -/
/-- the promise of a law -/
def spLaw : PSp := fun ws _ Q _ => ∃ ns : List Int, ws = [.cl (ns.map W.int)] ∧ ns.length ≤ 63 ∧ (∀ z ∈ ns, Builtin.Int.intBits z ≤ 1048576) ∧ ∀ M', Q (.bl true) M'
def spEnd (K : PySem.W.Frag) : Sp := fun vs H Q _ => ∃ (a : Addr) (ns : List Int), vs = [.ref a] ∧ SqL K H a (ns.map V.int) ∧ Only H ∧ ns.length ≤ 63 ∧ (∀ z ∈ ns, Builtin.Int.intBits z ≤ 1048576) ∧ ∀ H', Q (.bl true) H'
theorem end_of {P : Program} {w : World} {K : PySem.W.Frag} {mg : Str → Option Value} {base : Heap} {k : Nat} {f : Addr} {fd : FuncData} (F : FnOk P w K mg base CX0 k f fd ["script"] (upSp ⟨P, w, K⟩ spLaw)) : FnOk P w K mg base CX0 k f fd ["script"] (spEnd K) :=
  F.imp fun vs H Q E ⟨a, ns, e, s, ho, h1, h2, q⟩ => by
    have c : Cl K H a (ns.map V.int) := by
      rcases s with (h | ⟨o, h⟩) | h
      · rcases ho a with z | ⟨o, xs, z⟩
        · rw [h] at z; cases z
        · rw [h] at z; cases z
      · exact .inl ⟨o, h⟩
      · exact .inr h
    refine ⟨[.cl (ns.map W.int)], fun _ => none, fun w _ => w = .bl true, fun _ _ => False, ?_, fun b o z => (nomatch z), ⟨ns, rfl, h1, h2, fun _ => rfl⟩, fun w M' v H' hw _ r _ => ?_, fun _ _ _ z => z.elim⟩
    · rw [e]
      refine .cons ?_ .nil
      unfold Rep
      exact ⟨a, _, rfl, c, Reps.of_ints⟩
    · subst hw
      rw [un_bl r]
      exact q H'
theorem walkB {l : PySem.W.OpenLaw} {k : Nat} {q : Program} {loose : List Str} {XP : (Str → Option Value) → Heap → Prop} {YP : World → Heap → Prop} {d : DefRec} {K : Params → PySem.W.Frag}
    (hn : l.most = some 63) (hdf : d.params.defaults = []) (hr : Room k callerA) (hY : ∀ (w : World) (h : Heap), YP w h → (K w.params).In h)
    (F : ∀ (w : World) (mg : Str → Option Value) (fa : Addr) (h : Heap), (K w.params).In h → h.Ns mainGlobals mg → mg d.name = some (.ref fa) →
      ∃ fd : FuncData, (∀ (s : Shared) (u : Value), BindsTo s fd ⟨[u], []⟩ [("script", u)]) ∧ ∀ base : Heap, (K w.params).In base → base.Ns mainGlobals mg → FnOk l.prog w (K w.params) mg base CX0 k fa fd ["script"] (upSp ⟨l.prog, w, K w.params⟩ spLaw)) :
    PySem.W.WalkO q loose XP YP l.row.toRowW d [] (fun f vs => PySem.call f vs) :=
  L2.walk_ofB (n := 63) (k := k) (x := "script") (CX := fun _ => CX0) (sp := fun w => spEnd (K w.params)) hn (by decide) hdf hr hY
    (fun w mg fa h X G e => by
      obtain ⟨fd, h1, h2⟩ := F w mg fa h X G e
      exact ⟨fd, h1, fun base X G => end_of (h2 base X G)⟩)
    (fun _ _ a ns hl hb ho hS => ⟨a, ns, rfl, hS, ho, hl, hb, fun _ => rfl⟩) fun _ _ _ _ _ z => z
/-- a def of the top: where it stands and what it is -/
theorem top_fn {K : PySem.W.Frag} {h : Heap} {mg : Str → Option Value} (X : K.In h) (G : h.Ns mainGlobals mg) {x : Str} {st : Stmt} {f : Addr} {oc : Value} {od an : Option Addr} {osl : Array (Option Value)} {kV dc pm cd ct : Value}
    (a : PySem.W.nsIn K mainGlobals x = some (some (.ref f))) (l : K.lookup f = some ⟨oc, od, .func (PySem.W.fnOf x x (defArgs st) (defBody st) (defScope st) .none kV dc pm an cd ct), osl⟩) (c : PySem.W.codeIn K cd x = true) (k : PySem.W.keepIn K (.ref f) = true) :
    mg x = some (.ref f) ∧ PySem.W.keepIn K (.ref f) = true ∧ Fun K x x st f (PySem.W.fnOf x x (defArgs st) (defBody st) (defScope st) .none kV dc pm an cd ct) :=
  ⟨PySem.W.mg_of X G a, k, fun_mk (st := st) l c k⟩
end PV
set_option maxHeartbeats 1000000
/-! PV: stepping. -/
namespace PV
open PySem PySem.Spec PyProof.Rows L2
inductive Tg {κ : Type _} (k : κ) : Type where
  | mk | mk2
/-- simp keeps off k -/
def lz {κ : Type _} (P : κ → Prop) (k : κ) (_ : Tg k) : Prop := P k
def brn (b : Bool) (pq : Prop × Prop) : Prop := match b with
  | true => pq.1
  | false => pq.2
theorem brn_t {P Q : Prop} {tg : Tg (P, Q)} : lz (brn true) (P, Q) tg = P := propext Iff.rfl
theorem brn_f {P Q : Prop} {tg : Tg (P, Q)} : lz (brn false) (P, Q) tg = Q := propext Iff.rfl
theorem brn_dec {p : Prop} [Decidable p] {P Q : Prop} {tg : Tg (P, Q)} (h1 : p → P) (h2 : ¬ p → Q) : lz (brn (decide p)) (P, Q) tg := by
  by_cases h : p
  · rw [decide_eq_true h]; exact h1 h
  · rw [decide_eq_false h]; exact h2 h
theorem brn_i {b : Bool} {P Q : Prop} {tg : Tg (P, Q)} (h1 : b = true → P) (h2 : b = false → Q) : lz (brn b) (P, Q) tg := by
  cases b
  · exact h2 rfl
  · exact h1 rfl
def gt {α : Type} (o : Option α) (k : α → Prop) : Prop := match o with
  | some w => k w
  | none => False
theorem gt_some {α : Type} {w : α} {k : α → Prop} {tg : Tg k} : lz (gt (some w)) k tg = k w := propext Iff.rfl
theorem gt_of {α : Type} {o : Option α} {k : α → Prop} {tg : Tg k} {w : α} (h : o = some w) (q : k w) : lz (gt o) k tg := by rw [h]; exact q
def onB (x : W) (k : Bool → Prop) : Prop := match x with
  | .bl b => k b
  | _ => False
theorem onB_b {b : Bool} {k : Bool → Prop} {tg : Tg k} : lz (onB (.bl b)) k tg = k b := propext Iff.rfl
def frs (o : Ob) (M : Me) (k : WK) : Prop := ∀ p, M p = none → k (.ref p) (put M p o)
def spc (sp : PSp) (ws : List W) (M : Me) (Q : WK) : Prop := sp ws M Q noX
section
variable {t u : WT} {ta tb tc : WE} {r r' : R2W} {sp : PSp} {wa : WA} {s1 s2 : WS} {D : Eds} {ρ : En} {M : Me} {Q : WK} {QB : Bool → Me → Prop} {R : ItW → Me → Prop} {tgQ : Tg Q} {tgR : Tg R}
theorem s_and : wAnd t u ρ M QB = t ρ M fun x M1 => lz (brn x) (u ρ M1 QB, QB false M1) .mk := propext Iff.rfl
theorem s_or : wOr t u ρ M QB = t ρ M fun x M1 => lz (brn x) (QB true M1, u ρ M1 QB) .mk := propext Iff.rfl
theorem s_andV : wAndV ta tb ρ M Q = ta ρ M fun x M1 => lz (onB x) (fun b => lz (brn b) (tb ρ M1 Q, Q (.bl false) M1) .mk) .mk := by
  unfold wAndV; congr; funext x M1; cases x <;> try rfl
  rename_i b; cases b <;> rfl
theorem s_orV : wOrV ta tb ρ M Q = ta ρ M fun x M1 => lz (onB x) (fun b => lz (brn b) (Q (.bl true) M1, tb ρ M1 Q) .mk) .mk := by
  unfold wOrV; congr; funext x M1; cases x <;> try rfl
  rename_i b; cases b <;> rfl
theorem s_notV : wNotV ta ρ M Q = ta ρ M fun x M1 => lz (onB x) (fun b => Q (.bl (!b)) M1) .mk := propext Iff.rfl
theorem s_B : wB ta ρ M QB = ta ρ M fun x M1 => lz (onB x) (fun b => QB b M1) .mk := propext Iff.rfl
theorem s_if : wIf t ta tb ρ M Q = t ρ M fun x M1 => lz (brn x) (ta ρ M1 Q, tb ρ M1 Q) .mk := propext Iff.rfl
theorem s_ifS : wIfS t s1 s2 D ρ M = t ρ M fun x M1 => lz (brn x) (s1 D ρ M1, s2 D ρ M1) .mk := propext Iff.rfl
theorem s_chain : wChain r r' ta tb tc ρ M Q = ta ρ M fun x M1 => tb ρ M1 fun y M2 => lz (r x y M2) (fun z M3 => lz (onB z) (fun b => lz (brn b) (tc ρ M3 fun u M4 => lz (r' y u M4) Q .mk, Q (.bl false) M3) .mk) .mk) .mk := by
  unfold wChain; congr; funext x M1; congr; funext y M2; congr; funext z M3; cases z <;> try rfl
  rename_i b; cases b <;> rfl
theorem s_fn : wFn sp wa ρ M Q = wa ρ M fun ws M1 => lz (spc sp ws M1) Q .mk := propext Iff.rfl
def itS (x : W) (M : Me) (R : ItW → Me → Prop) : Prop := match x with
  | .tup ws => R (fun _ => some ws) M
  | .cl ws => R (fun _ => some ws) M
  | .ref a => (rdl (M a)).isSome = true ∧ R (fun M => rdl (M a)) M
  | _ => False
def tg1 (n : Nat) (w : W) (k : List W → Prop) : Prop := match w with
  | .tup ws => ws.length = n ∧ k ws
  | _ => False
theorem tg1_t {n : Nat} {ws : List W} {k : List W → Prop} {tg : Tg k} : lz (tg1 n (.tup ws)) k tg = (ws.length = n ∧ k ws) := propext Iff.rfl
theorem s_gtup {n : Nat} {gs : WGs} {w : W} {QE : En → Me → Prop} : wgTup n gs w ρ M QE = lz (tg1 n w) (fun ws => gs ws ρ M QE) .mk := propext Iff.rfl
theorem s_seq : wSeq s1 s2 D ρ M = s1 { D with nx := s2 D } ρ M := propext Iff.rfl
theorem s_next : wNext D ρ M = D.nx ρ M := propext Iff.rfl
theorem s_ret : wRet ta D ρ M = ta ρ M D.rt := propext Iff.rfl
theorem s_retN : wRetN D ρ M = D.rt .non M := propext Iff.rfl
theorem s_drop : wDrop ta D ρ M = ta ρ M fun _ M1 => D.nx ρ M1 := propext Iff.rfl
theorem s_set {i : Nat} : wSet i ta D ρ M = ta ρ M fun w M1 => D.nx (ρ.set i (some w)) M1 := propext Iff.rfl
theorem s_asg {g : WG} : wAsg ta g D ρ M = ta ρ M fun w M1 => g w ρ M1 D.nx := propext Iff.rfl
theorem s_gname {i : Nat} {w : W} {QE : En → Me → Prop} : wgName i w ρ M QE = QE (ρ.set i (some w)) M := propext Iff.rfl
theorem s_gnil {QE : En → Me → Prop} : wgNil [] ρ M QE = QE ρ M := propext Iff.rfl
theorem s_gcons {g : WG} {gs : WGs} {w : W} {ws : List W} {QE : En → Me → Prop} : wgCons g gs (w :: ws) ρ M QE = g w ρ M fun ρ' M' => gs ws ρ' M' QE := propext Iff.rfl
def ov (o : Option (Option W)) (k : W → Prop) : Prop := match o with
  | some (some w) => k w
  | _ => False
theorem ov_some {w : W} {k : W → Prop} {tg : Tg k} : lz (ov (some (some w))) k tg = k w := propext Iff.rfl
theorem s_var {i : Nat} : wVar i ρ M Q = lz (ov ρ[i]?) (fun w => Q w M) .mk := by
  unfold wVar lz ov; rcases ρ[i]? with _ | _ | w <;> rfl
theorem s_aug {i : Nat} {r : R2W} : wAug i ta r D ρ M = lz (ov ρ[i]?) (fun x => ta ρ M fun y M1 => lz (r x y M1) (fun z M2 => D.nx (ρ.set i (some z)) M2) .mk) .mk := by
  unfold wAug lz ov; rcases ρ[i]? with _ | _ | w <;> rfl
def par2 (ws : List W) (k : W × W → Prop) : Prop := match ws with
  | [x, y] => k (x, y)
  | _ => False
theorem par2_e {x y : W} {k : W × W → Prop} {tg : Tg k} : lz (par2 [x, y]) k tg = k (x, y) := propext Iff.rfl
theorem s_par {i j : Nat} : wPar i j wa D ρ M = wa ρ M fun ws M1 => lz (par2 ws) (fun xy => D.nx ((ρ.set i (some xy.1)).set j (some xy.2)) M1) .mk := by
  unfold wPar; congr
theorem s_c {w : W} : wC w ρ M Q = Q w M := propext Iff.rfl
theorem s_not : wNot t ρ M QB = t ρ M fun x M1 => QB (!x) M1 := propext Iff.rfl
variable {QL : List W → Me → Prop}
theorem s_nil : wNil ρ M QL = QL [] M := propext Iff.rfl
theorem s_cons : wCons ta wa ρ M QL = ta ρ M fun x M1 => wa ρ M1 fun xs M2 => QL (x :: xs) M2 := propext Iff.rfl
theorem s_tup : wTup wa ρ M Q = wa ρ M fun ws M1 => ws.length ≤ sizeLine ∧ Q (.tup ws) M1 := propext Iff.rfl
theorem s_lst : wLst wa ρ M Q = wa ρ M fun ws M1 => ws.length ≤ sizeLine ∧ lz (frs (.lst ws) M1) Q .mk := propext Iff.rfl
theorem s_nopart {QO : Option Int → Me → Prop} : wNoPart ρ M QO = QO none M := propext Iff.rfl
theorem s_newK : wNewK ρ M Q = lz (frs (.dK []) M) Q .mk := propext Iff.rfl
theorem s_newN : wNewN ρ M Q = lz (frs (.dN []) M) Q .mk := propext Iff.rfl
theorem s_yes : wYes ρ M QB = QB true M := propext Iff.rfl
theorem s_for {wi : WI} {g : WG} : wFor wi g s1 D ρ M = wi ρ M fun f M1 => wForB f g s1 D ρ M1 := propext Iff.rfl
theorem s_lc {wi : WI} {g : WG} {te : WE} {vs : List Nat} : wLc wi g t te vs ρ M Q = wi ρ M fun f M1 => wLcB f g t te vs ρ M1 Q := propext Iff.rfl
theorem s_op {r : R2W} : wOp r ta tb ρ M Q = ta ρ M fun x M1 => tb ρ M1 fun y M2 => lz (r x y M2) Q .mk := propext Iff.rfl
theorem s_un {r : R1W} : wUn r ta ρ M Q = ta ρ M fun x M1 => lz (r x M1) Q .mk := propext Iff.rfl
theorem s_call {r : RLW} : wCall r wa ρ M Q = wa ρ M fun ws M1 => lz (r ws M1) Q .mk := propext Iff.rfl
theorem s_gsub {r : R3W} {w : W} {QE : En → Me → Prop} : wgSub ta tb r w ρ M QE = ta ρ M fun o M1 => tb ρ M1 fun i M2 => lz (r o i w M2) (fun M3 => QE ρ M3) .mk := propext Iff.rfl
theorem s_sl {tl th : WO} : wSl ta tl th ρ M Q = ta ρ M fun x M1 => tl ρ M1 fun l M2 => th ρ M2 fun u M3 => lz (rSl2 x l u M3) Q .mk := propext Iff.rfl
theorem s_seqI : wiSeq ta ρ M R = ta ρ M fun x M1 => lz (itS x M1) R .mk := propext Iff.rfl
theorem itS_tup {ws : List W} : lz (itS (.tup ws) M) R tgR = R (fun _ => some ws) M := propext Iff.rfl
theorem itS_cl {ws : List W} : lz (itS (.cl ws) M) R tgR = R (fun _ => some ws) M := propext Iff.rfl
theorem itS_ref {a : Addr} : lz (itS (.ref a) M) R tgR = ((rdl (M a)).isSome = true ∧ R (fun M => rdl (M a)) M) := propext Iff.rfl
def rgO (ws : List W) (M : Me) (R : ItW → Me → Prop) : Prop := match ws with
  | [.int j] => (-(2 ^ 62) ≤ j ∧ j < 2 ^ 62) ∧ R (fun _ => some (rngW 0 j)) M
  | _ => False
def rgT (ws : List W) (M : Me) (R : ItW → Me → Prop) : Prop := match ws with
  | [.int i, .int j] => (-(2 ^ 62) ≤ i ∧ i < 2 ^ 62 ∧ -(2 ^ 62) ≤ j ∧ j < 2 ^ 62) ∧ R (fun _ => some (rngW i j)) M
  | _ => False
theorem s_rng1 : wiRng1 wa ρ M R = wa ρ M fun ws M1 => lz (rgO ws M1) R .mk := propext Iff.rfl
theorem s_rng2 : wiRng2 wa ρ M R = wa ρ M fun ws M1 => lz (rgT ws M1) R .mk := propext Iff.rfl
/-- a bound that a range may have -/
def rgB (j : Int) : Prop := -(2 ^ 62) ≤ j ∧ j < 2 ^ 62
theorem rgB_of {j : Int} (h1 : -(2 ^ 60) ≤ j) (h2 : j ≤ 2 ^ 60) : rgB j := ⟨by omega, by omega⟩
theorem rgO_i {j : Int} : lz (rgO [.int j] M) R tgR = (rgB j ∧ R (fun _ => some (rngW 0 j)) M) := propext Iff.rfl
theorem rgT_i {i j : Int} : lz (rgT [.int i, .int j] M) R tgR = ((rgB i ∧ rgB j) ∧ R (fun _ => some (rngW i j)) M) := by
  show ((-(2 ^ 62) ≤ i ∧ i < 2 ^ 62 ∧ -(2 ^ 62) ≤ j ∧ j < 2 ^ 62) ∧ _) = (((-(2 ^ 62) ≤ i ∧ i < 2 ^ 62) ∧ (-(2 ^ 62) ≤ j ∧ j < 2 ^ 62)) ∧ _); rw [and_assoc (a := -(2 ^ 62) ≤ i ∧ i < 2 ^ 62)]; simp only [and_assoc]
def prt (x : W) (k : Option Int → Prop) : Prop := match x with
  | .int i => k (some i)
  | _ => False
theorem prt_i {i : Int} {k : Option Int → Prop} {tg : Tg k} : lz (prt (.int i)) k tg = k (some i) := propext Iff.rfl
theorem s_part {QO : Option Int → Me → Prop} : wPart ta ρ M QO = ta ρ M fun x M1 => lz (prt x) (fun i => QO i M1) .mk := propext Iff.rfl
def mtS (r : RMW) (x : W) (ρ : En) (u : WA) (M : Me) (Q : WK) : Prop := match x with
  | .ref a => (rdl (M a)).isSome = true ∧ u ρ M fun ws M2 => r (.ref a) ws M2 Q
  | _ => False
theorem s_mt {r : RMW} : wMt r ta wa ρ M Q = ta ρ M fun x M1 => lz (mtS r x ρ wa M1) Q .mk := propext Iff.rfl
theorem mtS_r {r : RMW} {a : Addr} : lz (mtS r (.ref a) ρ wa M) Q tgQ = ((rdl (M a)).isSome = true ∧ wa ρ M fun ws M2 => lz (r (.ref a) ws M2) Q .mk) := propext Iff.rfl
def mtZ (r : RMW) (x : W) (M : Me) (Q : WK) : Prop := match x with
  | .ref a => (rdl (M a)).isSome = true ∧ r (.ref a) [] M Q
  | _ => False
theorem s_mt0 {r : RMW} : wMt0 r ta ρ M Q = ta ρ M fun x M1 => lz (mtZ r x M1) Q .mk := propext Iff.rfl
theorem mtZ_r {r : RMW} {a : Addr} : lz (mtZ r (.ref a) M) Q tgQ = ((rdl (M a)).isSome = true ∧ lz (r (.ref a) [] M) Q .mk) := propext Iff.rfl
def isQ (T : Tn) (x : W) (o : Option Ob) (k : Bool → Prop) : Prop := match T.has x o with
  | some b => k b
  | none => False
theorem s_isi {T : Tn} : wIsi T ta ρ M Q = ta ρ M fun x M1 => lz (isQ T x (obOf M1 x)) (fun b => Q (.bl b) M1) .mk := propext Iff.rfl

variable {b : Bool} {i j : Int} {z z' : Str} {ws xs ys : List W} {o : Option Ob} {kb : Bool → Prop} {a a' : Addr} {x y v : W} {kk : List (Key × W)} {kn : List (W × W)} {tgB : Tg kb}
theorem isQ_int_non : lz (isQ .int .non o) kb tgB = kb false := propext Iff.rfl
theorem isQ_int_bl : lz (isQ .int (.bl b) o) kb tgB = kb true := propext Iff.rfl
theorem isQ_int_int : lz (isQ .int (.int i) o) kb tgB = kb true := propext Iff.rfl
theorem isQ_int_str : lz (isQ .int (.str z) o) kb tgB = kb false := propext Iff.rfl
theorem isQ_int_tup : lz (isQ .int (.tup ws) o) kb tgB = kb false := propext Iff.rfl
theorem isQ_int_l : lz (isQ .int (.ref a) (some (.lst ws))) kb tgB = kb false := propext Iff.rfl
theorem isQ_int_k : lz (isQ .int (.ref a) (some (.dK kk))) kb tgB = kb false := propext Iff.rfl
theorem isQ_bool_non : lz (isQ .bool .non o) kb tgB = kb false := propext Iff.rfl
theorem isQ_bool_bl : lz (isQ .bool (.bl b) o) kb tgB = kb true := propext Iff.rfl
theorem isQ_bool_int : lz (isQ .bool (.int i) o) kb tgB = kb false := propext Iff.rfl
theorem isQ_bool_str : lz (isQ .bool (.str z) o) kb tgB = kb false := propext Iff.rfl
theorem isQ_bool_tup : lz (isQ .bool (.tup ws) o) kb tgB = kb false := propext Iff.rfl
theorem isQ_bool_l : lz (isQ .bool (.ref a) (some (.lst ws))) kb tgB = kb false := propext Iff.rfl
theorem isQ_bool_k : lz (isQ .bool (.ref a) (some (.dK kk))) kb tgB = kb false := propext Iff.rfl
theorem isQ_str_non : lz (isQ .str .non o) kb tgB = kb false := propext Iff.rfl
theorem isQ_str_bl : lz (isQ .str (.bl b) o) kb tgB = kb false := propext Iff.rfl
theorem isQ_str_int : lz (isQ .str (.int i) o) kb tgB = kb false := propext Iff.rfl
theorem isQ_str_str : lz (isQ .str (.str z) o) kb tgB = kb true := propext Iff.rfl
theorem isQ_str_tup : lz (isQ .str (.tup ws) o) kb tgB = kb false := propext Iff.rfl
theorem isQ_str_l : lz (isQ .str (.ref a) (some (.lst ws))) kb tgB = kb false := propext Iff.rfl
theorem isQ_str_k : lz (isQ .str (.ref a) (some (.dK kk))) kb tgB = kb false := propext Iff.rfl
theorem isQ_tuple_non : lz (isQ .tuple .non o) kb tgB = kb false := propext Iff.rfl
theorem isQ_tuple_bl : lz (isQ .tuple (.bl b) o) kb tgB = kb false := propext Iff.rfl
theorem isQ_tuple_int : lz (isQ .tuple (.int i) o) kb tgB = kb false := propext Iff.rfl
theorem isQ_tuple_str : lz (isQ .tuple (.str z) o) kb tgB = kb false := propext Iff.rfl
theorem isQ_tuple_tup : lz (isQ .tuple (.tup ws) o) kb tgB = kb true := propext Iff.rfl
theorem isQ_tuple_l : lz (isQ .tuple (.ref a) (some (.lst ws))) kb tgB = kb false := propext Iff.rfl
theorem isQ_tuple_k : lz (isQ .tuple (.ref a) (some (.dK kk))) kb tgB = kb false := propext Iff.rfl
theorem isQ_list_non : lz (isQ .list .non o) kb tgB = kb false := propext Iff.rfl
theorem isQ_list_bl : lz (isQ .list (.bl b) o) kb tgB = kb false := propext Iff.rfl
theorem isQ_list_int : lz (isQ .list (.int i) o) kb tgB = kb false := propext Iff.rfl
theorem isQ_list_str : lz (isQ .list (.str z) o) kb tgB = kb false := propext Iff.rfl
theorem isQ_list_tup : lz (isQ .list (.tup ws) o) kb tgB = kb false := propext Iff.rfl
theorem isQ_list_l : lz (isQ .list (.ref a) (some (.lst ws))) kb tgB = kb true := propext Iff.rfl
theorem isQ_list_k : lz (isQ .list (.ref a) (some (.dK kk))) kb tgB = kb false := propext Iff.rfl
theorem isQ_dict_non : lz (isQ .dict .non o) kb tgB = kb false := propext Iff.rfl
theorem isQ_dict_bl : lz (isQ .dict (.bl b) o) kb tgB = kb false := propext Iff.rfl
theorem isQ_dict_int : lz (isQ .dict (.int i) o) kb tgB = kb false := propext Iff.rfl
theorem isQ_dict_str : lz (isQ .dict (.str z) o) kb tgB = kb false := propext Iff.rfl
theorem isQ_dict_tup : lz (isQ .dict (.tup ws) o) kb tgB = kb false := propext Iff.rfl
theorem isQ_dict_l : lz (isQ .dict (.ref a) (some (.lst ws))) kb tgB = kb false := propext Iff.rfl
theorem isQ_dict_k : lz (isQ .dict (.ref a) (some (.dK kk))) kb tgB = kb true := propext Iff.rfl
theorem add_i : lz (rAdd2 (.int i) (.int j) M) Q tgQ = Q (.int (i + j)) M := propext Iff.rfl
theorem add_s : lz (rAdd2 (.str z) (.str z') M) Q tgQ = (z.length + z'.length ≤ sizeLine ∧ Q (.str (z ++ z')) M) := propext Iff.rfl
theorem add_t : lz (rAdd2 (.tup xs) (.tup ys) M) Q tgQ = (xs.length + ys.length ≤ sizeLine ∧ Q (.tup (xs ++ ys)) M) := propext Iff.rfl
def addO (o o' : Option Ob) (M : Me) (Q : WK) : Prop := match o, o' with
    | some (.lst xs), some (.lst ys) => xs.length + ys.length ≤ sizeLine ∧ ∀ p, M p = none → Q (.ref p) (put M p (.lst (xs ++ ys)))
    | _, _ => False

theorem add_l : lz (rAdd2 (.ref a) (.ref a') M) Q tgQ = lz (addO (M a) (M a') M) Q .mk := propext Iff.rfl
theorem addO_l : lz (addO (some (.lst xs)) (some (.lst ys)) M) Q tgQ = (xs.length + ys.length ≤ sizeLine ∧ lz (frs (.lst (xs ++ ys)) M) Q .mk) := propext Iff.rfl
theorem sub_i : lz (rSub2 (.int i) (.int j) M) Q tgQ = Q (.int (i - j)) M := propext Iff.rfl
theorem mul_i : lz (rMul2 (.int i) (.int j) M) Q tgQ = (MulOk i j ∧ Q (.int (i * j)) M) := propext Iff.rfl
theorem mul_t : lz (rMul2 (.tup xs) (.int j) M) Q tgQ = ((j ≤ 1000 ∧ xs.length ≤ 1000 ∧ 2 ≤ j ∧ xs ≠ []) ∧ Q (.tup (List.replicate j.toNat xs).flatten) M) := propext Iff.rfl
def mulO (o : Option Ob) (k : Int) (M : Me) (Q : WK) : Prop := match o with
    | some (.lst xs) => (-(2 ^ 63) ≤ k ∧ k < 2 ^ 63 ∧ xs.length * k.toNat ≤ sizeLine) ∧ ∀ p, M p = none → Q (.ref p) (put M p (.lst (List.replicate k.toNat xs).flatten))
    | _ => False

theorem mul_l : lz (rMul2 (.ref a) (.int j) M) Q tgQ = lz (mulO (M a) j M) Q .mk := propext Iff.rfl
theorem mulO_l : lz (mulO (some (.lst xs)) j M) Q tgQ = ((-(2 ^ 63) ≤ j ∧ j < 2 ^ 63 ∧ xs.length * j.toNat ≤ sizeLine) ∧ lz (frs (.lst (List.replicate j.toNat xs).flatten) M) Q .mk) := propext Iff.rfl
theorem lt_i : lz (rLt2 (.int i) (.int j) M) Q tgQ = Q (.bl (decide (i < j))) M := propext Iff.rfl
theorem le_i : lz (rLe2 (.int i) (.int j) M) Q tgQ = Q (.bl (decide (i ≤ j))) M := propext Iff.rfl
theorem gt_i : lz (rGt2 (.int i) (.int j) M) Q tgQ = Q (.bl (decide (j < i))) M := propext Iff.rfl
theorem ge_i : lz (rGe2 (.int i) (.int j) M) Q tgQ = Q (.bl (decide (j ≤ i))) M := propext Iff.rfl
theorem is_n : lz (rIs2 x .non M) Q tgQ = Q (.bl (isN x)) M := propext Iff.rfl
theorem isnot_n : lz (rIsNot2 x .non M) Q tgQ = Q (.bl (!isN x)) M := propext Iff.rfl
theorem is_b : lz (rIs2 (.bl b) (.bl true) M) Q tgQ = Q (.bl (decide (b = true))) M := propext Iff.rfl
theorem is_bf : lz (rIs2 (.bl b) (.bl false) M) Q tgQ = Q (.bl (decide (b = false))) M := propext Iff.rfl
theorem isnot_b : lz (rIsNot2 (.bl b) (.bl true) M) Q tgQ = Q (.bl (!decide (b = true))) M := propext Iff.rfl
theorem isnot_bf : lz (rIsNot2 (.bl b) (.bl false) M) Q tgQ = Q (.bl (!decide (b = false))) M := propext Iff.rfl
theorem eq_i : lz (rEq2 (.int i) (.int j) M) Q tgQ = Q (.bl (decide (i = j))) M := propext Iff.rfl
theorem eq_s : lz (rEq2 (.str z) (.str z') M) Q tgQ = Q (.bl (decide (z = z'))) M := propext Iff.rfl
theorem eq_b {b c : Bool} : lz (rEq2 (.bl b) (.bl c) M) Q tgQ = Q (.bl (decide (b = c))) M := propext Iff.rfl
theorem eq_t : lz (rEq2 (.tup xs) (.tup ys) M) Q tgQ = ((flt (.tup xs) && flt (.tup ys)) = true ∧ Q (.bl (weq (.tup xs) (.tup ys))) M) := propext Iff.rfl
def eqO (o o' : Option Ob) (M : Me) (Q : WK) : Prop := match rdl o, rdl o' with
    | some xs, some [] => Q (.bl (xs.isEmpty)) M
    | some xs, some ys => (flts xs && flts ys) = true ∧ Q (.bl (weqs xs ys)) M
    | _, _ => False

theorem eq_l : lz (rEq2 (.ref a) (.ref a') M) Q tgQ = lz (eqO (M a) (M a') M) Q .mk := by
  unfold lz rEq2 rEqS eqO
  dsimp only
  all_goals (rcases rdl (M a) with _ | xs <;> rcases rdl (M a') with _ | _ | ys <;> rfl)
theorem eqO_l : lz (eqO (some (.lst xs)) (some (.lst [])) M) Q tgQ = Q (.bl (xs.isEmpty)) M := propext Iff.rfl
theorem eqO_ll {y : W} : lz (eqO (some (.lst xs)) (some (.lst (y :: ys))) M) Q tgQ = ((flts xs && flts (y :: ys)) = true ∧ Q (.bl (weqs xs (y :: ys))) M) := propext Iff.rfl
theorem ne_i : lz (rNe2 (.int i) (.int j) M) Q tgQ = Q (.bl (!decide (i = j))) M := propext Iff.rfl
theorem ne_s : lz (rNe2 (.str z) (.str z') M) Q tgQ = Q (.bl (!decide (z = z'))) M := propext Iff.rfl
theorem ne_b {b c : Bool} : lz (rNe2 (.bl b) (.bl c) M) Q tgQ = Q (.bl (!decide (b = c))) M := propext Iff.rfl
theorem ne_t : lz (rNe2 (.tup xs) (.tup ys) M) Q tgQ = ((flt (.tup xs) && flt (.tup ys)) = true ∧ Q (.bl (!weq (.tup xs) (.tup ys))) M) := propext Iff.rfl
def neO (o o' : Option Ob) (M : Me) (Q : WK) : Prop := match rdl o, rdl o' with
    | some xs, some [] => Q (.bl (!xs.isEmpty)) M
    | some xs, some ys => (flts xs && flts ys) = true ∧ Q (.bl (!weqs xs ys)) M
    | _, _ => False

theorem ne_l : lz (rNe2 (.ref a) (.ref a') M) Q tgQ = lz (neO (M a) (M a') M) Q .mk := by
  unfold lz rNe2 rEqS neO
  dsimp only
  all_goals (rcases rdl (M a) with _ | xs <;> rcases rdl (M a') with _ | _ | ys <;> rfl)
theorem neO_l : lz (neO (some (.lst xs)) (some (.lst [])) M) Q tgQ = Q (.bl (!xs.isEmpty)) M := propext Iff.rfl
theorem neO_ll {y : W} : lz (neO (some (.lst xs)) (some (.lst (y :: ys))) M) Q tgQ = ((flts xs && flts (y :: ys)) = true ∧ Q (.bl (!weqs xs (y :: ys))) M) := propext Iff.rfl
theorem ix_t : lz (rIx2 (.tup xs) (.int i) M) Q tgQ = lz (gt (atI xs i)) (fun w => Q w M) .mk := by unfold lz rIx2 gt; dsimp only; cases (atI xs i) <;> rfl
theorem ix_c : lz (rIx2 (.cl xs) (.int i) M) Q tgQ = lz (gt (atI xs i)) (fun w => Q w M) .mk := by unfold lz rIx2 gt; dsimp only; cases (atI xs i) <;> rfl
def ixO (o : Option Ob) (y : W) (M : Me) (Q : WK) : Prop := match o with
    | some (.lst xs) => match y with
      | .int i => match atI xs i with
        | some w => Q w M
        | none => False
      | _ => False
    | some (.dK kvs) => match (wkey y).bind (look kvs) with
      | some w => Q w M
      | none => False
    | some (.lkK kvs) => match (wkey y).bind (look kvs) with
      | some w => Q w M
      | none => False
    | some (.dN kvs) => KeyOk y ∧ match lookN kvs y with
      | some w => Q w M
      | none => False
    | some (.lkN kvs) => KeyOk y ∧ match lookN kvs y with
      | some w => Q w M
      | none => False
    | _ => False

theorem ix_r : lz (rIx2 (.ref a) y M) Q tgQ = lz (ixO (M a) y M) Q .mk := propext Iff.rfl
theorem ixO_l : lz (ixO (some (.lst xs)) (.int i) M) Q tgQ = lz (gt (atI xs i)) (fun w => Q w M) .mk := by unfold lz ixO gt; dsimp only; cases (atI xs i) <;> rfl
theorem ixO_k : lz (ixO (some (.dK kk)) y M) Q tgQ = lz (gt ((wkey y).bind (look kk))) (fun w => Q w M) .mk := by unfold lz ixO gt; dsimp only; cases ((wkey y).bind (look kk)) <;> rfl
theorem ixO_lk : lz (ixO (some (.lkK kk)) y M) Q tgQ = lz (gt ((wkey y).bind (look kk))) (fun w => Q w M) .mk := by unfold lz ixO gt; dsimp only; cases ((wkey y).bind (look kk)) <;> rfl
theorem ixO_n : lz (ixO (some (.dN kn)) y M) Q tgQ = (KeyOk y ∧ lz (gt (lookN kn y)) (fun w => Q w M) .mk) := by unfold lz ixO gt; dsimp only; cases (lookN kn y) <;> rfl
theorem ixO_ln : lz (ixO (some (.lkN kn)) y M) Q tgQ = (KeyOk y ∧ lz (gt (lookN kn y)) (fun w => Q w M) .mk) := by unfold lz ixO gt; dsimp only; cases (lookN kn y) <;> rfl
def inO (o : Option Ob) (x : W) (Q : Bool → Prop) : Prop := match o with
    | some (.lst xs) => (flatW x && xs.all flatW) = true ∧ Q (inW x xs)
    | some (.dK kvs) => match wkey x with
      | some k => Q (look kvs k).isSome
      | none => False
    | some (.lkK kvs) => match wkey x with
      | some k => Q (look kvs k).isSome
      | none => False
    | some (.dN kvs) => KeyOk x ∧ Q (lookN kvs x).isSome
    | some (.lkN kvs) => KeyOk x ∧ Q (lookN kvs x).isSome
    | _ => False

theorem in_t : lz (rIn2 x (.tup xs) M) Q tgQ = ((flatW x && xs.all flatW) = true ∧ Q (.bl (inW x xs)) M) := propext Iff.rfl
theorem in_r : lz (rIn2 x (.ref a) M) Q tgQ = lz (inO (M a) x) (fun b => Q (.bl b) M) .mk := propext Iff.rfl
theorem nin_t : lz (rNotIn2 x (.tup xs) M) Q tgQ = ((flatW x && xs.all flatW) = true ∧ Q (.bl (!inW x xs)) M) := propext Iff.rfl
theorem nin_r : lz (rNotIn2 x (.ref a) M) Q tgQ = lz (inO (M a) x) (fun b => Q (.bl (!b)) M) .mk := propext Iff.rfl
theorem inO_l : lz (inO (some (.lst xs)) x) kb tgB = ((flatW x && xs.all flatW) = true ∧ kb (inW x xs)) := propext Iff.rfl
theorem inO_k : lz (inO (some (.dK kk)) x) kb tgB = lz (gt (wkey x)) (fun k => kb (look kk k).isSome) .mk := by unfold lz inO gt; dsimp only; cases (wkey x) <;> rfl
theorem inO_lk : lz (inO (some (.lkK kk)) x) kb tgB = lz (gt (wkey x)) (fun k => kb (look kk k).isSome) .mk := by unfold lz inO gt; dsimp only; cases (wkey x) <;> rfl
theorem inO_n : lz (inO (some (.dN kn)) x) kb tgB = (KeyOk x ∧ kb (lookN kn x).isSome) := propext Iff.rfl
theorem inO_ln : lz (inO (some (.lkN kn)) x) kb tgB = (KeyOk x ∧ kb (lookN kn x).isSome) := propext Iff.rfl
theorem wkey_i : wkey (.int i) = some (Sum.inl i) := rfl
theorem wkey_s : wkey (.str z) = some (Sum.inr z) := rfl
variable {lo hi : Option Int}
theorem sl_t : lz (rSl2 (.tup xs) lo hi M) Q tgQ = Q (.tup (cutW xs lo hi)) M := propext Iff.rfl
theorem sl_c : lz (rSl2 (.cl xs) lo hi M) Q tgQ = lz (frs (.lst (cutW xs lo hi)) M) Q .mk := propext Iff.rfl
def slO (o : Option Ob) (lo hi : Option Int) (M : Me) (Q : WK) : Prop := match rdl o with
    | some xs => ∀ p, M p = none → Q (.ref p) (put M p (.lst (cutW xs lo hi)))
    | none => False

theorem sl_r : lz (rSl2 (.ref a) lo hi M) Q tgQ = lz (slO (M a) lo hi M) Q .mk := propext Iff.rfl
theorem slO_l : lz (slO (some (.lst xs)) lo hi M) Q tgQ = lz (frs (.lst (cutW xs lo hi)) M) Q .mk := propext Iff.rfl
theorem len_t : lz (rLen [.tup xs] M) Q tgQ = Q (.int (xs.length : Int)) M := propext Iff.rfl
theorem len_c : lz (rLen [.cl xs] M) Q tgQ = Q (.int (xs.length : Int)) M := propext Iff.rfl
theorem len_s : lz (rLen [.str z] M) Q tgQ = (z.length ≤ sizeLine ∧ Q (.int (z.length : Int)) M) := propext Iff.rfl
def lenO (o : Option Ob) (M : Me) (Q : WK) : Prop := match rdl o with
    | some xs => Q (.int (xs.length : Int)) M
    | none => False

theorem len_r : lz (rLen [.ref a] M) Q tgQ = lz (lenO (M a) M) Q .mk := propext Iff.rfl
theorem lenO_l : lz (lenO (some (.lst xs)) M) Q tgQ = Q (.int (xs.length : Int)) M := propext Iff.rfl
theorem abs_i : lz (rAbs [.int i] M) Q tgQ = Q (.int (i.natAbs : Int)) M := propext Iff.rfl
theorem max_i : lz (rMax2W [.int i, .int j] M) Q tgQ = Q (.int (max i j)) M := propext Iff.rfl
theorem min_i : lz (rMin2W [.int i, .int j] M) Q tgQ = Q (.int (min i j)) M := propext Iff.rfl
theorem int_i : lz (rInt [.int i] M) Q tgQ = Q (.int i) M := propext Iff.rfl
theorem int_b : lz (rInt [.bl b] M) Q tgQ = Q (.int (b2i b)) M := propext Iff.rfl
theorem tup_t : lz (rTup [.tup xs] M) Q tgQ = Q (.tup xs) M := propext Iff.rfl
def tuO (o : Option Ob) (M : Me) (Q : WK) : Prop := match rdl o with
    | some xs => Q (.tup xs) M
    | none => False

theorem tup_r : lz (rTup [.ref a] M) Q tgQ = lz (tuO (M a) M) Q .mk := propext Iff.rfl
theorem tuO_l : lz (tuO (some (.lst xs)) M) Q tgQ = Q (.tup xs) M := propext Iff.rfl
theorem lst_t : lz (rLst [.tup xs] M) Q tgQ = lz (frs (.lst xs) M) Q .mk := propext Iff.rfl
theorem lst_c : lz (rLst [.cl xs] M) Q tgQ = lz (frs (.lst xs) M) Q .mk := propext Iff.rfl
def lsO (o : Option Ob) (M : Me) (Q : WK) : Prop := match rdl o with
    | some xs => ∀ p, M p = none → Q (.ref p) (put M p (.lst xs))
    | none => False

theorem lst_r : lz (rLst [.ref a] M) Q tgQ = lz (lsO (M a) M) Q .mk := propext Iff.rfl
theorem lsO_l : lz (lsO (some (.lst xs)) M) Q tgQ = lz (frs (.lst xs) M) Q .mk := propext Iff.rfl
def seO (o : Option Ob) (a : Addr) (i v : W) (M : Me) (Q : Me → Prop) : Prop := match o with
    | some (.lst xs) => match i with
      | .int k => match ixN xs.length k with
        | some j => Q (put M a (.lst (xs.set j v)))
        | none => False
      | _ => False
    | some (.dK kvs) => match wkey i with
      | some k => kvs.length < sizeLine ∧ Q (put M a (.dK (place kvs k v)))
      | none => False
    | some (.dN kvs) => KeyOk i ∧ kvs.length < sizeLine ∧ Q (put M a (.dN (placeN kvs i v)))
    | _ => False
variable {QM : Me → Prop} {key : Key} {tgM : Tg QM}
theorem set_r : lz (rSet3 (.ref a) x v M) QM tgM = lz (seO (M a) a x v M) QM .mk := propext Iff.rfl
theorem seO_l : lz (seO (some (.lst xs)) a (.int i) v M) QM tgM = lz (gt (ixN xs.length i)) (fun j => QM (put M a (.lst (xs.set j v)))) .mk := by unfold lz seO gt; dsimp only; cases (ixN xs.length i) <;> rfl
theorem seO_k : lz (seO (some (.dK kk)) a x v M) QM tgM = lz (gt (wkey x)) (fun k => kk.length < sizeLine ∧ QM (put M a (.dK (place kk k v)))) .mk := by unfold lz seO gt; dsimp only; cases (wkey x) <;> rfl
theorem seO_n : lz (seO (some (.dN kn)) a x v M) QM tgM = (KeyOk x ∧ kn.length < sizeLine ∧ QM (put M a (.dN (placeN kn x v)))) := propext Iff.rfl
def apO (o : Option Ob) (a : Addr) (v : W) (M : Me) (Q : WK) : Prop := match o with
    | some (.lst xs) => xs.length < sizeLine ∧ Q .non (put M a (.lst (xs ++ [v])))
    | _ => False

theorem app_r : lz (rApp (.ref a) [v] M) Q tgQ = lz (apO (M a) a v M) Q .mk := propext Iff.rfl
theorem apO_l : lz (apO (some (.lst xs)) a v M) Q tgQ = (xs.length < sizeLine ∧ Q .non (put M a (.lst (xs ++ [v])))) := propext Iff.rfl
def exO (o o' : Option Ob) (a : Addr) (M : Me) (Q : WK) : Prop := match o, o' with
    | some (.lst xs), some (.lst ys) => xs.length + ys.length ≤ sizeLine ∧ Q .non (put M a (.lst (xs ++ ys)))
    | _, _ => False

theorem ext_r : lz (rExt (.ref a) [.ref a'] M) Q tgQ = lz (exO (M a) (M a') a M) Q .mk := propext Iff.rfl
theorem exO_l : lz (exO (some (.lst xs)) (some (.lst ys)) a M) Q tgQ = (xs.length + ys.length ≤ sizeLine ∧ Q .non (put M a (.lst (xs ++ ys)))) := propext Iff.rfl
def poZ (o : Option Ob) (a : Addr) (M : Me) (Q : WK) : Prop := match o with
    | some (.lst xs) => match xs[xs.length - 1]? with
      | some w => Q w (put M a (.lst xs.dropLast))
      | none => False
    | _ => False
def poO (o : Option Ob) (a : Addr) (i : Int) (M : Me) (Q : WK) : Prop := match o with
    | some (.lst xs) => (-(2 ^ 63) ≤ i ∧ i < 2 ^ 63) ∧ match seqIndex? i xs.length with
      | some j => match xs[j]? with
        | some w => Q w (put M a (.lst (xs.eraseIdx j)))
        | none => False
      | none => False
    | _ => False

theorem pop_z : lz (rPop (.ref a) [] M) Q tgQ = lz (poZ (M a) a M) Q .mk := propext Iff.rfl
theorem pop_i : lz (rPop (.ref a) [.int i] M) Q tgQ = lz (poO (M a) a i M) Q .mk := propext Iff.rfl
theorem poZ_l : lz (poZ (some (.lst xs)) a M) Q tgQ = lz (gt (xs[xs.length - 1]?)) (fun w => Q w (put M a (.lst xs.dropLast))) .mk := by unfold lz poZ gt; dsimp only; cases (xs[xs.length - 1]?) <;> rfl
theorem poO_l : lz (poO (some (.lst xs)) a i M) Q tgQ = ((-(2 ^ 63) ≤ i ∧ i < 2 ^ 63) ∧ lz (gt (seqIndex? i xs.length)) (fun j => lz (gt (xs[j]?)) (fun w => Q w (put M a (.lst (xs.eraseIdx j)))) .mk) .mk) := by
  unfold lz poO gt
  dsimp only
  congr 1
  cases seqIndex? i xs.length with
  | none => rfl
  | some j => dsimp only; cases xs[j]? <;> rfl
theorem neg_i : lz (rNeg1 (.int i) M) Q tgQ = Q (.int (-i)) M := propext Iff.rfl
theorem le_line {n : Nat} (h : n ≤ 1000) : (n ≤ sizeLine) = True := by
  have : (16777216 : Nat) = sizeLine := sizeLine_eq.symm
  exact eq_true (by omega)
theorem lt_line {n : Nat} (h : n ≤ 1000) : (n < sizeLine) = True := by
  have : (16777216 : Nat) = sizeLine := sizeLine_eq.symm
  exact eq_true (by omega)
theorem put_ne1 {M : Me} {a b : Addr} {o : Ob} (h : b ≠ a) : put M a o b = M b := put_ne h
theorem put_ne2 {M : Me} {a b : Addr} {o : Ob} (h : a ≠ b) : put M a o b = M b := put_ne (Ne.symm h)
end
end PV
set_option maxHeartbeats 1000000
/-! PV: local things, in use. -/
namespace PV
open PySem PySem.Spec PyProof.Rows L2
theorem map_snoc {ds : List Int} {i : Int} : ds.map W.int ++ [W.int i] = (ds ++ [i]).map W.int := by rw [List.map_append]; rfl
theorem small_line {n : Nat} (h : n ≤ 16000000) : n < sizeLine := by
  have : (16777216 : Nat) = sizeLine := sizeLine_eq.symm
  omega
theorem line_le {n : Nat} (h : n ≤ 16000000) : n ≤ sizeLine := Nat.le_of_lt (small_line h)
theorem mod_any {i j : Int} {M : Me} {Q : WK} (h : 0 < j) (k : ∀ r, 0 ≤ r → r < j → Q (.int r) M) : rMod2 (.int i) (.int j) M Q := ⟨h, k _ (Int.emod_nonneg i (by omega)) (Int.emod_lt_of_pos i h)⟩
theorem mod_go {i j : Int} {M : Me} {Q : WK} {tg : Tg Q} (h : 0 < j) (k : Q (.int (i % j)) M) : lz (rMod2 (.int i) (.int j) M) Q tg := ⟨h, k⟩
theorem div_any {i j : Int} {M : Me} {Q : WK} (h : DivOk i j) (k : ∀ r, Q (.int r) M) : rDiv2 (.int i) (.int j) M Q := ⟨h, k _⟩
theorem div_go {i j : Int} {M : Me} {Q : WK} {tg : Tg Q} (h1 : 0 < j) (h2 : j < 2 ^ 64) (k : Q (.int (i / j)) M) : lz (rDiv2 (.int i) (.int j) M) Q tg := ⟨⟨h1, h2⟩, k⟩
theorem pow_any {i j : Int} {M : Me} {Q : WK} (h : CPow i j) (k : ∀ r, Q (.int r) M) : rPow2 (.int i) (.int j) M Q := ⟨h, k _⟩
theorem pow_go {i j : Int} {M : Me} {Q : WK} {tg : Tg Q} (h : CPow i j) (k : Q (.int (i ^ j.toNat)) M) : lz (rPow2 (.int i) (.int j) M) Q tg := ⟨h, k⟩
theorem DrS.fresh {a q : Addr} {M M' : Me} (h : DrS a M M') (n : M' q = none) : M q = none ∧ q ≠ a := by
  have ne : q ≠ a := fun e => by
    obtain ⟨ds, h2⟩ := h.2
    rw [e, h2] at n; cases n
  refine ⟨?_, ne⟩
  cases e : M q with
  | none => rfl
  | some o => rw [h.1 q o ne e] at n; cases n
/-- what a stretch of the walk leaves: all, the draws at a aside -/
def Dr (a : Option Addr) (M M' : Me) : Prop := match a with
  | none => Sub M M'
  | some a => DrS a M M'
section
variable {a : Option Addr} {q : Addr} {fs gs : List (Addr × Ob)} {M0 M M' : Me} {o o' : Ob} {x y z : Addr × Ob}
theorem Dr.old (h : Dr a M M') (n : some q ≠ a) (e : M q = some o) : M' q = some o := by
  cases a with
  | none => exact h _ _ e
  | some a => exact h.1 _ _ (fun z => n (by rw [z])) e
theorem Dr.fresh (h : Dr a M M') (n : M' q = none) : M q = none ∧ some q ≠ a := by
  cases a with
  | none =>
    refine ⟨?_, fun z => nomatch z⟩
    cases e : M q with
    | none => rfl
    | some o => rw [h _ _ e] at n; cases n
  | some a => exact ⟨(DrS.fresh h n).1, fun z => (DrS.fresh h n).2 (Option.some.inj z)⟩
theorem Dr.trans {M2 : Me} (h : Dr a M M') (h2 : Dr a M' M2) : Dr a M M2 := by
  cases a with
  | none => exact Sub.trans h h2
  | some a => exact DrS.trans h h2
theorem Dr.new (h : Dr a M M') (n : M' q = none) : Dr a M (put M' q o) := by
  cases a with
  | none => exact Sub.trans h (Sub.new n)
  | some a => exact DrS.new h n
theorem Dr.loc (h : Dr a M M') (n : M q = none) (ne : some q ≠ a) : Dr a M (put M' q o) := by
  cases a with
  | none => exact Sub.put h n
  | some a => exact ⟨fun b x nb e => by rw [put_ne (fun z => by rw [z, n] at e; cases e)]; exact h.1 b x nb e, h.2.elim fun ds e => ⟨ds, by rw [put_ne (fun z => ne (by rw [z]))]; exact e⟩⟩
theorem Dr.refl0 : Dr none M M := Sub.refl M
theorem Dr.sub (h : Sub M M') (ok : ∀ b, a = some b → ∃ ds : List Int, M b = some (.lst (ds.map W.int))) : Dr a M M' := by
  cases a with
  | none => exact h
  | some a => exact ⟨fun b o _ e => h b o e, (ok a rfl).elim fun ds e => ⟨ds, h _ _ e⟩⟩
/-- the draws at a, and local things -/
def Kp (a : Option Addr) (fs : List (Addr × Ob)) (M0 M : Me) : Prop := Dr a M0 M ∧ fs.Pairwise (fun x y => x.1 ≠ y.1) ∧ ∀ x ∈ fs, some x.1 ≠ a ∧ M0 x.1 = none ∧ M x.1 = some x.2
theorem Kp.start {b : Addr} {ds : List Int} (h : M b = some (.lst (ds.map W.int))) : Kp (some b) [] M M := ⟨DrS.refl h, .nil, fun x hx => nomatch hx⟩
theorem Kp.start0 : Kp none [] M M := ⟨Sub.refl M, .nil, fun x hx => nomatch hx⟩
theorem Kp.dr (k : Kp a fs M0 M) : Dr a M0 M := k.1
theorem Kp.take (k : Kp a fs M0 M) (d : Dr a M M') : Kp a fs M0 M' := ⟨k.1.trans d, k.2.1, fun x hx => ⟨(k.2.2 x hx).1, (k.2.2 x hx).2.1, d.old (k.2.2 x hx).1 (k.2.2 x hx).2.2⟩⟩
theorem Kp.new (k : Kp a fs M0 M) (n : M q = none) : Kp a ((q, o) :: fs) M0 (put M q o) := by
  obtain ⟨n0, ne⟩ := k.1.fresh n
  refine ⟨k.1.new n, .cons (fun y hy e => ?_) k.2.1, fun x hx => ?_⟩
  · have := (k.2.2 y hy).2.2
    rw [← show q = y.1 from e, n] at this; cases this
  · rcases List.mem_cons.mp hx with rfl | hx
    · exact ⟨ne, n0, put_same⟩
    · exact ⟨(k.2.2 x hx).1, (k.2.2 x hx).2.1, put_old (k.2.2 x hx).2.2 n⟩
theorem Kp.set (k : Kp a ((q, o) :: fs) M0 M) : Kp a ((q, o') :: fs) M0 (put M q o') := by
  have h := k.2.2 (q, o) (.head _)
  refine ⟨k.1.loc h.2.1 h.1, .cons (fun y hy => (List.rel_of_pairwise_cons k.2.1 hy : q ≠ y.1)) k.2.1.of_cons, fun x hx => ?_⟩
  rcases List.mem_cons.mp hx with rfl | hx
  · exact ⟨h.1, h.2.1, put_same⟩
  · refine ⟨(k.2.2 x (.tail _ hx)).1, (k.2.2 x (.tail _ hx)).2.1, ?_⟩
    rw [put_ne (Ne.symm (List.rel_of_pairwise_cons k.2.1 hx : q ≠ x.1))]
    exact (k.2.2 x (.tail _ hx)).2.2
theorem Kp.perm (k : Kp a fs M0 M) (p : gs.Perm fs) : Kp a gs M0 M := ⟨k.1, (p.pairwise_iff (fun h e => h e.symm)).mpr k.2.1, fun x hx => k.2.2 x (p.mem_iff.mp hx)⟩
theorem Kp.come (k : Kp a fs M0 M) (d : Dr a M M') (n : M q = none) (e : M' q = some o) : Kp a ((q, o) :: fs) M0 M' := by
  have k2 := k.take d
  refine ⟨k2.1, .cons (fun y hy z => ?_) k.2.1, fun x hx => ?_⟩
  · have := (k.2.2 y hy).2.2
    rw [← show q = y.1 from z, n] at this; cases this
  · rcases List.mem_cons.mp hx with rfl | hx
    · exact ⟨(k.1.fresh n).2, (k.1.fresh n).1, e⟩
    · exact k2.2.2 x hx
theorem Kp.tail (k : Kp a (x :: fs) M0 M) : Kp a fs M0 M := ⟨k.1, k.2.1.of_cons, fun y hy => k.2.2 y (.tail _ hy)⟩
theorem Kp.tail2 (k : Kp a (x :: y :: fs) M0 M) : Kp a (x :: fs) M0 M := ⟨k.1, k.2.1.sublist (.cons_cons _ (.cons _ (List.Sublist.refl _))), fun z hz => k.2.2 z (by rcases List.mem_cons.mp hz with rfl | h; exact .head _; exact .tail _ (.tail _ h))⟩
theorem Kp.none (k : Kp a fs M0 M) : Kp a [] M0 M := ⟨k.1, .nil, fun y hy => nomatch hy⟩
theorem Kp.sw (k : Kp a (x :: y :: fs) M0 M) : Kp a (y :: x :: fs) M0 M := k.perm (.swap _ _ _)
/-- the third, the fourth to the front -/
theorem Kp.r2 (k : Kp a (x :: y :: z :: fs) M0 M) : Kp a (z :: x :: y :: fs) M0 M := k.perm ((List.Perm.swap x z _).trans ((List.Perm.swap y z _).cons x))
theorem Kp.g0 (k : Kp a ((q, o) :: fs) M0 M) : M q = some o := (k.2.2 _ (.head _)).2.2
theorem Kp.g1 (k : Kp a (x :: (q, o) :: fs) M0 M) : M q = some o := (k.2.2 _ (.tail _ (.head _))).2.2
theorem Kp.g2 (k : Kp a (x :: y :: (q, o) :: fs) M0 M) : M q = some o := (k.2.2 _ (.tail _ (.tail _ (.head _)))).2.2
theorem Kp.g3 (k : Kp a (x :: y :: z :: (q, o) :: fs) M0 M) : M q = some o := (k.2.2 _ (.tail _ (.tail _ (.tail _ (.head _))))).2.2
theorem Kp.g4 {u : Addr × Ob} (k : Kp a (x :: y :: z :: u :: (q, o) :: fs) M0 M) : M q = some o := (k.2.2 _ (.tail _ (.tail _ (.tail _ (.tail _ (.head _)))))).2.2
theorem Kp.f0 (k : Kp a ((q, o) :: fs) M0 M) : M0 q = Option.none := (k.2.2 _ (.head _)).2.1
theorem Kp.old (k : Kp a fs M0 M) (n : some q ≠ a) (e : M0 q = some o) : M q = some o := k.1.old n e
theorem Kp.old0 (k : Kp Option.none fs M0 M) (e : M0 q = some o) : M q = some o := k.1 _ _ e
theorem Kp.sub (k : Kp Option.none fs M0 M) : Sub M0 M := k.1
/-! steps -/
theorem Kp.fresh_go {Q : WK} {tg : Tg Q} (k : Kp a fs M0 M) (f : ∀ p M', Kp a ((p, o) :: fs) M0 M' → Sub M M' → Q (.ref p) M') : lz (frs o M) Q tg := fun p hp => f p _ (k.new hp) (Sub.new hp)
theorem Kp.app_go {xs : List W} {v : W} {Q : WK} {tg : Tg Q} (k : Kp a ((q, .lst xs) :: fs) M0 M) (h : xs.length ≤ 16000000) (f : ∀ M', Kp a ((q, .lst (xs ++ [v])) :: fs) M0 M' → Q .non M') : lz (rApp (.ref q) [v] M) Q tg := by
  show rApp (.ref q) [v] M Q
  unfold rApp
  dsimp only
  rw [k.g0]
  exact ⟨small_line h, f _ k.set⟩
theorem Kp.take_go' {sp : PSp} {ws : List W} {Q : WK} {tg : Tg Q} (h : sp ws M Q noX) : lz (spc sp ws M) Q tg := h
end
def sp_take : PSp := fun ws M Q _ => match ws with
  | [.ref a, .int m] => (∃ ds : List Int, M a = some (.lst (ds.map W.int))) ∧ 0 < m ∧ ∀ r M', 0 ≤ r → r < m → DrS a M M' → Q (.int r) M'
  | _ => False
theorem Kp.take_go {a : Addr} {fs : List (Addr × Ob)} {M0 M : Me} {m : Int} {Q : WK} {tg : Tg Q} (h : Kp (some a) fs M0 M) (hm : 0 < m) (k : ∀ r M', 0 ≤ r → r < m → Kp (some a) fs M0 M' → Q (.int r) M') : lz (spc sp_take [.ref a, .int m] M) Q tg :=
  ⟨h.1.2, hm, fun r M' h0 h1 d => k r M' h0 h1 (h.take d)⟩
theorem Kp.take_go2 {a : Addr} {fs : List (Addr × Ob)} {M0 M : Me} {m : Int} {Q : WK} {tg : Tg Q} (h : Kp (some a) fs M0 M) (hm : 0 < m) (k : ∀ r M', 0 ≤ r → r < m → DrS a M M' → Kp (some a) fs M0 M' → Q (.int r) M') : lz (spc sp_take [.ref a, .int m] M) Q tg :=
  ⟨h.1.2, hm, fun r M' h0 h1 d => k r M' h0 h1 d (h.take d)⟩
theorem b2i_0 {b : Bool} : 0 ≤ b2i b := by cases b <;> decide
theorem b2i_2 {b : Bool} : b2i b < 2 := by cases b <;> decide
theorem at_mem {xs : List W} {r : Int} (h0 : 0 ≤ r) (h1 : r < xs.length) : ∃ w ∈ xs, atI xs r = some w := by
  have hl : r.toNat < xs.length := by omega
  exact ⟨xs[r.toNat], List.getElem_mem hl, atI_of h0 (List.getElem?_eq_getElem hl)⟩
/-- places of a list of whole numbers -/
theorem at_int {ks : List Int} {r : Int} {P : Int → Prop} (h0 : 0 ≤ r) (h1 : r < ks.length) (hp : ∀ k ∈ ks, P k) : ∃ k, P k ∧ atI (ks.map W.int) r = some (.int k) := by
  have hl : r.toNat < ks.length := by omega
  exact ⟨ks[r.toNat], hp _ (List.getElem_mem hl), atI_of h0 (by rw [List.getElem?_map, List.getElem?_eq_getElem hl]; rfl)⟩
theorem cut_len {xs : List W} {lo hi : Option Int} : (cutW xs lo hi).length ≤ xs.length := by
  unfold cutW
  rw [List.length_take, List.length_drop]
  omega
theorem sq_0 {n : Nat} : seqIndex? 0 (n + 1) = some 0 := by
  unfold seqIndex?
  simp
end PV
set_option maxHeartbeats 1000000
/-! PV: order of nested tuples, list.index, a display of one pair. -/
namespace PV
open PySem PySem.Spec PyProof.Rows L2
section
variable {X : Cx} {Y : Cy} {e a b c : Expr} {pos : Pos} {K : PySem.W.Frag} {H : Hp} {M : Me}
theorem op_ltD (hu : X.A.units + 64 < cLine) : OpR X (compareOp .Lt) fun x y H Q => ∃ d e, Dp X.K H x d ∧ Dp X.K H y e ∧ PySem.W.alike d e = true ∧ d ≠ .none ∧ d.depth ≤ 60 ∧ Q (.bl (PySem.W.dataLt d e)) H := by
  intro pins s σ H x y v u Q I rx ry h
  obtain ⟨d, e, hd, he, al, nn, dp, q⟩ := h
  obtain ⟨as, r1⟩ := Dp.reads I d x v hd rx
  obtain ⟨bs, r2⟩ := Dp.reads I e y u he ry
  exact PySem.W.rcLt_alike d e X.A s v u as bs r1 r2 al nn (by omega) X.prog X.w _ _ ⟨.bl _, H, I, rfl, q⟩
def rLtD2 : R2W := fun x y M Q => (∃ i j, x = .int i ∧ y = .int j ∧ Q (.bl (decide (i < j))) M) ∨ ∃ d e, Dw M d x ∧ Dw M e y ∧ PySem.W.alike d e = true ∧ d ≠ .none ∧ d.depth ≤ 60 ∧ Q (.bl (PySem.W.dataLt d e)) M
theorem wop_ltD (hu : X.A.units + 64 < cLine) : OpW X (compareOp .Lt) fun x y M Q => ∃ d e, Dw M d x ∧ Dw M e y ∧ PySem.W.alike d e = true ∧ d ≠ .none ∧ d.depth ≤ 60 ∧ Q (.bl (PySem.W.dataLt d e)) M := OpR_imp (op_ltD hu) fun x y H Q ⟨wx, wy, M, Qw, rx, ry, m, ⟨d, e, h1, h2, s1, s2, s3, q⟩, k⟩ =>
  ⟨d, e, dw_dp m d wx x h1 rx, dw_dp m e wy y h2 ry, s1, s2, s3, k _ M _ H q (Go.refl _ _) rep_bl m⟩
theorem w_ltD (hu : X.A.units + 64 < cLine) : OpW X (compareOp .Lt) rLtD2 := OpW.or w_lt (wop_ltD hu) fun x y M Q h => by
  rcases h with ⟨i, j, rfl, rfl, h⟩ | h
  · exact .inl h
  · exact .inr h
/-- l.index(x), whole numbers -/
def rIndex2 : RMW := fun x ws M Q => match x, ws with
  | .ref a, [.int i] => ∃ ns : List Int, M a = some (.lst (ns.map W.int)) ∧ i ∈ ns ∧ Q (.int (ns.idxOf i : Nat)) M
  | _, _ => False
theorem w_index : MtR X "list.index" (upM X.kx rIndex2) := MtR_imp mt_index fun x vs H Q ⟨wx, ws, M, Qw, rx, rs, m, q, k⟩ => by
  unfold rIndex2 at q
  split at q
  · rename_i a i
    obtain ⟨ns, e, hi, q⟩ := q
    obtain ⟨v, ev, r⟩ := args1 rs
    subst ev
    obtain ⟨us, e1, r1⟩ := m a _ e
    have e2 := Reps.ints r1
    subst e2
    have hl : ns.idxOf i < ns.length := List.idxOf_lt_length_of_mem hi
    refine ⟨a, ns.map V.int, .int i, ns.idxOf i, .int i, un_ref rx, by rw [un_int r], .inl (.inl e1), rfl, ?_, ?_, ?_, ?_, k _ M _ H q (Go.refl _ _) rep_int m⟩
    · rw [List.all_map]; exact List.all_eq_true.mpr fun _ _ => rfl
    · rw [List.getElem?_map, List.getElem?_eq_getElem hl]
      simp
    · simp [eqV]
    · intro j z hj hz
      rw [List.getElem?_map] at hz
      have hjl : j < ns.length := by omega
      rw [List.getElem?_eq_getElem hjl] at hz
      cases hz
      have : ns[j] ≠ i := fun z => by
        have := List.not_of_lt_findIdx (p := (· == i)) (xs := ns) (i := j) hj
        simp [z] at this
      simp [eqV, this]
  · exact q.elim
def dkS (x : W) (k : Key → Prop) : Prop := match wkey x with
  | some kk => k kk
  | none => False
theorem dkS_i {i : Int} {k : Key → Prop} {tg : Tg k} : lz (dkS (.int i)) k tg = k (.inl i) := propext Iff.rfl
theorem dkS_s {z : Str} {k : Key → Prop} {tg : Tg k} : lz (dkS (.str z)) k tg = k (.inr z) := propext Iff.rfl
def dkF (x : W) (z : W) (M : Me) (Q : WK) (kk : Key) : Prop := match x with
  | .ref p => M p = some (.dK []) ∧ Q (.ref p) (put M p (.dK [(kk, z)]))
  | _ => False
theorem dkF_r {p : Addr} {z : W} {M : Me} {Q : WK} {kk : Key} : dkF (.ref p) z M Q kk = (M p = some (.dK []) ∧ Q (.ref p) (put M p (.dK [(kk, z)]))) := propext Iff.rfl
/-- {k: v} -/
def wDispK (tk tv : WE) : WE := fun ρ M Q => frs (.dK []) M fun x M0 => tk ρ M0 fun y M1 => tv ρ M1 fun z M2 => dkS y (dkF x z M2 Q)
theorem s_dispK {tk tv : WE} {ρ : En} {M : Me} {Q : WK} : wDispK tk tv ρ M Q = lz (frs (.dK []) M) (fun x M0 => tk ρ M0 fun y M1 => tv ρ M1 fun z M2 => lz (dkS y) (dkF x z M2 Q) .mk) .mk := propext Iff.rfl
theorem q_dispK {pk pv : Expr} {tk tv : WE} (_hu : Y.X.A.units + 64 < cLine) (hk : QE Y pk tk) (hv : QE Y pv tv) : QE Y (.Dict [some pk] [pv] pos) (wDispK tk tv) :=
  PE_imp (pe_disp (pps_cons hk hv pps_nil) rfl rfl (by simp) (by simp)) fun σ H Q ⟨ρ, M, Qw, so, h, k⟩ => fun p hp => by
    have so1 := so.step (Go.new (u := .dK []) hp) (so.mo.put (GoH.new (o := .dK []) hp) ⟨[], upd_same, .nil⟩)
    refine ⟨ρ, _, _, so1, h p (so.mo.free hp), fun wx M1 x H1 q1 g1 rx m1 => ⟨ρ, M1, _, so1.step g1 m1, q1, fun wy M2 y H2 q2 g2 ry m2 => ?_⟩⟩
    unfold dkS at q2
    split at q2
    · rename_i kk ek
      obtain ⟨e2, q2⟩ := q2
      obtain ⟨xs, h2, pr⟩ := m2 p _ e2
      cases pr
      have ex := wkey_V ek (rx.go g2.h)
      have g : GoH H2 (upd H2 p (.dK (mergeK [] [(kk, y)]))) := GoH.write h2 (fun _ z => nomatch z) (fun _ _ z => nomatch z)
      refine ⟨h2, [(kk, y)], by rw [ex]; rfl, by simp, k _ _ _ _ q2 ((((Go.new hp).trans g1).trans g2).trans (Go.put g e2)) rep_ref (m2.put g ⟨_, upd_same, ?_⟩)⟩
      exact .cons ⟨rfl, ry.go g⟩ .nil
    · exact q2.elim
variable {Q : WK} {tgQ : Tg Q} {i j : Int} {z z' : Str}
theorem iadd_i : lz (rIAdd2 (.int i) (.int j) M) Q tgQ = Q (.int (i + j)) M := propext Iff.rfl
theorem iadd_s : lz (rIAdd2 (.str z) (.str z') M) Q tgQ = (z.length + z'.length ≤ sizeLine ∧ Q (.str (z ++ z')) M) := propext Iff.rfl
theorem r2I_i {C : Int → Int → Prop} {f : Int → Int → W} : lz (r2I C f (.int i) (.int j) M) Q tgQ = (C i j ∧ Q (f i j) M) := propext Iff.rfl
theorem shl_go (h : CPow i j) (k : Q (.int (i * 2 ^ j.toNat)) M) : lz (rShl2 (.int i) (.int j) M) Q tgQ := ⟨h, k⟩
theorem shr_def : lz (rShr2 (.int i) (.int j) M) Q tgQ = rShr2 (.int i) (.int j) M Q := propext Iff.rfl
/-- < of nested tuples -/
def ltW (x y : W) : Bool := PySem.W.dataLt (pd x) (pd y)
theorem ltD_go {x y : W} (h1 : nr x = true) (h2 : nr y = true) (al : PySem.W.alike (pd x) (pd y) = true) (nn : pd x ≠ .none) (dx : dp x ≤ 60) (k : Q (.bl (ltW x y)) M) : lz (rLtD2 x y M) Q tgQ :=
  .inr ⟨pd x, pd y, pd_dw x h1, pd_dw y h2, al, nn, by rw [dp_depth]; exact dx, k⟩
theorem index_go {a : Addr} {ns : List Int} (e : M a = some (.lst (ns.map W.int))) (h : i ∈ ns) (k : Q (.int (ns.idxOf i : Nat)) M) : lz (rIndex2 (.ref a) [.int i] M) Q tgQ := ⟨ns, e, h, k⟩
end
end PV
set_option maxHeartbeats 1000000
/-! PV: defs that ask for a repr (nothing is under way around them). -/
namespace PV
open PySem PySem.Spec PyProof.Rows L2
/-- as FnOk, where no repr is under way -/
structure FnG (B : Kx) (mg : Str → Option Value) (base : Heap) (k : Nat) (f : Addr) (fd : FuncData) (ps : List Str) (sp : Sp) : Prop where
  len : ∀ vs H Q E, sp vs H Q E → vs.length = ps.length
  go : ∀ (A : Around) (st : List Env) (s : Shared) (H : Hp) (as : Args) (us : List Value) (vs : List V) (Q : VK) (E : XK), A.guards = some [] → Room k A →
    Env0 B.P B.w B.K mg base A st s H → BindsTo s fd as (ps.zip us) → Vals vs us → sp vs H Q E → codeAny (model B.P B.w) A (.call (.ref f) as) (CR CX0 st B.P B.w H s Q E) s
theorem FnG.mono {B : Kx} {mg : Str → Option Value} {base : Heap} {j k : Nat} {f : Addr} {fd : FuncData} {ps : List Str} {sp : Sp} (F : FnG B mg base j f fd ps sp) (h : j ≤ k) : FnG B mg base k f fd ps sp :=
  ⟨F.len, fun A st s H as us vs Q E g r => F.go A st s H as us vs Q E g (r.mono h)⟩
theorem deeper_guards {A : Around} {env : Env} (h : A.guards = some []) : (A.deeper env).guards = some [] := by
  first
    | exact h
    | simpa [Around.deeper] using h
section
variable {B : Kx} {mg : Str → Option Value} {base : Heap} {k : Nat}
/-- a def's body at one around -/
theorem body_at {x qual : Str} {st : Stmt} {f : Addr} {fd : FuncData} {N ps : List Str} {A : Around} {stk : List Env} {s : Shared} {H : Hp} {as : Args} {us : List Value} {vs : List V} {Q : VK} {E : XK}
    (F : Fun B.K x qual st f fd) (S : FnScope N ps (defScope st)) (hl : vs.length = ps.length) (hr : Room (k + 1) A) (e0 : Env0 B.P B.w B.K mg base A stk s H) (hb : BindsTo s fd as (ps.zip us)) (rv : Vals vs us)
    (hbody : ∀ cdv : Value, Room k (A.deeper (envOfC qual (defScope st) s.heap.objs.size f cdv)) → ∃ t, PSs (cxOf CX0 B.P B.w B.K mg base N qual (defScope st) f cdv A stk s H E).nox (defBody st) t ∧ t { nx := fun _ H' => Q .non H', rt := Q } (start N vs) H) :
    codeAny (model B.P B.w) A (.call (.ref f) as) (CR CX0 stk B.P B.w H s Q E) s := by
  obtain ⟨oc, od, kV, doc, pm, an, cdv, ct, osl, rfl, lk, hcd⟩ := F.ex
  have old : ∀ b o, base.get? b = some o → s.heap.get? b = some o := fun b o e => (e0.bs b o e).1
  have inK : B.K.In s.heap := e0.mod.kin.keeps old
  have noL := e0.mod.nolimit.keeps old
  have kinds : ∀ y ∈ ps.zip us, (defScope st).names.lookup y.1 = some .local ∨ ((defScope st).names.lookup y.1 = some .cell ∧
      ((cellsFrom (s.heap.objs.size + 1) (defScope st).names []).lookup y.1).isSome = true) := by
    rintro ⟨n, v⟩ hy
    exact (S.par n (List.of_mem_zip hy).1).imp id fun q => ⟨q, PySem.W.cellsFrom_some _ _ _ (.inl q)⟩
  apply codeAny_call_function hr.depth (inK _ _ lk) rfl S.co S.gen rfl (PySem.W.codeRec_of inK hcd)
  apply hb
  refine wpAny_newFunctionEnv_cells S.kind kinds fun env he s1 x1 => ?_
  subst he
  refine ⟨noL.keeps x1.toInCall.keep, codeAny_func ?_⟩
  obtain ⟨t, ht, hq⟩ := hbody cdv (hr.deeper _)
  have I := inv_start (CX := CX0) (E := E) S hr.hd e0 hl rv x1
  refine wpAny_mono (ht.nox.run [] s1 (start N vs) H _ I hq) (fun fl s' z => ?_) fun _ _ z => z
  cases fl with
  | ret u =>
    obtain ⟨v, σ', H', J, r2, q⟩ := z
    exact ⟨v, H', J.os, J.bare, J.base, J.hok, r2, q⟩
  | next =>
    obtain ⟨σ', H', J, q⟩ := z
    exact ⟨V.non, H', J.os, J.bare, J.base, J.hok, (rfl : RelV .non Value.none), q⟩
  | brk => obtain ⟨_, _, _, q⟩ := z; exact q.elim
  | cont => obtain ⟨_, _, _, q⟩ := z; exact q.elim
end
structure DkG (B : Kx) (mg : Str → Option Value) (base : Heap) (k : Nat) (x : Str) (ps : List Str) (sp : PSp) : Prop where
  ok : ∃ f fd, mg x = some (.ref f) ∧ PySem.W.keepIn B.K (.ref f) = true ∧ Binds B.K fd ps [] ∧ FnG B mg base k f fd ps (upSp B sp)
theorem DkG.mono {B : Kx} {mg : Str → Option Value} {base : Heap} {j k : Nat} {x : Str} {ps : List Str} {sp : PSp} (d : DkG B mg base j x ps sp) (h : j ≤ k) : DkG B mg base k x ps sp := by
  obtain ⟨f, fd, h1, h2, h3, h4⟩ := d.ok
  exact ⟨f, fd, h1, h2, h3, h4.mono h⟩
section
variable {Y : Cy} {k : Nat} {x : Str} {p pos : Pos} {ps : List Str} {sp : PSp} {e : Expr} {es : List Expr} {t : WA}
/-- the callee runs -/
theorem run_g {f : Addr} {fd : FuncData} {s0 : Sp} {pins : List (Addr × Obj)} {σ : L2.St} {H : Hp} {s : Shared} {Q : VK} {us : List Value} {vs : List V} (F : FnG ⟨Y.X.prog, Y.X.w, Y.X.K⟩ Y.X.mg Y.X.base k f fd ps s0) (hg : Y.X.A.guards = some []) (hr : Room k Y.X.A)
    (hb : Binds Y.X.K fd ps []) (I : Inv Y.X pins σ H s) (r : Vals vs us) (h : s0 vs H Q E0) : wpAny (model Y.X.prog Y.X.w) Y.X.A (call (.ref f) us) (EP Y.X pins σ Q) Y.X.xe s := by
  have hl : us.length = ps.length := r.length.symm.trans (F.len _ _ _ _ h)
  have bd := hb s us I.kIn (by rw [List.append_nil]; exact hl)
  rw [List.append_nil] at bd
  refine wpAny_call (codeAny_mono (F.go Y.X.A Y.X.stack s H ⟨us, []⟩ us vs Q E0 hg hr I.env0 bd r h) fun z s' hq => ?_)
  match z, hq with
  | .error e, hq => exact (show False from hq).elim
  | .ok (.ret u), hq => exact I.after hq
theorem q_fnG (d : DkG Y.X.kx Y.X.mg Y.X.base k x ps sp) (gd : Y.X.A.guards = some []) (hr : Room k Y.X.A) (hg : Gl Y.X x) (ha : QA Y (e :: es) t) (hdb : (x == ("__debug__" : Str)) = false := by decide)
    (he : starEach (e :: es) Y.X.env = (false, eval e Y.X.env) :: starEach es Y.X.env := by rfl) (hpl : (backTo pos (starEach es Y.X.env)).any (·.1) = false := by rfl) : QE Y (.Call (.Name x p) (e :: es) [] pos) (wFn sp t) := by
  obtain ⟨f, fd, h1, h2, h3, h4⟩ := d.ok
  have pc : PE Y.X (.Call (.Name x p) (e :: es) [] pos) (tCall (upSp Y.X.kx sp) [] E0 (upA Y.b t)) := ⟨fun pins s σ H Q I h => by
    refine wpAny_Call_Name_kw (ld_glob I hg h1 ?_ hdb)
    refine PySem.W.callWith_K (h₀ := Y.X.base) I.ok.mod.kin h2 (thn (ha.run pos pins s σ H _ I h) fun us s1 ⟨vs, H1, I1, r, q⟩ => ⟨I1.kIn, ?_⟩) he hpl
    have q' : upSp Y.X.kx sp (vs ++ []) H1 Q E0 := q
    rw [List.append_nil] at q'
    exact run_g h4 gd hr h3 I1 r q'⟩
  exact PE_imp pc fun _ _ _ h => up_fn h
end
section
variable {P : Program} {w : World} {K : PySem.W.Frag} {mg : Str → Option Value} {base : Heap} {k : Nat}
theorem start_env {N : List Str} {H : Hp} {ws : List W} {vs : List V} (rs : Reps K H ws vs) {i : Nat} {y : W} (e : (wStart N ws)[i]? = some (some y)) : ∃ v, (L2.start N vs)[i]? = some (some v) ∧ Rep K H y v := by
  unfold wStart at e
  rw [List.getElem?_append] at e
  split at e
  · rw [List.getElem?_map] at e
    obtain ⟨z, hz, e2⟩ := Option.map_eq_some_iff.mp e
    have e3 : z = y := Option.some.inj e2
    subst e3
    obtain ⟨v, h1, h2⟩ := rs.get hz
    refine ⟨v, ?_, h2⟩
    have hl := (List.getElem?_eq_some_iff.mp h1).1
    unfold L2.start
    rw [List.getElem?_append_left (by simpa using hl), List.getElem?_map, h1]
    rfl
  · rw [List.getElem?_replicate] at e
    split at e <;> cases e
theorem start_len {N : List Str} {H : Hp} {ws : List W} {vs : List V} (rs : Reps K H ws vs) : (wStart N ws).length = (L2.start N vs).length := by
  unfold wStart L2.start
  simp [rs.length]
theorem fn_okG {x qual : Str} {st : Stmt} {f : Addr} {fd : FuncData} {N ps : List Str} {sp : PSp} {t : WS} (F : Fun K x qual st f fd) (S : FnScope N ps (defScope st)) (len : ∀ ws M Q E, sp ws M Q E → ws.length = ps.length)
    (body : ∀ (cdv : Value) (A : Around) (outer : List Env) (s : Shared) (H : Hp) (E : XK) (M : Me), A.guards = some [] → Room k (A.deeper (envOfC qual (defScope st) s.heap.objs.size f cdv)) → QSs (fnCy P w K mg base N qual st f cdv A outer s H E M) (defBody st) t)
    (rd : ∀ ws M Q E, sp ws M Q E → t (wEnd Q) (wStart N ws) M) : FnG ⟨P, w, K⟩ mg base (k + 1) f fd ps (upSp ⟨P, w, K⟩ sp) := by
  refine ⟨fun vs H Q E ⟨ws, M, Qw, Ew, rs, _, h, _⟩ => by rw [rs.length]; exact len _ _ _ _ h, fun A stk s H as us vs Q E hg hr e0 hb rv ⟨ws, M, Qw, Ew, rs, m, h, k1, k2⟩ => ?_⟩
  have hl : vs.length = ps.length := by rw [rs.length]; exact len _ _ _ _ h
  refine body_at (B := ⟨P, w, K⟩) F S hl hr e0 hb rv fun cdv hr2 => ⟨_, body cdv A stk s H E M hg hr2, wStart N ws, M, wEnd Qw, ⟨fun i y e => ?_, ?_, m, Go.refl _ _⟩, rd ws M Qw Ew h, fun ρ' M' σ' H' ⟨M0, s0, q⟩ g so => k1 .non M0 .non H' q (g.sub s0) rep_non (so.mo.sub s0),
    fun y M' v H' ⟨M0, s0, q⟩ g r m' => k1 y M0 v H' q (g.sub s0) r (m'.sub s0), fun _ _ _ _ z => z.elim, fun _ _ _ _ z => z.elim⟩
  · exact start_env rs e
  · exact start_len rs
end
/-! ### the head -/
section
variable {P : Program} {w : World} {K : PySem.W.Frag} {mg mb : Str → Option Value} {s1 : Shared} {a : Addr} {vs : List Value}
theorem env_at {H : Hp} (KX : K.In s1.heap) (hns : s1.heap.Ns mainGlobals mg) (hb : s1.heap.Ns builtinsNs mb) (hbb : ∀ x : Str, x ≠ "__name__" → mb x = bootBuiltins x) (lim : s1.heap.NoLimit) (hg : s1.gens = #[])
    (ha : s1.heap.get? a = some { cls := .type "list", data := .seq vs.toArray }) (hok : HOk P w H s1.heap) (hA : ∀ b, H b ≠ none → b = a) (hK : H a ≠ none → K.lookup a = none) :
    K.In (hidT s1.heap H) ∧ (hidT s1.heap H).Ns mainGlobals mg ∧ Env0 P w K mg (hidT s1.heap H) callerA [] s1 H := by
  have free : ∀ b, b ≠ a → H b = none := fun b nb => by
    cases q : H b with
    | none => rfl
    | some u => exact absurd (hA b (by rw [q]; exact Option.some_ne_none _)) nb
  have names : ∀ {b : Addr} {m : Str → Option Value}, s1.heap.Ns b m → (hidT s1.heap H).Ns b m := by
    rintro b m ⟨o, es, ep, e, d, r⟩
    refine ⟨o, es, ep, hidT_get e (free b fun z => ?_), d, r⟩
    rw [z, ha] at e
    have e2 := Option.some.inj e
    rw [← e2] at d
    cases d
  have inH : K.In (hidT s1.heap H) := fun b o e => hidT_get (KX b o e) (by
    by_cases z : b = a
    · cases q : H b with
      | none => rfl
      | some u =>
        rw [z] at e q
        rw [hK (by rw [q]; exact Option.some_ne_none _)] at e
        cases e
    · exact free b z)
  obtain ⟨mc, c1, c2⟩ := lim
  refine ⟨inH, names hns, rfl, ⟨inH, names hns, ⟨mb, names hb, hbb⟩, mc, names c1, c2⟩, fun b o e => of_hidT e, Nat.le_of_eq (hidT_size _ _), trivial, fun b z => ?_, hok, .of_eq hg⟩
  cases z
theorem law_callG {k : Nat} {fa : Addr} {fd : FuncData} {ns : List Int} (KX : K.In s1.heap) (hns : s1.heap.Ns mainGlobals mg) (hb : s1.heap.Ns builtinsNs mb) (hbb : ∀ x : Str, x ≠ "__name__" → mb x = bootBuiltins x) (lim : s1.heap.NoLimit) (hg : s1.gens = #[])
    (ha : s1.heap.get? a = some { cls := .type "list", data := .seq vs.toArray }) (hi : IntsAre vs ns) (hl : ns.length ≤ 63) (hbits : ∀ z ∈ ns, Builtin.Int.intBits z ≤ 1048576) (hr : Room k callerA)
    (F : ∀ base : Heap, K.In base → base.Ns mainGlobals mg → FnG ⟨P, w, K⟩ mg base k fa fd ["script"] (upSp ⟨P, w, K⟩ spLaw)) (bd : ∀ (s : Shared) (u : Value), BindsTo s fd ⟨[u], []⟩ [("script", u)]) :
    codeAny (model P w) callerA (.call (.ref fa) ⟨[.ref a], []⟩) (fun r s' => r = .ok (.ret (.bool true)) ∧ OldK s1.heap s'.heap ∧ s'.os = s1.os ∧ AllBare s'.gens) s1 := by
  have rv := vals_ints hi
  have main : ∀ H : Hp, (∀ b, H b = none ∨ ∃ o xs, H b = some (.frz o (.lst xs))) → Cl K H a (ns.map V.int) → HOk P w H s1.heap → (∀ b, H b ≠ none → b = a) → (H a ≠ none → K.lookup a = none) →
      codeAny (model P w) callerA (.call (.ref fa) ⟨[.ref a], []⟩) (fun r s' => r = .ok (.ret (.bool true)) ∧ OldK s1.heap s'.heap ∧ s'.os = s1.os ∧ AllBare s'.gens) s1 := by
    intro H hO c hok hA hK
    obtain ⟨i1, i2, e0⟩ := env_at (P := P) (w := w) KX hns hb hbb lim hg ha hok hA hK
    have sp : upSp ⟨P, w, K⟩ spLaw [.ref a] H (fun v _ => v = .bl true) (fun _ _ _ => False) := by
      refine ⟨[.cl (ns.map W.int)], fun _ => none, fun w _ => w = .bl true, fun _ _ => False, .cons ?_ .nil, fun b o z => (nomatch z), ⟨ns, rfl, hl, hbits, fun _ => rfl⟩, fun w M' v H' hw _ r _ => ?_, fun _ _ _ z => z.elim⟩
      · unfold Rep
        exact ⟨a, _, rfl, c, Reps.of_ints⟩
      · subst hw
        exact un_bl r
    refine codeAny_mono ((F _ i1 i2).go callerA [] s1 H ⟨[.ref a], []⟩ [.ref a] [.ref a] _ _ rfl hr e0 (bd s1 _) (.cons rfl .nil) sp) fun r s' h => ?_
    match r, h with
    | .error e, h => exact (show False from h).elim
    | .ok (.ret u), h =>
      obtain ⟨v, H', os, bare, un, hok2, r2, q⟩ := h
      have q2 : v = .bl true := q
      rw [q2] at r2
      have r3 : u = Value.bool true := r2
      rw [r3]
      refine ⟨rfl, OldK.of_keep fun b o e => ?_, os, bare⟩
      rcases hO b with z | ⟨ob, xs, z⟩
      · exact un.keep b o e z (fun y => nomatch y) (fun y => nomatch y)
      · have g1 := (hok b _ z).1
        have g2 := (hok2 b _ (un.frzs b ob _ z)).1
        rw [e] at g1
        rw [g2, Option.some.inj g1]
  have sz : (ns.map V.int).length ≤ sizeLine := by rw [List.length_map]; exact line_le (by omega)
  cases hk : K.lookup a with
  | some o =>
    have e := KX a o hk
    rw [ha] at e
    have e2 := Option.some.inj e
    subst e2
    have pc : Cl K (fun _ => none) a (ns.map V.int) := .inr ⟨_, vs.toArray, _, hk, rfl, rfl, rfl, by rw [List.size_toArray, hi.length]; exact line_le (by omega), by simpa using rv⟩
    exact main (fun _ => none) (fun _ => .inl rfl) pc (fun b u z => nomatch z) (fun b z => absurd rfl z) fun z => absurd rfl z
  | none =>
    have at_a : (if a = a then some (HO.frz { cls := .type "list", data := .seq vs.toArray } (.lst (ns.map V.int))) else none) = some (.frz { cls := .type "list", data := .seq vs.toArray } (.lst (ns.map V.int))) := if_pos rfl
    refine main (fun b => if b = a then some (.frz { cls := .type "list", data := .seq vs.toArray } (.lst (ns.map V.int))) else none) (fun b => ?_) (.inl ⟨_, at_a⟩) (fun b u z => ?_) (fun b z => ?_) fun _ => hk
    · by_cases hb2 : b = a
      · exact .inr ⟨_, _, if_pos hb2⟩
      · exact .inl (if_neg hb2)
    · by_cases hb2 : b = a
      · subst hb2
        have z2 := (if_pos rfl).symm.trans z
        cases z2
        exact ⟨ha, sz, vs, _, rv, ha⟩
      · have z2 := (if_neg hb2).symm.trans z
        cases z2
    · exact Classical.byContradiction fun hb2 => z (if_neg hb2)
end
theorem walkG {l : PySem.W.OpenLaw} {k : Nat} {q : Program} {loose : List Str} {XP : (Str → Option Value) → Heap → Prop} {YP : World → Heap → Prop} {d : DefRec} {K : Params → PySem.W.Frag}
    (hn : l.most = some 63) (hdf : d.params.defaults = []) (hr : Room k callerA) (hY : ∀ (w : World) (h : Heap), YP w h → (K w.params).In h)
    (F : ∀ (w : World) (mg : Str → Option Value) (fa : Addr) (h : Heap), (K w.params).In h → h.Ns mainGlobals mg → mg d.name = some (.ref fa) →
      ∃ fd : FuncData, (∀ (s : Shared) (u : Value), BindsTo s fd ⟨[u], []⟩ [("script", u)]) ∧ ∀ base : Heap, (K w.params).In base → base.Ns mainGlobals mg → FnG ⟨l.prog, w, K w.params⟩ mg base k fa fd ["script"] (upSp ⟨l.prog, w, K w.params⟩ spLaw)) :
    PySem.W.WalkO q loose XP YP l.row.toRowW d [] (fun f vs => PySem.call f vs) := by
  refine Att.attach_callB hn hdf fun w s0 s1 mg mb fa o pm cd doc a vs ns G Y ho hd hcd hmg hobj hints hlen hbits hg => ?_
  have KX := hY w _ Y
  obtain ⟨fd, hb, hF⟩ := F w mg fa _ KX G.T.g hmg
  exact law_callG KX G.T.g G.T.b G.T.builtins G.T.nolimit hg hobj hints hlen hbits hr hF hb
/-! ### repr of data in a list -/
theorem call_reprL {X : Cx} (gd : X.A.guards = some []) (hu : X.A.units + 64 < cLine) : CallR X (.builtin "repr") fun xs H Q => ∃ a d, xs = [.ref a] ∧ Dp X.K H (.ref a) d ∧ d.showable = true ∧ d.hasDict = false ∧ d.depth ≤ 60 ∧ d.shown.length ≤ sizeLine ∧ Q (.str d.shown) H := by
  intro pins s σ H xs us Q I r h
  obtain ⟨a, d, rfl, hd, hs, nd, dp, hz, q⟩ := h
  obtain ⟨u, rfl, ru⟩ := vals1 r
  cases ru
  obtain ⟨as, rd⟩ := Dp.reads I d (.ref a) (.ref a) hd rfl
  exact repr_of_reads' rd hs (fun z => by rw [nd] at z; cases z) gd (by omega) (fun _ _ e => e) (fun h' u tk k => ⟨.str d.shown, H, I.kept k, ⟨u, rfl⟩, q⟩) hz
def rRepr : RLW := fun ws M Q => match ws with
  | [.ref a] => ∃ d : PyData, Dw M d (.ref a) ∧ d.showable = true ∧ d.hasDict = false ∧ d.depth ≤ 60 ∧ d.shown.length ≤ sizeLine ∧ Q (.str d.shown) M
  | _ => False
theorem w_repr {X : Cx} (gd : X.A.guards = some []) (hu : X.A.units + 64 < cLine) : CallW X (.builtin "repr") rRepr := CallR_imp (call_reprL gd hu) fun xs H Q ⟨ws, M, Qw, rs, m, q, k⟩ => by
  unfold rRepr at q
  split at q
  · obtain ⟨d, h1, h2, h3, h4, h5, q⟩ := q
    obtain ⟨v, e, r⟩ := args1 rs
    subst e
    have e2 := un_ref r
    subst e2
    exact ⟨_, d, rfl, dw_dp m d _ _ h1 r, h2, h3, h4, h5, k _ M _ H q (Go.refl _ _) rep_str m⟩
  · exact q.elim
end PV
set_option maxHeartbeats 4000000
/-! PV: sorted(set(..)) of a list of whole numbers. -/
namespace L2
open PySem PySem.Spec PyProof.Rows
section
variable {P : Program} {w : World} {A : Around} {E : Value → Shared → Prop} {s : Shared}
/-- an empty set is laid -/
abbrev emptyS (w : World) : Obj := { cls := .type "set", dict := none, data := .set #[] 0 (.fresh 0 0 (!w.params.followText "set-order")) }
theorem set_of_list {l : Addr} {its : Array Value} (ns : List Int) {Q : Value → Shared → Prop} (hh : A.handled = none) (hl : s.heap.IsList l its) (hit : IntsAre its.toList ns) (hb : ns.length + 1 < scanBound)
    (goal : ∀ (h' : Heap) (tk c : Nat), SetR w h' s.heap.objs.size (fun j => decide (j ∈ ns)) c → c ≤ ns.length → (∀ b o, s.heap.get? b = some o → h'.get? b = some o) → Q (.ref s.heap.objs.size) { s with heap := h', toks := tk }) :
    wpAny (model P w) A (call (.type "set") [.ref l]) Q E s := by
  have sz : its.size = ns.length := (Array.length_toList (xs := its)).symm.trans (IntsAre.length hit)
  obtain ⟨mc, mtl, hmro⟩ := F.called_set.mro
  have f1 := F.called_set.made
  have f2 := F.called_set.sub
  apply wpAny_call
  apply codeAny_of_tree
  show wpAny _ _ (callAny (.type "set") _) _ _ _
  apply wpAny_pure
  refine ⟨Code.quiet_builtin _ (by decide +kernel), codeAny_builtin F.entry_type_call ?_⟩
  rw [Around.under_plain (weight_type_call_type "set" [.ref l] []) rfl]
  have f3 := F.called_set.notType
  have f4 := F.called_set.canCreate
  have f5 := F.typeCall_set_1 (.ref l)
  repeat any_goals first | assumption | wp_step
  refine codeAny_mono (code_set_led1 (.ref l) (E := E) (Q₁ := fun ob z => ob = .ref s.heap.objs.size ∧ z = { s with heap := s.heap.push (emptyS w) }) ⟨rfl, rfl⟩) fun r z hr => ?_
  match r, hr with
  | .error e, hr => exact hr
  | .ok (.ret ob), hr =>
    obtain ⟨rfl, rfl⟩ := hr
    have at0 : (s.heap.push (emptyS w)).get? s.heap.objs.size = some (emptyS w) := Heap.get?_push_size _ rfl
    have ty0 : Shared.TypeIs { s with heap := s.heap.push (emptyS w) } (.ref s.heap.objs.size) "set" := ⟨_, at0, rfl⟩
    have g1 := F.called_set.init.lookup
    have g2 := F.called_set.init.bind (.ref s.heap.objs.size)
    repeat any_goals first | assumption | wp_step
    refine codeAny_mono (codeAny_call_builtin (R := wants (fun r z => r = .none ∧ ∃ h' tk c, z = { s with heap := h', toks := tk } ∧ SetR w h' s.heap.objs.size (fun j => decide (j ∈ ns)) c ∧ c ≤ ns.length ∧ (∀ b o, s.heap.get? b = some o → h'.get? b = some o)) E)
      F.called_set.init.plain F.entry_set_init (check_set_init_1 ty0 ?_)) fun r2 z2 hr2 => ?_
    · obtain ⟨lo, hlo, hcl, nl, hdl⟩ := hl
      obtain ⟨lc, ld, lx, lsl⟩ := lo
      simp only at hcl hdl
      subst hcl
      subst hdl
      have hlo2 : (s.heap.push (emptyS w)).get? l = some { cls := .type "list", dict := ld, data := .seq its nl, slots := lsl } := Heap.get?_push_of_some _ hlo
      have g3 := F.sub_list_set
      have g4 := F.sub_list_frozenset
      have g5 : (Value.type "list" == Value.type "dict") = false := by decide
      have isl : (s.heap.push (emptyS w)).IsList l its := ⟨_, hlo2, rfl, nl, rfl⟩
      unfold Builtin.«set.__init__» noKeywords Builtin.Frozenset.updateFrom
      generalize hPI : pyIter = PI
      wp_walk
      subst hPI
      refine wpAny_pyIter_list isl ?_
      apply wpAny_bind
      apply wpAny_runValue
      have lt0 : l < s.heap.objs.size := Heap.lt_size hlo
      have hd3 : A.in1.in1.in1.handled = none := by simp [hh]
      have ne0 : l ≠ (s.heap.push (emptyS w)).objs.size := by rw [Heap.size_push]; exact Nat.ne_of_lt (.step lt0)
      have nf0 : s.heap.objs.size ∉ [(s.heap.push (emptyS w)).objs.size, l] := by
        rw [Heap.size_push]
        simp only [List.mem_cons, List.not_mem_nil, or_false, not_or]
        exact ⟨Nat.ne_of_lt (.refl), Nat.ne_of_gt lt0⟩
      have vals : ∀ (i : Nat) (v : Value), its[i]? = some v → ∃ k t, ns[i]? = some k ∧ v = .int k t := fun i v hv => by
        have hi : i < ns.length := by rw [← sz]; exact (Array.getElem?_eq_some_iff.mp hv).1
        obtain ⟨t, e⟩ := PyProof.Rows.IntsAre.int_at hit i v (by rw [Array.getElem?_toList]; exact hv)
        refine ⟨ns[i], t, List.getElem?_eq_getElem hi, ?_⟩
        rw [e, List.getD_eq_getElem?_getD, List.getElem?_eq_getElem hi]
        rfl
      refine set_update_ints ((Walks.list hd3 _ l ne0 its).toS) s.heap.objs.size nf0 ns sz hb vals (its.size - 0) 0 _ (by omega) (Nat.zero_le _) ⟨⟨_, Heap.get?_push_size _ rfl, rfl, rfl⟩, isl.push _⟩ ?c1 ?c2
      case c1 => exact ⟨0, Nat.le_refl 0, setR_new_at (Heap.get?_push_of_some _ at0)⟩
      case c2 =>
        intro z3 c' hm hc' hS'
        obtain ⟨h', g', d', tk', os'⟩ := z3
        have q1 : g' = s.gens := hm.gens
        have q2 : d' = s.drawn := hm.drawn
        have q3 : os' = s.os := hm.os
        subst q1
        subst q2
        subst q3
        show wpAny _ _ _ _ _ _
        apply wpAny_pure
        show wpAny _ _ (ret Value.none) _ _ _
        rw [sz] at hc'
        apply wpAny_pure
        refine ⟨rfl, h', tk', c', rfl, hS', hc', fun b o e => ?_⟩
        have hb0 : b < s.heap.objs.size := Heap.lt_size e
        refine hm.heap b o ?_ (Heap.get?_push_of_some _ (Heap.get?_push_of_some _ e))
        rw [Heap.size_push]
        simp only [List.mem_cons, List.not_mem_nil, or_false, not_or]
        exact ⟨Nat.ne_of_lt hb0, Nat.ne_of_lt (.step hb0)⟩
    · match r2, hr2 with
      | .error e, hr2 => exact hr2
      | .ok (.ret r), hr2 =>
        obtain ⟨rfl, h', tk, c', rfl, q1, q2, q3⟩ := hr2
        repeat any_goals first | assumption | wp_step
        exact goal _ _ _ q1 q2 q3
      | .ok .next, hr2 => exact hr2.elim
      | .ok .brk, hr2 => exact hr2.elim
      | .ok .cont, hr2 => exact hr2.elim
  | .ok .next, hr => exact hr.elim
  | .ok .brk, hr => exact hr.elim
  | .ok .cont, hr => exact hr.elim
end
end L2

namespace PV
open PySem PySem.Spec PyProof.Rows L2
theorem setR_keys {w : World} {h : Heap} {a : Addr} {ns : List Int} {n : Nat} (R : SetR w h a (fun j => decide (j ∈ ns)) n) : ∃ ks : List Int, ks.Nodup ∧ ks.length = n ∧ ∀ k, k ∈ ks → k ∈ ns := by
  obtain ⟨o, es, ep, t, _, _, _, _, nd, hm, _, _, hn, _⟩ := R
  exact ⟨es.toList.map keyOf, nd, by rw [List.length_map, Array.length_toList]; exact hn, fun k hk => of_decide_eq_true ((hm k).mpr hk)⟩
theorem nd_le : ∀ (l l' : List Int), l.Nodup → (∀ a ∈ l, a ∈ l') → l.length ≤ l'.length
  | [], _, _, _ => Nat.zero_le _
  | x :: l, l', nd, sb => by
    have hx := sb x (.head _)
    have nx := List.nodup_cons.mp nd
    have := nd_le l (l'.erase x) nx.2 (fun a ha => (List.mem_erase_of_ne (fun z => nx.1 (by rw [← z]; exact ha))).mpr (sb a (.tail _ ha)))
    rw [List.length_erase_of_mem hx] at this
    have hp : 0 < l'.length := List.length_pos_of_mem hx
    rw [List.length_cons]
    omega
/-- set(l), l a list of whole numbers -/
def rSetLI (K : PySem.W.Frag) (w : World) : List V → Hp → VK → Prop := fun xs H Q => ∃ (l : Addr) (ns : List Int), xs = [V.ref l] ∧ SqL K H l (ns.map V.int) ∧ ns.length + 1 < scanBound ∧
  ∀ p n, H p = none → (∃ ks : List Int, ks.Nodup ∧ ks.length = n ∧ ∀ k, k ∈ ks → k ∈ ns) → Q (.ref p) (upd H p (SetO w p (fun j => decide (j ∈ ns)) n))
theorem cr_setLI {X : Cx} (hc : X.calm = true) : CallR X (.type "set") (rSetLI X.K X.w) := by
  intro pins s σ H xs us Q I r h
  obtain ⟨l, ns, rfl, hs, hb, q⟩ := h
  rw [Vals.ref1 r]
  obtain ⟨its, rv, pl, _⟩ := I.list hs
  have hi : IntsAre its.toArray.toList ns := intsAre_of rv
  have isl : s.heap.IsList l its.toArray := by
    obtain ⟨o, n, ho, hcl, hd, hx⟩ := pl
    exact ⟨o, ho, hcl, n, hx⟩
  refine set_of_list ns (I.ok.hd hc) isl hi hb fun h' tk c R hle k => ?_
  have hn : H s.heap.objs.size = none := I.hok.fresh (Nat.le_refl _)
  exact ⟨.ref s.heap.objs.size, _, I.laid (t' := tk) k (Nat.le_refl _) (setO_new R), rfl, q _ c hn (setR_keys R)⟩
def wSortedSet (t : WE) : WE := fun ρ M Q => t ρ M fun x M1 => match x with
  | .ref a => ∃ ns : List Int, rdl (M1 a) = some (ns.map W.int) ∧ (ns.length < 4000 ∧ ∃ ms : List Int, ms.length < 64 ∧ ∀ k ∈ ns, k ∈ ms) ∧ ∀ ns' : List Int, ns'.Pairwise (· < ·) → (∀ k, k ∈ ns' ↔ k ∈ ns) → frs (.lst (ns'.map W.int)) M1 Q
  | _ => False
theorem q_sortedSet {Y : Cy} {e : Expr} {t : WE} {p1 p2 pos1 pos2 : Pos} (hc : Y.X.calm = true) (hg1 : Gl Y.X "sorted") (hm1 : Y.X.mg "sorted" = none) (hg2 : Gl Y.X "set") (hm2 : Y.X.mg "set" = none) (he : QE Y e t)
    (hs1 : starEach [.Call (.Name "set" p2) [e] [] pos2] Y.X.env = (false, eval (.Call (.Name "set" p2) [e] [] pos2) Y.X.env) :: starEach [] Y.X.env := by rfl) (hs2 : starEach [e] Y.X.env = (false, eval e Y.X.env) :: starEach [] Y.X.env := by rfl)
    (hpl : (backTo pos1 (starEach [] Y.X.env)).any (·.1) = false := by rfl) (hpl2 : (backTo pos2 (starEach [] Y.X.env)).any (·.1) = false := by rfl) :
    QE Y (.Call (.Name "sorted" p1) [.Call (.Name "set" p2) [e] [] pos2] [] pos1) (wSortedSet t) :=
  PE_imp (pe_callB (id := "sorted") (cr_sortedSet hc) hg1 hm1 (by decide +kernel) (pa_cons (pe_callTy (cr_setLI hc) hg2 hm2 (by decide +kernel) (pa_cons he pa_nil hs2) (by decide) (by decide) hs2 hpl2) pa_nil hs1) (by decide) (by decide) hs1 hpl)
    fun σ H Q ⟨ρ, M, Qw, so, q, k⟩ => ⟨ρ, M, _, so, q, fun w1 M1 v H1 q1 g r m => by
      split at q1
      · rename_i a
        obtain ⟨ns, h1, ⟨h2, ms, h3, h4⟩, q1⟩ := q1
        obtain ⟨vs, sq, rs⟩ := rdl_sq m h1
        have e2 := Reps.ints rs
        subst e2
        have ev := un_ref r
        subst ev
        refine ⟨a, ns, rfl, sq, by simp only [scanBound]; omega, fun p n hp hn => ?_⟩
        obtain ⟨ks, k1, k2, k3⟩ := hn
        have k4 := nd_le ks ms k1 (fun k hk => h4 k (k3 k hk))
        refine ⟨p, fun j => decide (j ∈ ns), n, rfl, upd_same, by omega, fun ns' q hs hmem hl hq => ?_⟩
        have mp := m.new (o := SetO Y.X.w p (fun j => decide (j ∈ ns)) n) hp
        have gp : Go H1 M1 (upd H1 p (SetO Y.X.w p (fun j => decide (j ∈ ns)) n)) M1 := Go.same (sameNew hp)
        have gq := GoH.new (o := .lst (ns'.map V.int)) hq
        refine k _ _ _ _ (q1 ns' hs (fun z => by rw [hmem z, decide_eq_true_eq]) q (mp.free hq)) ((g.trans gp).trans (Go.new hq)) rep_ref (mp.put gq ⟨_, upd_same, Reps.of_ints⟩)
      · exact q1.elim⟩
/-- a callee that is never called -/
def spNo : PSp := fun _ _ _ _ => False
theorem dk_no {B : Kx} {mg : Str → Option Value} {base : Heap} {k : Nat} {x : Str} {ps : List Str} {f : Addr} {fd : FuncData} (h1 : mg x = some (.ref f)) (h2 : PySem.W.keepIn B.K (.ref f) = true) (h3 : Binds B.K fd ps []) : Dk B mg base k x ps spNo :=
  ⟨f, fd, h1, h2, h3, fun _ _ _ _ ⟨_, _, _, _, _, _, h, _⟩ => h.elim, fun _ _ _ _ _ _ _ _ _ _ _ _ _ ⟨_, _, _, _, _, _, h, _⟩ => h.elim⟩
/-- a promise that nothing asks for -/
theorem dk_vac {B : Kx} {mg : Str → Option Value} {base : Heap} {k : Nat} {x : Str} {ps : List Str} {f : Addr} {fd : FuncData} {sp : PSp} (h1 : mg x = some (.ref f)) (h2 : PySem.W.keepIn B.K (.ref f) = true) (h3 : Binds B.K fd ps []) (hn : ∀ ws M Q E, sp ws M Q E → False) : Dk B mg base k x ps sp :=
  ⟨f, fd, h1, h2, h3, fun _ _ _ _ ⟨_, _, _, _, _, _, h, _⟩ => (hn _ _ _ _ h).elim, fun _ _ _ _ _ _ _ _ _ _ _ _ _ ⟨_, _, _, _, _, _, h, _⟩ => (hn _ _ _ _ h).elim⟩
end PV
set_option maxHeartbeats 4000000
/-! PV: tuple * 1. -/
namespace L2
open PySem PySem.Spec PyProof.Rows
theorem tuple_mul_1 (l : Addr) (items : Array Value) (n : Nat) (dd : Option Addr) (sl : Array (Option Value)) (u : Tok) :
    Meets (Builtin.«tuple.__mul__» ⟨[.ref l, .int 1 u], []⟩) (fun _ R s => s.heap.get? l = some { cls := .type "tuple", dict := dd, data := .seq items n, slots := sl } ∧ R (.ok (.ret (Value.ref l))) s) :=
  .of_wp fun prog w A R s h => by
    obtain ⟨hp, g, d, tk, os⟩ := s
    obtain ⟨hl, h⟩ := h
    have f1 := AutoSeq1.idx_int
    have d0 : (decide ((1 : Int) < -(2 ^ 63)) || decide ((1 : Int) ≥ 2 ^ 63)) = false := by decide
    have d1 : (items.isEmpty || (1 : Int) == 1) = true := by simp
    wp_walk using wpAny_loadPart' hl
    exact ⟨_, rfl, h⟩
theorem op_rep1 {X : Cx} : OpR X (binaryOp .Mult) fun x y H Q => ∃ l xs, x = .ref l ∧ y = .int 1 ∧ SqT X.K H l xs ∧ Q (.ref l) H := by
  intro pins s σ H x y v u Q I rx ry h
  obtain ⟨l, xs, rfl, rfl, hT, q⟩ := h
  cases rx
  obtain ⟨t, rfl⟩ := ry
  obtain ⟨its, r, ⟨⟨tc, dd, tdat, sl⟩, ho, hc, n, hd⟩, _⟩ := I.tuple hT
  simp only at hc hd
  subst hc
  subst hd
  refine wpAny_binaryOp_repeat_ref (T := "tuple") (U := "int") (by decide) ⟨_, ho, rfl⟩ (fun z => typeIs_int z 1 t) noFill_tuple_mul F.fills_int_mul F.slot_int_rmul repeat_tuple F.slot_int_index.lookup
    (call_meets F.slot_int_rmul (typeIs_int s 1 t) F.entry_int_rmul (F.args_int_rmul_2 _ _) (int_rmul_tuple 1 t l its.toArray n dd sl) ⟨ho, rfl, ⟨_, ho, rfl⟩, ?_⟩)
  exact call_meets F.slot_tuple_mul ⟨_, ho, rfl⟩ F.entry_tuple_mul (F.args_tuple_mul_2 _ _) (tuple_mul_1 l its.toArray n dd sl t) ⟨ho, .ref l, H, I, rfl, q⟩
theorem tuple_mul_0 (l : Addr) (items : Array Value) (n : Nat) (dd : Option Addr) (sl : Array (Option Value)) (u : Tok) (hi : items.isEmpty = false) :
    Meets (Builtin.«tuple.__mul__» ⟨[.ref l, .int 0 u], []⟩) (fun _ R s => s.heap.get? l = some { cls := .type "tuple", dict := dd, data := .seq items n, slots := sl } ∧
      R (.ok (.ret (Value.ref s.heap.objs.size))) { s with heap := s.heap.push { cls := Value.type "tuple", data := Data.seq #[] }, toks := s.toks }) :=
  .of_wp fun prog w A R s h => by
    obtain ⟨hp, g, d, tk, os⟩ := s
    obtain ⟨hl, h⟩ := h
    have f1 := AutoSeq1.idx_int
    have d0 : (decide ((0 : Int) < -(2 ^ 63)) || decide ((0 : Int) ≥ 2 ^ 63)) = false := by decide
    have d1 : (items.isEmpty || (0 : Int) == 1) = false := by rw [hi]; rfl
    have d2 : (decide ((0 : Int) ≤ 0) || items.isEmpty) = true := by rw [hi]; rfl
    wp_walk using wpAny_loadPart' hl
    exact ⟨_, rfl, h⟩
theorem op_rep0 {X : Cx} : OpR X (binaryOp .Mult) fun x y H Q => ∃ l xs, x = .ref l ∧ y = .int 0 ∧ SqT X.K H l xs ∧ xs ≠ [] ∧ ∀ p, H p = none → Q (.ref p) (upd H p (.tup [])) := by
  intro pins s σ H x y v u Q I rx ry h
  obtain ⟨l, xs, rfl, rfl, hT, hne, q⟩ := h
  cases rx
  obtain ⟨t, rfl⟩ := ry
  obtain ⟨its, r, ⟨⟨tc, dd, tdat, sl⟩, ho, hc, n, hd⟩, _⟩ := I.tuple hT
  simp only at hc hd
  subst hc
  subst hd
  have hle : its.length = xs.length := r.length.symm
  have hi : its.toArray.isEmpty = false := by
    cases its with
    | nil => exact absurd (List.eq_nil_of_length_eq_zero hle.symm) hne
    | cons a b => rfl
  refine wpAny_binaryOp_repeat_ref (T := "tuple") (U := "int") (by decide) ⟨_, ho, rfl⟩ (fun z => typeIs_int z 0 t) noFill_tuple_mul F.fills_int_mul F.slot_int_rmul repeat_tuple F.slot_int_index.lookup
    (call_meets F.slot_int_rmul (typeIs_int s 0 t) F.entry_int_rmul (F.args_int_rmul_2 _ _) (int_rmul_tuple 0 t l its.toArray n dd sl) ⟨ho, rfl, ⟨_, ho, rfl⟩, ?_⟩)
  refine call_meets F.slot_tuple_mul ⟨_, ho, rfl⟩ F.entry_tuple_mul (F.args_tuple_mul_2 _ _) (tuple_mul_0 l its.toArray n dd sl t hi) ⟨ho, ?_⟩
  refine ⟨.ref s.heap.objs.size, _, I.laid (t' := s.toks) (o := .tup []) (fun b ob q => Heap.get?_push_of_some _ q) (Nat.le_refl _) ?_, rfl, q _ (I.hok.fresh (Nat.le_refl _))⟩
  exact ⟨by simp, [], .nil, IsTup.new _ _⟩
end L2
namespace PV
open PySem PySem.Spec PyProof.Rows L2
/-- tuple * n, n from 0 on -/
def rMulT : R2W := fun x y M Q => match x, y with
  | .tup xs, .int k => 0 ≤ k ∧ k ≤ 1000 ∧ xs.length ≤ 1000 ∧ xs ≠ [] ∧ Q (.tup (List.replicate k.toNat xs).flatten) M
  | _, _ => False
theorem wop_mul1 {X : Cx} : OpW X (binaryOp .Mult) fun x y M Q => ∃ xs, x = .tup xs ∧ y = .int 1 ∧ Q (.tup xs) M :=
  OpR_imp op_rep1 fun x y H Q ⟨wx, wy, M, Qw, rx, ry, m, ⟨xs, ex, ey, q⟩, k⟩ => by
    subst ex ey
    have rx2 := rx
    obtain ⟨a, vs, e1, s1, r1⟩ := rx.untup
    exact ⟨a, vs, e1, un_int ry, s1, by rw [← e1]; exact k _ M _ _ q (Go.refl _ _) rx2 m⟩
theorem wop_mul0 {X : Cx} : OpW X (binaryOp .Mult) fun x y M Q => ∃ xs, x = .tup xs ∧ y = .int 0 ∧ xs ≠ [] ∧ Q (.tup []) M :=
  OpR_imp op_rep0 fun x y H Q ⟨wx, wy, M, Qw, rx, ry, m, ⟨xs, ex, ey, hne, q⟩, k⟩ => by
    subst ex ey
    obtain ⟨a, vs, e1, s1, r1⟩ := rx.untup
    refine ⟨a, vs, e1, un_int ry, s1, fun e => hne ?_, fun p hp => ?_⟩
    · subst e
      exact List.eq_nil_of_length_eq_zero (by rw [← r1.length]; rfl)
    · exact k _ M _ _ q (Go.same (sameNew hp)) (Rep.tup (SqT.of upd_same) Reps.nil) (m.new hp)
theorem w_mulT {X : Cx} : OpW X (binaryOp .Mult) rMulT := OpW.or wop_mul0 (OpW.or wop_mul1 wop_mulT (r'' := fun x y M Q => _ ∨ _) fun _ _ _ _ h => h) fun x y M Q h => by
  unfold rMulT at h
  split at h
  · rename_i xs k
    obtain ⟨h1, h2, h3, h4, q⟩ := h
    by_cases e0 : k = 0
    · subst e0
      exact .inl ⟨xs, rfl, rfl, h4, by simpa using q⟩
    by_cases e : k = 1
    · subst e
      refine .inr (.inl ⟨xs, rfl, rfl, ?_⟩)
      have : (List.replicate (Int.toNat 1) xs).flatten = xs := by simp
      rw [this] at q
      exact q
    · exact .inr (.inr ⟨xs, k, rfl, rfl, ⟨h2, h3, by omega, h4⟩, q⟩)
  · exact h.elim
theorem mulT_0 {k : Nat} {M : Me} {Q : WK} {tg : Tg Q} (h : k ≤ 1000) (q : Q (.tup ((List.replicate k (0 : Int)).map W.int)) M) : lz (rMulT (.tup [.int 0]) (.int k) M) Q tg := by
  refine ⟨by omega, by omega, by simp, by simp, ?_⟩
  have e : (List.replicate (Int.toNat (k : Int)) [W.int 0]).flatten = (List.replicate k (0 : Int)).map W.int := by
    rw [Int.toNat_natCast, List.map_replicate]
    clear q h
    induction k with
    | zero => rfl
    | succ k ih => rw [List.replicate_succ, List.flatten_cons, ih, List.replicate_succ]; rfl
  rw [e]
  exact q
end PV
set_option maxHeartbeats 4000000
namespace PV
open PySem PySem.Spec PyProof.Rows L2
def t_p_cells_alone  : WS := (wSeq (wIfS (wB (wOp rEq2 (wOp rIx2 (wVar 0) (wC (.int 0))) (wC (.str "same")))) (wRet (wC (.int 0))) wNext) (wSeq (wIfS (wB (wOp rEq2 (wOp rIx2 (wVar 0) (wC (.int 0))) (wC (.str "joined")))) (wRet (wOp rShl2 (wOp rIx2 (wVar 0) (wC (.int 1))) (wOp rIx2 (wVar 0) (wC (.int 2))))) wNext) (wSeq (wIfS (wB (wOp rEq2 (wOp rIx2 (wVar 0) (wC (.int 0))) (wC (.str "own")))) (wRet (wOp rShl2 (wC (.int 1)) (wOp rIx2 (wVar 0) (wC (.int 2))))) wNext) (wSeq (wIfS (wB (wOp rEq2 (wOp rIx2 (wVar 0) (wC (.int 0))) (wC (.str "either")))) (wRet (wOp rIx2 (wVar 0) (wC (.int 3)))) wNext) (wRet (wOp rIx2 (wVar 0) (wC (.int 1))))))))

def t_p_first_state (c_p_cells_alone : PSp) (c_p_first_state : PSp) : WS := (wSeq (wSet 1 (wOp rMulT (wTup (wCons (wC (.int 0)) wNil)) (wFn c_p_cells_alone (wCons (wVar 0) wNil)))) (wSeq (wIfS (wB (wOp rEq2 (wOp rIx2 (wVar 0) (wC (.int 0))) (wC (.str "either")))) (wRet (wTup (wCons (wFn c_p_first_state (wCons (wOp rIx2 (wVar 0) (wC (.int 1))) wNil)) (wCons (wFn c_p_first_state (wCons (wOp rIx2 (wVar 0) (wC (.int 2))) wNil)) (wCons (wVar 1) wNil))))) wNext) (wSeq (wIfS (wB (wOp rIn2 (wOp rIx2 (wVar 0) (wC (.int 0))) (wTup (wCons (wC (.str "mixed")) (wCons (wC (.str "joined")) wNil))))) (wRet (wTup (wCons (wC (.int 0)) (wCons (wVar 1) wNil)))) wNext) (wSeq (wIfS (wB (wOp rEq2 (wOp rIx2 (wVar 0) (wC (.int 0))) (wC (.str "own")))) (wRet (wTup (wCons (wOp rMulT (wTup (wCons (wC (.int 0)) wNil)) (wOp rIx2 (wVar 0) (wC (.int 1)))) (wCons (wVar 1) wNil)))) wNext) (wRet (wVar 1))))))

def t_p_cells_in  : WS := (wSeq (wIfS (wB (wOp rEq2 (wOp rIx2 (wVar 0) (wC (.int 0))) (wC (.str "table")))) (wRet (wVar 1)) wNext) (wRet (wOp rIx2 (wVar 1) (wUn rNeg1 (wC (.int 1))))))

def t_p_cell_place  : WS := (wSeq (wIfS (wB (wOp rEq2 (wOp rIx2 (wVar 0) (wC (.int 0))) (wC (.str "table")))) (wRet (wOp rMod2 (wVar 2) (wOp rIx2 (wVar 0) (wC (.int 1))))) wNext) (wSeq (wIfS (wB (wOp rEq2 (wOp rIx2 (wVar 0) (wC (.int 0))) (wC (.str "mixed")))) (wRet (wOp rMod2 (wOp rAdd2 (wVar 2) (wOp rIx2 (wVar 1) (wC (.int 0)))) (wOp rIx2 (wVar 0) (wC (.int 1))))) wNext) (wSeq (wIfS (wB (wOp rEq2 (wOp rIx2 (wVar 0) (wC (.int 0))) (wC (.str "joined")))) (wRet (wOp rAdd2 (wOp rShl2 (wOp rMod2 (wVar 2) (wOp rIx2 (wVar 0) (wC (.int 1)))) (wOp rIx2 (wVar 0) (wC (.int 2)))) (wOp rIx2 (wVar 1) (wC (.int 0))))) wNext) (wSeq (wIfS (wB (wOp rEq2 (wOp rIx2 (wVar 0) (wC (.int 0))) (wC (.str "own")))) (wRet (wOp rIx2 (wOp rIx2 (wVar 1) (wC (.int 0))) (wOp rMod2 (wVar 2) (wOp rIx2 (wVar 0) (wC (.int 1)))))) wNext) (wRet (wOp rMod2 (wVar 2) (wOp rIx2 (wVar 0) (wC (.int 3)))))))))

def t_p_guess (c_p_cells_in : PSp) (c_p_cell_place : PSp) (c_p_guess : PSp) : WS := (wSeq (wIfS (wB (wOp rEq2 (wOp rIx2 (wVar 0) (wC (.int 0))) (wC (.str "same")))) (wRet (wOp rIx2 (wVar 0) (wC (.int 1)))) wNext) (wSeq (wSet 3 (wOp rIx2 (wOp rIx2 (wOp rIx2 (wVar 0) (wUn rNeg1 (wC (.int 1)))) (wC (.int 0))) (wOp rIx2 (wFn c_p_cells_in (wCons (wVar 0) (wCons (wVar 1) wNil))) (wFn c_p_cell_place (wCons (wVar 0) (wCons (wVar 1) (wCons (wVar 2) wNil))))))) (wSeq (wIfS (wB (wOp rEq2 (wOp rIx2 (wVar 0) (wC (.int 0))) (wC (.str "either")))) (wRet (wFn c_p_guess (wCons (wOp rIx2 (wVar 0) (wOp rAdd2 (wC (.int 1)) (wVar 3))) (wCons (wOp rIx2 (wVar 1) (wVar 3)) (wCons (wVar 2) wNil))))) wNext) (wRet (wVar 3)))))

def t_p_replaced  : WS := (wRet (wOp rAdd2 (wOp rAdd2 (wSl (wVar 0) wNoPart (wPart (wVar 1))) (wTup (wCons (wVar 2) wNil))) (wSl (wVar 0) (wPart (wOp rAdd2 (wVar 1) (wC (.int 1)))) wNoPart)))

def t_p_cells_behind (c_p_cells_in : PSp) (c_p_cell_place : PSp) (c_p_replaced : PSp) : WS := (wSeq (wSet 4 (wFn c_p_cells_in (wCons (wVar 0) (wCons (wVar 1) wNil)))) (wSeq (wSet 5 (wFn c_p_cell_place (wCons (wVar 0) (wCons (wVar 1) (wCons (wVar 2) wNil))))) (wRet (wFn c_p_replaced (wCons (wVar 4) (wCons (wVar 5) (wCons (wOp rIx2 (wOp rIx2 (wOp rIx2 (wVar 0) (wUn rNeg1 (wC (.int 1)))) (wOp rAdd2 (wC (.int 1)) (wVar 3))) (wOp rIx2 (wVar 4) (wVar 5))) wNil)))))))

def t_p_one_more  : WS := (wRet (wOp rMod2 (wOp rAdd2 (wOp rMul2 (wC (.int 2)) (wVar 0)) (wVar 2)) (wOp rShl2 (wC (.int 1)) (wVar 1))))

def t_p_learned_either (c_p_guess : PSp) (c_p_cells_behind : PSp) (c_p_learned : PSp) : WS := (wSeq (wSet 4 (wLc (wiSeq (wTup (wCons (wC (.int 0)) (wCons (wC (.int 1)) wNil)))) (wgName 6) wYes (wOp rEq2 (wFn c_p_guess (wCons (wOp rIx2 (wVar 0) (wOp rAdd2 (wC (.int 1)) (wVar 6))) (wCons (wOp rIx2 (wVar 1) (wVar 6)) (wCons (wVar 2) wNil)))) (wVar 3)) [6])) (wSeq (wSet 5 (wOp rIx2 (wVar 1) (wC (.int 2)))) (wSeq (wIfS (wB (wOp rNe2 (wOp rIx2 (wVar 4) (wC (.int 0))) (wOp rIx2 (wVar 4) (wC (.int 1))))) (wSet 5 (wFn c_p_cells_behind (wCons (wVar 0) (wCons (wVar 1) (wCons (wVar 2) (wCons (wCall rInt (wCons (wOp rIx2 (wVar 4) (wC (.int 1))) wNil)) wNil)))))) wNext) (wRet (wTup (wCons (wFn c_p_learned (wCons (wOp rIx2 (wVar 0) (wC (.int 1))) (wCons (wOp rIx2 (wVar 1) (wC (.int 0))) (wCons (wVar 2) (wCons (wVar 3) wNil))))) (wCons (wFn c_p_learned (wCons (wOp rIx2 (wVar 0) (wC (.int 2))) (wCons (wOp rIx2 (wVar 1) (wC (.int 1))) (wCons (wVar 2) (wCons (wVar 3) wNil))))) (wCons (wVar 5) wNil))))))))

def t_p_learned (c_p_learned_either : PSp) (c_p_cells_behind : PSp) (c_p_replaced : PSp) (c_p_one_more : PSp) : WS := (wSeq (wIfS (wB (wOp rEq2 (wOp rIx2 (wVar 0) (wC (.int 0))) (wC (.str "same")))) (wRet (wVar 1)) wNext) (wSeq (wIfS (wB (wOp rEq2 (wOp rIx2 (wVar 0) (wC (.int 0))) (wC (.str "either")))) (wRet (wFn c_p_learned_either (wCons (wVar 0) (wCons (wVar 1) (wCons (wVar 2) (wCons (wVar 3) wNil)))))) wNext) (wSeq (wSet 4 (wFn c_p_cells_behind (wCons (wVar 0) (wCons (wVar 1) (wCons (wVar 2) (wCons (wVar 3) wNil)))))) (wSeq (wIfS (wB (wOp rEq2 (wOp rIx2 (wVar 0) (wC (.int 0))) (wC (.str "table")))) (wRet (wVar 4)) wNext) (wSeq (wIfS (wB (wOp rEq2 (wOp rIx2 (wVar 0) (wC (.int 0))) (wC (.str "own")))) (wSeq (wSet 5 (wOp rMod2 (wVar 2) (wOp rIx2 (wVar 0) (wC (.int 1))))) (wRet (wTup (wCons (wFn c_p_replaced (wCons (wOp rIx2 (wVar 1) (wC (.int 0))) (wCons (wVar 5) (wCons (wFn c_p_one_more (wCons (wOp rIx2 (wOp rIx2 (wVar 1) (wC (.int 0))) (wVar 5)) (wCons (wOp rIx2 (wVar 0) (wC (.int 2))) (wCons (wVar 3) wNil)))) wNil)))) (wCons (wVar 4) wNil))))) wNext) (wRet (wTup (wCons (wFn c_p_one_more (wCons (wOp rIx2 (wVar 1) (wC (.int 0))) (wCons (wOp rIx2 (wVar 0) (wC (.int 2))) (wCons (wVar 3) wNil)))) (wCons (wVar 4) wNil)))))))))

def t_p_passed (c_p_guess : PSp) (c_p_learned : PSp) : WS := (wSeq (wSet 3 (wC (.int 0))) (wSeq (wFor (wiSeq (wVar 2)) (wgTup 2 (wgCons (wgName 4) (wgCons (wgName 5) wgNil))) (wSeq (wAug 3 (wCall rInt (wCons (wOp rNe2 (wFn c_p_guess (wCons (wVar 0) (wCons (wVar 1) (wCons (wVar 4) wNil)))) (wVar 5)) wNil)) rIAdd2) (wSet 1 (wFn c_p_learned (wCons (wVar 0) (wCons (wVar 1) (wCons (wVar 4) (wCons (wVar 5) wNil)))))))) (wRet (wTup (wCons (wVar 3) (wCons (wVar 1) wNil))))))

def t_p_misses_at (c_p_passed : PSp) (c_p_first_state : PSp) : WS := (wSeq (wSet 3 (wLc (wiSeq (wVar 1)) (wgName 4) (wB (wOp rIn2 (wOp rIx2 (wVar 4) (wC (.int 0))) (wVar 2))) (wVar 4) [4])) (wRet (wOp rIx2 (wFn c_p_passed (wCons (wVar 0) (wCons (wFn c_p_first_state (wCons (wVar 0) wNil)) (wCons (wVar 3) wNil)))) (wC (.int 0)))))

def t_p_places_of  : WS := (wSeq (wSet 1 wNewK) (wSeq (wFor (wiSeq (wVar 0)) (wgTup 2 (wgCons (wgName 2) (wgCons (wgName 3) wgNil))) (wAsg (wC (.bl true)) (wgSub (wVar 1) (wVar 2) rSet3))) (wRet (wCall rSorted2 (wCons (wVar 1) wNil)))))

def t_p_spoiled (c_p_places_of : PSp) (c_p_misses_at : PSp) : WS := (wSeq (wSet 2 (wFn c_p_places_of (wCons (wVar 1) wNil))) (wSeq (wSet 3 wNewK) (wSeq (wFor (wiSeq (wVar 2)) (wgName 4) (wAsg (wFn c_p_misses_at (wCons (wVar 0) (wCons (wVar 1) (wCons (wLst (wCons (wVar 4) wNil)) wNil)))) (wgSub (wVar 3) (wVar 4) rSet3))) (wSeq (wSet 5 (wLst wNil)) (wSeq (wFor (wiSeq (wVar 2)) (wgName 4) (wFor (wiSeq (wVar 2)) (wgName 6) (wIfS (wAnd (wB (wOp rLt2 (wVar 4) (wVar 6))) (wB (wOp rEq2 (wOp rMod2 (wVar 4) (wOp rIx2 (wVar 0) (wC (.int 1)))) (wOp rMod2 (wVar 6) (wOp rIx2 (wVar 0) (wC (.int 1))))))) (wSeq (wSet 7 (wOp rSub2 (wOp rSub2 (wFn c_p_misses_at (wCons (wVar 0) (wCons (wVar 1) (wCons (wLst (wCons (wVar 4) (wCons (wVar 6) wNil))) wNil)))) (wOp rIx2 (wVar 3) (wVar 4))) (wOp rIx2 (wVar 3) (wVar 6)))) (wIfS (wB (wOp rNe2 (wVar 7) (wC (.int 0)))) (wDrop (wMt rApp (wVar 5) (wCons (wTup (wCons (wVar 4) (wCons (wVar 6) (wCons (wVar 7) wNil)))) wNil))) wNext)) wNext))) (wRet (wVar 5)))))))

def t_p_lost_by_sharing (c_p_passed : PSp) (c_p_first_state : PSp) (c_p_places_of : PSp) (c_p_misses_at : PSp) : WS := (wSeq (wSet 2 (wOp rIx2 (wFn c_p_passed (wCons (wVar 0) (wCons (wFn c_p_first_state (wCons (wVar 0) wNil)) (wCons (wVar 1) wNil)))) (wC (.int 0)))) (wSeq (wFor (wiSeq (wFn c_p_places_of (wCons (wVar 1) wNil))) (wgName 3) (wAug 2 (wFn c_p_misses_at (wCons (wVar 0) (wCons (wVar 1) (wCons (wLst (wCons (wVar 3) wNil)) wNil)))) rSub2)) (wRet (wVar 2))))

def t_l_cell_at  : WS := (wSeq (wIfS (wB (wOp rLt2 (wVar 1) (wCall rLen (wCons (wVar 0) wNil)))) (wRet (wOp rIx2 (wVar 0) (wVar 1))) wNext) (wRet (wC (.int 0))))

def t_l_take  : WS := (wSeq (wIfS (wB (wOp rEq2 (wOp rIx2 (wVar 0) (wC (.int 1))) (wC (.int 0)))) (wSeq (wSet 2 (wOp rMod2 (wOp rIx2 (wVar 0) (wC (.int 0))) (wVar 1))) (wSeq (wAsg (wOp rDiv2 (wOp rIx2 (wVar 0) (wC (.int 0))) (wVar 1)) (wgSub (wVar 0) (wC (.int 0)) rSet3)) (wRet (wVar 2)))) wNext) (wSeq (wAsg (wOp rAdd2 (wOp rIx2 (wVar 0) (wC (.int 2))) (wC (.int 1))) (wgSub (wVar 0) (wC (.int 2)) rSet3)) (wSeq (wSet 3 (wOp rMul2 (wOp rMod2 (wOp rIx2 (wVar 0) (wC (.int 0))) (wC (.int 2147483647))) (wOp rAdd2 (wOp rMul2 (wOp rIx2 (wVar 0) (wC (.int 2))) (wOp rIx2 (wVar 0) (wC (.int 2)))) (wC (.int 48271))))) (wSeq (wSet 3 (wOp rMod2 (wOp rAdd2 (wOp rAdd2 (wVar 3) (wOp rIx2 (wVar 0) (wC (.int 2)))) (wC (.int 7))) (wC (.int 2147483629)))) (wSeq (wSet 3 (wOp rMod2 (wOp rMul2 (wVar 3) (wVar 3)) (wC (.int 2147483587)))) (wRet (wOp rMod2 (wOp rDiv2 (wOp rMod2 (wOp rMul2 (wVar 3) (wC (.int 69621))) (wC (.int 2147483563))) (wC (.int 8))) (wVar 1))))))))

def t_l_deck  : WS := (wSeq (wIfS (wB (wOp rGe2 (wVar 0) (wOp rPow2 (wC (.int 10)) (wC (.int 18))))) (wRet (wLst (wCons (wOp rSub2 (wVar 0) (wOp rPow2 (wC (.int 10)) (wC (.int 18)))) (wCons (wC (.int 0)) (wCons (wVar 1) wNil))))) wNext) (wRet (wLst (wCons (wVar 0) (wCons (wC (.int 1)) (wCons (wVar 1) wNil))))))

def t_l_cell (c_l_take : PSp) : WS := (wSeq (wSet 2 (wOp rAdd2 (wC (.int 1)) (wFn c_l_take (wCons (wVar 0) (wCons (wVar 1) wNil))))) (wSeq (wSet 3 (wCall rTup (wCons (wLc (wiRng1 (wCons (wVar 2) wNil)) (wgName 6) wYes (wFn c_l_take (wCons (wVar 0) (wCons (wC (.int 2)) wNil))) [6]) wNil))) (wSeq (wSet 4 (wCall rTup (wCons (wLc (wiRng1 (wCons (wVar 2) wNil)) (wgName 6) wYes (wFn c_l_take (wCons (wVar 0) (wCons (wVar 2) wNil))) [6]) wNil))) (wSeq (wSet 5 (wCall rTup (wCons (wLc (wiRng1 (wCons (wVar 2) wNil)) (wgName 6) wYes (wFn c_l_take (wCons (wVar 0) (wCons (wVar 2) wNil))) [6]) wNil))) (wRet (wTup (wCons (wVar 3) (wCons (wVar 4) (wCons (wVar 5) wNil)))))))))

def t_l_table_misses  : WS := (wSeq (wAsg (wSl (wVar 0) (wPart (wC (.int 1))) wNoPart) (wgTup 2 (wgCons (wgName 2) (wgCons (wgName 3) wgNil)))) (wSeq (wSet 4 (wOp rMul2 (wLst (wCons (wC (.int 0)) wNil)) (wVar 2))) (wSeq (wSet 5 (wC (.int 0))) (wSeq (wFor (wiSeq (wVar 1)) (wgTup 2 (wgCons (wgName 6) (wgCons (wgName 7) wgNil))) (wSeq (wSet 8 (wOp rMod2 (wVar 6) (wVar 2))) (wSeq (wSet 5 (wOp rAdd2 (wVar 5) (wCall rInt (wCons (wOp rNe2 (wOp rIx2 (wOp rIx2 (wVar 3) (wC (.int 0))) (wOp rIx2 (wVar 4) (wVar 8))) (wVar 7)) wNil)))) (wAsg (wOp rIx2 (wOp rIx2 (wVar 3) (wOp rAdd2 (wC (.int 1)) (wVar 7))) (wOp rIx2 (wVar 4) (wVar 8))) (wgSub (wVar 4) (wVar 8) rSet3))))) (wRet (wVar 5))))))

def t_l_run (c_l_cell_at : PSp) (c_l_deck : PSp) (c_l_take : PSp) : WS := (wSeq (wSet 1 (wFn c_l_cell_at (wCons (wVar 0) (wCons (wC (.int 1)) wNil)))) (wSeq (wSet 2 (wLst wNil)) (wSeq (wFor (wiSeq (wSl (wVar 0) (wPart (wC (.int 2))) (wPart (wC (.int 62))))) (wgName 3) (wSeq (wSet 4 (wFn c_l_deck (wCons (wVar 3) (wCons (wC (.int 4)) wNil)))) (wSeq (wSet 5 (wOp rIx2 (wLst (wCons (wFn c_l_take (wCons (wVar 4) (wCons (wC (.int 4)) wNil))) (wCons (wOp rAdd2 (wOp rMul2 (wC (.int 3)) (wFn c_l_take (wCons (wVar 4) (wCons (wC (.int 12)) wNil)))) (wC (.int 4))) (wCons (wFn c_l_take (wCons (wVar 4) (wCons (wC (.int 1000)) wNil))) wNil)))) (wOp rMod2 (wVar 1) (wC (.int 3))))) (wDrop (wMt rApp (wVar 2) (wCons (wTup (wCons (wVar 5) (wCons (wFn c_l_take (wCons (wVar 4) (wCons (wC (.int 2)) wNil))) wNil))) wNil)))))) (wSeq (wIfS (wAnd (wB (wOp rEq2 (wOp rMod2 (wOp rDiv2 (wVar 1) (wC (.int 3))) (wC (.int 5))) (wC (.int 1)))) (wB (wOp rLt2 (wOp rMod2 (wVar 1) (wC (.int 3))) (wC (.int 2))))) (wSet 2 (wOp rMul2 (wVar 2) (wC (.int 6)))) wNext) (wRet (wVar 2))))))

def t_l_at  : WS := (wRet (wLc (wiSeq (wVar 0)) (wgName 2) (wB (wOp rIn2 (wOp rIx2 (wVar 2) (wC (.int 0))) (wVar 1))) (wVar 2) [2]))

def t_l_due (c_l_table_misses : PSp) (c_l_at : PSp) : WS := (wSeq (wSet 3 (wSortedSet (wLc (wiSeq (wVar 1)) (wgTup 2 (wgCons (wgName 2) (wgCons (wgName 10) wgNil))) wYes (wVar 2) [2, 10]))) (wSeq (wSet 4 wNewK) (wSeq (wFor (wiSeq (wVar 3)) (wgName 2) (wAsg (wFn c_l_table_misses (wCons (wVar 0) (wCons (wFn c_l_at (wCons (wVar 1) (wCons (wLst (wCons (wVar 2) wNil)) wNil))) wNil))) (wgSub (wVar 4) (wVar 2) rSet3))) (wSeq (wSet 5 (wLst wNil)) (wSeq (wFor (wiSeq (wVar 3)) (wgName 6) (wFor (wiSeq (wVar 3)) (wgName 7) (wIfS (wAnd (wB (wOp rLt2 (wVar 6) (wVar 7))) (wB (wOp rEq2 (wOp rMod2 (wOp rSub2 (wVar 7) (wVar 6)) (wOp rIx2 (wVar 0) (wC (.int 1)))) (wC (.int 0))))) (wSeq (wSet 8 (wFn c_l_table_misses (wCons (wVar 0) (wCons (wFn c_l_at (wCons (wVar 1) (wCons (wLst (wCons (wVar 6) (wCons (wVar 7) wNil))) wNil))) wNil)))) (wSeq (wSet 9 (wOp rSub2 (wOp rSub2 (wVar 8) (wOp rIx2 (wVar 4) (wVar 6))) (wOp rIx2 (wVar 4) (wVar 7)))) (wIfS (wB (wOp rNe2 (wVar 9) (wC (.int 0)))) (wDrop (wMt rApp (wVar 5) (wCons (wTup (wCons (wVar 6) (wCons (wVar 7) (wCons (wVar 9) wNil)))) wNil))) wNext))) wNext))) (wRet (wVar 5)))))))

def t_lawm (c_l_deck : PSp) (c_l_cell_at : PSp) (c_l_take : PSp) (c_l_cell : PSp) (c_l_run : PSp) (c_l_due : PSp) (c_p_spoiled : PSp) (c_l_table_misses : PSp) (c_l_at : PSp) (c_p_lost_by_sharing : PSp) : WS := (wSeq (wSet 1 (wFn c_l_deck (wCons (wFn c_l_cell_at (wCons (wVar 0) (wCons (wC (.int 0)) wNil))) (wCons (wC (.int 1)) wNil)))) (wSeq (wSet 2 (wTup (wCons (wC (.str "table")) (wCons (wOp rAdd2 (wC (.int 1)) (wFn c_l_take (wCons (wVar 1) (wCons (wC (.int 16)) wNil)))) (wCons (wFn c_l_cell (wCons (wVar 1) (wCons (wC (.int 8)) wNil))) wNil))))) (wSeq (wSet 3 (wFn c_l_run (wCons (wVar 0) wNil))) (wSeq (wSet 4 (wCall rLst (wCons (wVar 3) wNil))) (wSeq (wSet 5 (wFn c_l_due (wCons (wVar 2) (wCons (wVar 3) wNil)))) (wSeq (wSet 6 (wFn c_p_spoiled (wCons (wVar 2) (wCons (wVar 4) wNil)))) (wSeq (wIfS (wOr (wNot (wB (wIsi .list (wVar 6)))) (wOr (wB (wOp rNe2 (wCall rRepr (wCons (wVar 6) wNil)) (wCall rRepr (wCons (wVar 5) wNil)))) (wB (wOp rNe2 (wVar 4) (wVar 3))))) (wRet (wC (.bl false))) wNext) (wSeq (wSet 7 (wCall rLst (wCons (wVar 6) wNil))) (wSeq (wDrop (wMt rApp (wVar 6) (wCons (wTup (wCons (wC (.int 0)) (wCons (wC (.int 0)) (wCons (wC (.int 0)) wNil)))) wNil))) (wSeq (wIfS (wB (wOp rNe2 (wFn c_p_spoiled (wCons (wVar 2) (wCons (wVar 4) wNil))) (wVar 7))) (wRet (wC (.bl false))) wNext) (wSeq (wSet 8 (wFn c_l_table_misses (wCons (wVar 2) (wCons (wVar 3) wNil)))) (wSeq (wFor (wiSeq (wSortedSet (wLc (wiSeq (wVar 3)) (wgTup 2 (wgCons (wgName 9) (wgCons (wgName 11) wgNil))) wYes (wVar 9) [9, 11]))) (wgName 9) (wSet 8 (wOp rSub2 (wVar 8) (wFn c_l_table_misses (wCons (wVar 2) (wCons (wFn c_l_at (wCons (wVar 3) (wCons (wLst (wCons (wVar 9) wNil)) wNil))) wNil)))))) (wSeq (wSet 10 (wFn c_p_lost_by_sharing (wCons (wVar 2) (wCons (wVar 4) wNil)))) (wRet (wAndV (wNotV (wIsi .bool (wVar 10))) (wAndV (wOp rEq2 (wVar 10) (wVar 8)) (wOp rEq2 (wVar 4) (wVar 3))))))))))))))))))

end PV
set_option maxHeartbeats 4000000
namespace PV
open PySem PySem.Spec PyProof.Rows L2
def topS (i : Nat) : Stmt := PySem.Challenge.pw_wayguess_k62_what_places_spoil.main.body.getD i (.Pass ⟨0, 0, 0, 0⟩)
/-- what the module leaves, and leaves alone -/
structure Fx (mg : Str → Option Value) : Prop where
  b_bool : mg "bool" = none
  b_int : mg "int" = none
  b_isinstance : mg "isinstance" = none
  b_len : mg "len" = none
  b_list : mg "list" = none
  b_range : mg "range" = none
  b_repr : mg "repr" = none
  b_set : mg "set" = none
  b_sorted : mg "sorted" = none
  b_tuple : mg "tuple" = none
abbrev s_p_cells_alone : Stmt := topS 1
abbrev n_p_cells_alone : List Str := ["guesser"]
theorem sc_p_cells_alone : FnScope n_p_cells_alone ["guesser"] (defScope s_p_cells_alone) := ⟨rfl, rfl, rfl, by decide +kernel, rfl, by decide +kernel, by decide +kernel⟩
theorem tr_p_cells_alone {P : Program} {w : World} {K : PySem.W.Frag} {mg : Str → Option Value} {base : Heap} {k : Nat} (F : Fx mg) {f : Addr} {cdv : Value} {A : Around} {outer : List Env} {s : Shared} {H : Hp} {E : XK} {M : Me}
    (hr : Room k (A.deeper (envOfC "cells_alone" (defScope s_p_cells_alone) s.heap.objs.size f cdv))) : QSs (fnCy P w K mg base n_p_cells_alone "cells_alone" s_p_cells_alone f cdv A outer s H E M) (defBody s_p_cells_alone) (t_p_cells_alone) := by
  have ndN := sc_p_cells_alone.nd
  exact (qss_cons (qs_if (qt_cmp (w_eq hr.units) (q_ix hr.units (q_var 0) q_int) q_str) (qss_one (qs_ret q_int)) qss_nil) (qss_cons (qs_if (qt_cmp (w_eq hr.units) (q_ix hr.units (q_var 0) q_int) q_str) (qss_one (qs_ret (q_op w_shl (q_ix hr.units (q_var 0) q_int) (q_ix hr.units (q_var 0) q_int)))) qss_nil) (qss_cons (qs_if (qt_cmp (w_eq hr.units) (q_ix hr.units (q_var 0) q_int) q_str) (qss_one (qs_ret (q_op w_shl q_int (q_ix hr.units (q_var 0) q_int)))) qss_nil) (qss_cons (qs_if (qt_cmp (w_eq hr.units) (q_ix hr.units (q_var 0) q_int) q_str) (qss_one (qs_ret (q_ix hr.units (q_var 0) q_int))) qss_nil) (qss_one (qs_ret (q_ix hr.units (q_var 0) q_int)))))))

abbrev s_p_first_state : Stmt := topS 2
abbrev n_p_first_state : List Str := ["guesser", "cells"]
theorem sc_p_first_state : FnScope n_p_first_state ["guesser"] (defScope s_p_first_state) := ⟨rfl, rfl, rfl, by decide +kernel, rfl, by decide +kernel, by decide +kernel⟩
theorem tr_p_first_state {P : Program} {w : World} {K : PySem.W.Frag} {mg : Str → Option Value} {base : Heap} {k : Nat} (F : Fx mg) {c_p_cells_alone : PSp} {c_p_first_state : PSp} (d_p_cells_alone : Dk ⟨P, w, K⟩ mg base k "cells_alone" ["guesser"] c_p_cells_alone) (d_p_first_state : Dk ⟨P, w, K⟩ mg base k "first_state" ["guesser"] c_p_first_state) {f : Addr} {cdv : Value} {A : Around} {outer : List Env} {s : Shared} {H : Hp} {E : XK} {M : Me}
    (hr : Room k (A.deeper (envOfC "first_state" (defScope s_p_first_state) s.heap.objs.size f cdv))) : QSs (fnCy P w K mg base n_p_first_state "first_state" s_p_first_state f cdv A outer s H E M) (defBody s_p_first_state) (t_p_first_state c_p_cells_alone c_p_first_state) := by
  have ndN := sc_p_first_state.nd
  exact (qss_cons (qs_set (i := 1) ndN (q_op w_mulT (q_tup (qa_cons q_int qa_nil)) (q_fn d_p_cells_alone hr rfl (qa_cons (q_var 0) qa_nil)))) (qss_cons (qs_if (qt_cmp (w_eq hr.units) (q_ix hr.units (q_var 0) q_int) q_str) (qss_one (qs_ret (q_tup (qa_cons (q_fn d_p_first_state hr rfl (qa_cons (q_ix hr.units (q_var 0) q_int) qa_nil)) (qa_cons (q_fn d_p_first_state hr rfl (qa_cons (q_ix hr.units (q_var 0) q_int) qa_nil)) (qa_cons (q_var 1) qa_nil)))))) qss_nil) (qss_cons (qs_if (qt_cmp (w_in hr.units) (q_ix hr.units (q_var 0) q_int) (q_tup (qa_cons q_str (qa_cons q_str qa_nil)))) (qss_one (qs_ret (q_tup (qa_cons q_int (qa_cons (q_var 1) qa_nil))))) qss_nil) (qss_cons (qs_if (qt_cmp (w_eq hr.units) (q_ix hr.units (q_var 0) q_int) q_str) (qss_one (qs_ret (q_tup (qa_cons (q_op w_mulT (q_tup (qa_cons q_int qa_nil)) (q_ix hr.units (q_var 0) q_int)) (qa_cons (q_var 1) qa_nil))))) qss_nil) (qss_one (qs_ret (q_var 1)))))))

abbrev s_p_cells_in : Stmt := topS 3
abbrev n_p_cells_in : List Str := ["guesser", "state"]
theorem sc_p_cells_in : FnScope n_p_cells_in ["guesser", "state"] (defScope s_p_cells_in) := ⟨rfl, rfl, rfl, by decide +kernel, rfl, by decide +kernel, by decide +kernel⟩
theorem tr_p_cells_in {P : Program} {w : World} {K : PySem.W.Frag} {mg : Str → Option Value} {base : Heap} {k : Nat} (F : Fx mg) {f : Addr} {cdv : Value} {A : Around} {outer : List Env} {s : Shared} {H : Hp} {E : XK} {M : Me}
    (hr : Room k (A.deeper (envOfC "cells_in" (defScope s_p_cells_in) s.heap.objs.size f cdv))) : QSs (fnCy P w K mg base n_p_cells_in "cells_in" s_p_cells_in f cdv A outer s H E M) (defBody s_p_cells_in) (t_p_cells_in) := by
  have ndN := sc_p_cells_in.nd
  exact (qss_cons (qs_if (qt_cmp (w_eq hr.units) (q_ix hr.units (q_var 0) q_int) q_str) (qss_one (qs_ret (q_var 1))) qss_nil) (qss_one (qs_ret (q_ix hr.units (q_var 1) (q_un w_neg q_int)))))

abbrev s_p_cell_place : Stmt := topS 4
abbrev n_p_cell_place : List Str := ["guesser", "state", "place"]
theorem sc_p_cell_place : FnScope n_p_cell_place ["guesser", "state", "place"] (defScope s_p_cell_place) := ⟨rfl, rfl, rfl, by decide +kernel, rfl, by decide +kernel, by decide +kernel⟩
theorem tr_p_cell_place {P : Program} {w : World} {K : PySem.W.Frag} {mg : Str → Option Value} {base : Heap} {k : Nat} (F : Fx mg) {f : Addr} {cdv : Value} {A : Around} {outer : List Env} {s : Shared} {H : Hp} {E : XK} {M : Me}
    (hr : Room k (A.deeper (envOfC "cell_place" (defScope s_p_cell_place) s.heap.objs.size f cdv))) : QSs (fnCy P w K mg base n_p_cell_place "cell_place" s_p_cell_place f cdv A outer s H E M) (defBody s_p_cell_place) (t_p_cell_place) := by
  have ndN := sc_p_cell_place.nd
  exact (qss_cons (qs_if (qt_cmp (w_eq hr.units) (q_ix hr.units (q_var 0) q_int) q_str) (qss_one (qs_ret (q_op w_mod (q_var 2) (q_ix hr.units (q_var 0) q_int)))) qss_nil) (qss_cons (qs_if (qt_cmp (w_eq hr.units) (q_ix hr.units (q_var 0) q_int) q_str) (qss_one (qs_ret (q_op w_mod (q_op w_add (q_var 2) (q_ix hr.units (q_var 1) q_int)) (q_ix hr.units (q_var 0) q_int)))) qss_nil) (qss_cons (qs_if (qt_cmp (w_eq hr.units) (q_ix hr.units (q_var 0) q_int) q_str) (qss_one (qs_ret (q_op w_add (q_op w_shl (q_op w_mod (q_var 2) (q_ix hr.units (q_var 0) q_int)) (q_ix hr.units (q_var 0) q_int)) (q_ix hr.units (q_var 1) q_int)))) qss_nil) (qss_cons (qs_if (qt_cmp (w_eq hr.units) (q_ix hr.units (q_var 0) q_int) q_str) (qss_one (qs_ret (q_ix hr.units (q_ix hr.units (q_var 1) q_int) (q_op w_mod (q_var 2) (q_ix hr.units (q_var 0) q_int))))) qss_nil) (qss_one (qs_ret (q_op w_mod (q_var 2) (q_ix hr.units (q_var 0) q_int))))))))

abbrev s_p_guess : Stmt := topS 5
abbrev n_p_guess : List Str := ["guesser", "state", "place", "told"]
theorem sc_p_guess : FnScope n_p_guess ["guesser", "state", "place"] (defScope s_p_guess) := ⟨rfl, rfl, rfl, by decide +kernel, rfl, by decide +kernel, by decide +kernel⟩
theorem tr_p_guess {P : Program} {w : World} {K : PySem.W.Frag} {mg : Str → Option Value} {base : Heap} {k : Nat} (F : Fx mg) {c_p_cells_in : PSp} {c_p_cell_place : PSp} {c_p_guess : PSp} (d_p_cells_in : Dk ⟨P, w, K⟩ mg base k "cells_in" ["guesser", "state"] c_p_cells_in) (d_p_cell_place : Dk ⟨P, w, K⟩ mg base k "cell_place" ["guesser", "state", "place"] c_p_cell_place) (d_p_guess : Dk ⟨P, w, K⟩ mg base k "guess" ["guesser", "state", "place"] c_p_guess) {f : Addr} {cdv : Value} {A : Around} {outer : List Env} {s : Shared} {H : Hp} {E : XK} {M : Me}
    (hr : Room k (A.deeper (envOfC "guess" (defScope s_p_guess) s.heap.objs.size f cdv))) : QSs (fnCy P w K mg base n_p_guess "guess" s_p_guess f cdv A outer s H E M) (defBody s_p_guess) (t_p_guess c_p_cells_in c_p_cell_place c_p_guess) := by
  have ndN := sc_p_guess.nd
  exact (qss_cons (qs_if (qt_cmp (w_eq hr.units) (q_ix hr.units (q_var 0) q_int) q_str) (qss_one (qs_ret (q_ix hr.units (q_var 0) q_int))) qss_nil) (qss_cons (qs_set (i := 3) ndN (q_ix hr.units (q_ix hr.units (q_ix hr.units (q_var 0) (q_un w_neg q_int)) q_int) (q_ix hr.units (q_fn d_p_cells_in hr rfl (qa_cons (q_var 0) (qa_cons (q_var 1) qa_nil))) (q_fn d_p_cell_place hr rfl (qa_cons (q_var 0) (qa_cons (q_var 1) (qa_cons (q_var 2) qa_nil))))))) (qss_cons (qs_if (qt_cmp (w_eq hr.units) (q_ix hr.units (q_var 0) q_int) q_str) (qss_one (qs_ret (q_fn d_p_guess hr rfl (qa_cons (q_ix hr.units (q_var 0) (q_op w_add q_int (q_var 3))) (qa_cons (q_ix hr.units (q_var 1) (q_var 3)) (qa_cons (q_var 2) qa_nil)))))) qss_nil) (qss_one (qs_ret (q_var 3))))))

abbrev s_p_replaced : Stmt := topS 6
abbrev n_p_replaced : List Str := ["row", "at", "thing"]
theorem sc_p_replaced : FnScope n_p_replaced ["row", "at", "thing"] (defScope s_p_replaced) := ⟨rfl, rfl, rfl, by decide +kernel, rfl, by decide +kernel, by decide +kernel⟩
theorem tr_p_replaced {P : Program} {w : World} {K : PySem.W.Frag} {mg : Str → Option Value} {base : Heap} {k : Nat} (F : Fx mg) {f : Addr} {cdv : Value} {A : Around} {outer : List Env} {s : Shared} {H : Hp} {E : XK} {M : Me}
    (hr : Room k (A.deeper (envOfC "replaced" (defScope s_p_replaced) s.heap.objs.size f cdv))) : QSs (fnCy P w K mg base n_p_replaced "replaced" s_p_replaced f cdv A outer s H E M) (defBody s_p_replaced) (t_p_replaced) := by
  have ndN := sc_p_replaced.nd
  exact (qss_one (qs_ret (q_op w_add (q_op w_add (q_sl (q_var 0) qo_none (qo_some (q_var 1))) (q_tup (qa_cons (q_var 2) qa_nil))) (q_sl (q_var 0) (qo_some (q_op w_add (q_var 1) q_int)) qo_none))))

abbrev s_p_cells_behind : Stmt := topS 7
abbrev n_p_cells_behind : List Str := ["guesser", "state", "place", "way", "cells", "at"]
theorem sc_p_cells_behind : FnScope n_p_cells_behind ["guesser", "state", "place", "way"] (defScope s_p_cells_behind) := ⟨rfl, rfl, rfl, by decide +kernel, rfl, by decide +kernel, by decide +kernel⟩
theorem tr_p_cells_behind {P : Program} {w : World} {K : PySem.W.Frag} {mg : Str → Option Value} {base : Heap} {k : Nat} (F : Fx mg) {c_p_cells_in : PSp} {c_p_cell_place : PSp} {c_p_replaced : PSp} (d_p_cells_in : Dk ⟨P, w, K⟩ mg base k "cells_in" ["guesser", "state"] c_p_cells_in) (d_p_cell_place : Dk ⟨P, w, K⟩ mg base k "cell_place" ["guesser", "state", "place"] c_p_cell_place) (d_p_replaced : Dk ⟨P, w, K⟩ mg base k "replaced" ["row", "at", "thing"] c_p_replaced) {f : Addr} {cdv : Value} {A : Around} {outer : List Env} {s : Shared} {H : Hp} {E : XK} {M : Me}
    (hr : Room k (A.deeper (envOfC "cells_behind" (defScope s_p_cells_behind) s.heap.objs.size f cdv))) : QSs (fnCy P w K mg base n_p_cells_behind "cells_behind" s_p_cells_behind f cdv A outer s H E M) (defBody s_p_cells_behind) (t_p_cells_behind c_p_cells_in c_p_cell_place c_p_replaced) := by
  have ndN := sc_p_cells_behind.nd
  exact (qss_cons (qs_set (i := 4) ndN (q_fn d_p_cells_in hr rfl (qa_cons (q_var 0) (qa_cons (q_var 1) qa_nil)))) (qss_cons (qs_set (i := 5) ndN (q_fn d_p_cell_place hr rfl (qa_cons (q_var 0) (qa_cons (q_var 1) (qa_cons (q_var 2) qa_nil))))) (qss_one (qs_ret (q_fn d_p_replaced hr rfl (qa_cons (q_var 4) (qa_cons (q_var 5) (qa_cons (q_ix hr.units (q_ix hr.units (q_ix hr.units (q_var 0) (q_un w_neg q_int)) (q_op w_add q_int (q_var 3))) (q_ix hr.units (q_var 4) (q_var 5))) qa_nil))))))))

abbrev s_p_one_more : Stmt := topS 8
abbrev n_p_one_more : List Str := ["number", "length", "way"]
theorem sc_p_one_more : FnScope n_p_one_more ["number", "length", "way"] (defScope s_p_one_more) := ⟨rfl, rfl, rfl, by decide +kernel, rfl, by decide +kernel, by decide +kernel⟩
theorem tr_p_one_more {P : Program} {w : World} {K : PySem.W.Frag} {mg : Str → Option Value} {base : Heap} {k : Nat} (F : Fx mg) {f : Addr} {cdv : Value} {A : Around} {outer : List Env} {s : Shared} {H : Hp} {E : XK} {M : Me}
    (hr : Room k (A.deeper (envOfC "one_more" (defScope s_p_one_more) s.heap.objs.size f cdv))) : QSs (fnCy P w K mg base n_p_one_more "one_more" s_p_one_more f cdv A outer s H E M) (defBody s_p_one_more) (t_p_one_more) := by
  have ndN := sc_p_one_more.nd
  exact (qss_one (qs_ret (q_op w_mod (q_op w_add (q_op w_mul q_int (q_var 0)) (q_var 2)) (q_op w_shl q_int (q_var 1)))))

abbrev s_p_learned_either : Stmt := topS 9
abbrev n_p_learned_either : List Str := ["guesser", "state", "place", "way", "right", "cells", "side"]
theorem sc_p_learned_either : FnScope n_p_learned_either ["guesser", "state", "place", "way"] (defScope s_p_learned_either) := ⟨rfl, rfl, rfl, by decide +kernel, rfl, by decide +kernel, by decide +kernel⟩
theorem tr_p_learned_either {P : Program} {w : World} {K : PySem.W.Frag} {mg : Str → Option Value} {base : Heap} {k : Nat} (F : Fx mg) {c_p_guess : PSp} {c_p_cells_behind : PSp} {c_p_learned : PSp} (d_p_guess : Dk ⟨P, w, K⟩ mg base k "guess" ["guesser", "state", "place"] c_p_guess) (d_p_cells_behind : Dk ⟨P, w, K⟩ mg base k "cells_behind" ["guesser", "state", "place", "way"] c_p_cells_behind) (d_p_learned : Dk ⟨P, w, K⟩ mg base k "learned" ["guesser", "state", "place", "way"] c_p_learned) {f : Addr} {cdv : Value} {A : Around} {outer : List Env} {s : Shared} {H : Hp} {E : XK} {M : Me}
    (hr : Room k (A.deeper (envOfC "learned_either" (defScope s_p_learned_either) s.heap.objs.size f cdv))) : QSs (fnCy P w K mg base n_p_learned_either "learned_either" s_p_learned_either f cdv A outer s H E M) (defBody s_p_learned_either) (t_p_learned_either c_p_guess c_p_cells_behind c_p_learned) := by
  have ndN := sc_p_learned_either.nd
  exact (qss_cons (qs_setLc (i := 4) [("side", 6)] rfl ndN (qi_seq (q_tup (qa_cons q_int (qa_cons q_int qa_nil)))) (blkOk_by (N := n_p_learned_either) (sc := defScope s_p_learned_either) (by decide +kernel)) (fun _ _ _ _ _ => (qv_name ndN (i := 6))) (fun _ _ _ _ _ => qts_nil) (fun _ _ _ _ _ => (q_cmp (w_eq hr.units) (q_fn d_p_guess hr rfl (qa_cons (q_ix hr.units (q_var 0) (q_op w_add q_int (q_var 6))) (qa_cons (q_ix hr.units (q_var 1) (q_var 6)) (qa_cons (q_var 2) qa_nil)))) (q_var 3)))) (qss_cons (qs_set (i := 5) ndN (q_ix hr.units (q_var 1) q_int)) (qss_cons (qs_if (qt_cmp (w_ne hr.units) (q_ix hr.units (q_var 4) q_int) (q_ix hr.units (q_var 4) q_int)) (qss_one (qs_set (i := 5) ndN (q_fn d_p_cells_behind hr rfl (qa_cons (q_var 0) (qa_cons (q_var 1) (qa_cons (q_var 2) (qa_cons (q_callT (T := "int") w_int rfl F.b_int (by decide +kernel) (qa_cons (q_ix hr.units (q_var 4) q_int) qa_nil)) qa_nil))))))) qss_nil) (qss_one (qs_ret (q_tup (qa_cons (q_fn d_p_learned hr rfl (qa_cons (q_ix hr.units (q_var 0) q_int) (qa_cons (q_ix hr.units (q_var 1) q_int) (qa_cons (q_var 2) (qa_cons (q_var 3) qa_nil))))) (qa_cons (q_fn d_p_learned hr rfl (qa_cons (q_ix hr.units (q_var 0) q_int) (qa_cons (q_ix hr.units (q_var 1) q_int) (qa_cons (q_var 2) (qa_cons (q_var 3) qa_nil))))) (qa_cons (q_var 5) qa_nil)))))))))

abbrev s_p_learned : Stmt := topS 10
abbrev n_p_learned : List Str := ["guesser", "state", "place", "way", "cells", "row"]
theorem sc_p_learned : FnScope n_p_learned ["guesser", "state", "place", "way"] (defScope s_p_learned) := ⟨rfl, rfl, rfl, by decide +kernel, rfl, by decide +kernel, by decide +kernel⟩
theorem tr_p_learned {P : Program} {w : World} {K : PySem.W.Frag} {mg : Str → Option Value} {base : Heap} {k : Nat} (F : Fx mg) {c_p_learned_either : PSp} {c_p_cells_behind : PSp} {c_p_replaced : PSp} {c_p_one_more : PSp} (d_p_learned_either : Dk ⟨P, w, K⟩ mg base k "learned_either" ["guesser", "state", "place", "way"] c_p_learned_either) (d_p_cells_behind : Dk ⟨P, w, K⟩ mg base k "cells_behind" ["guesser", "state", "place", "way"] c_p_cells_behind) (d_p_replaced : Dk ⟨P, w, K⟩ mg base k "replaced" ["row", "at", "thing"] c_p_replaced) (d_p_one_more : Dk ⟨P, w, K⟩ mg base k "one_more" ["number", "length", "way"] c_p_one_more) {f : Addr} {cdv : Value} {A : Around} {outer : List Env} {s : Shared} {H : Hp} {E : XK} {M : Me}
    (hr : Room k (A.deeper (envOfC "learned" (defScope s_p_learned) s.heap.objs.size f cdv))) : QSs (fnCy P w K mg base n_p_learned "learned" s_p_learned f cdv A outer s H E M) (defBody s_p_learned) (t_p_learned c_p_learned_either c_p_cells_behind c_p_replaced c_p_one_more) := by
  have ndN := sc_p_learned.nd
  exact (qss_cons (qs_if (qt_cmp (w_eq hr.units) (q_ix hr.units (q_var 0) q_int) q_str) (qss_one (qs_ret (q_var 1))) qss_nil) (qss_cons (qs_if (qt_cmp (w_eq hr.units) (q_ix hr.units (q_var 0) q_int) q_str) (qss_one (qs_ret (q_fn d_p_learned_either hr rfl (qa_cons (q_var 0) (qa_cons (q_var 1) (qa_cons (q_var 2) (qa_cons (q_var 3) qa_nil))))))) qss_nil) (qss_cons (qs_set (i := 4) ndN (q_fn d_p_cells_behind hr rfl (qa_cons (q_var 0) (qa_cons (q_var 1) (qa_cons (q_var 2) (qa_cons (q_var 3) qa_nil)))))) (qss_cons (qs_if (qt_cmp (w_eq hr.units) (q_ix hr.units (q_var 0) q_int) q_str) (qss_one (qs_ret (q_var 4))) qss_nil) (qss_cons (qs_if (qt_cmp (w_eq hr.units) (q_ix hr.units (q_var 0) q_int) q_str) (qss_cons (qs_set (i := 5) ndN (q_op w_mod (q_var 2) (q_ix hr.units (q_var 0) q_int))) (qss_one (qs_ret (q_tup (qa_cons (q_fn d_p_replaced hr rfl (qa_cons (q_ix hr.units (q_var 1) q_int) (qa_cons (q_var 5) (qa_cons (q_fn d_p_one_more hr rfl (qa_cons (q_ix hr.units (q_ix hr.units (q_var 1) q_int) (q_var 5)) (qa_cons (q_ix hr.units (q_var 0) q_int) (qa_cons (q_var 3) qa_nil)))) qa_nil)))) (qa_cons (q_var 4) qa_nil)))))) qss_nil) (qss_one (qs_ret (q_tup (qa_cons (q_fn d_p_one_more hr rfl (qa_cons (q_ix hr.units (q_var 1) q_int) (qa_cons (q_ix hr.units (q_var 0) q_int) (qa_cons (q_var 3) qa_nil)))) (qa_cons (q_var 4) qa_nil))))))))))

abbrev s_p_passed : Stmt := topS 12
abbrev n_p_passed : List Str := ["guesser", "state", "run", "misses", "place", "way"]
theorem sc_p_passed : FnScope n_p_passed ["guesser", "state", "run"] (defScope s_p_passed) := ⟨rfl, rfl, rfl, by decide +kernel, rfl, by decide +kernel, by decide +kernel⟩
theorem tr_p_passed {P : Program} {w : World} {K : PySem.W.Frag} {mg : Str → Option Value} {base : Heap} {k : Nat} (F : Fx mg) {c_p_guess : PSp} {c_p_learned : PSp} (d_p_guess : Dk ⟨P, w, K⟩ mg base k "guess" ["guesser", "state", "place"] c_p_guess) (d_p_learned : Dk ⟨P, w, K⟩ mg base k "learned" ["guesser", "state", "place", "way"] c_p_learned) {f : Addr} {cdv : Value} {A : Around} {outer : List Env} {s : Shared} {H : Hp} {E : XK} {M : Me}
    (hr : Room k (A.deeper (envOfC "passed" (defScope s_p_passed) s.heap.objs.size f cdv))) : QSs (fnCy P w K mg base n_p_passed "passed" s_p_passed f cdv A outer s H E M) (defBody s_p_passed) (t_p_passed c_p_guess c_p_learned) := by
  have ndN := sc_p_passed.nd
  exact (qss_cons (qs_set (i := 3) ndN q_int) (qss_cons (qs_for PassesOwn.never rfl (qi_seq (q_var 2)) (qg_tup rfl (qgs_cons (qg_name ndN (i := 4)) (qgs_cons (qg_name ndN (i := 5)) qgs_nil))) (qss_cons (qs_aug (i := 3) ndN w_iadd (q_callT (T := "int") w_int rfl F.b_int (by decide +kernel) (qa_cons (q_cmp (w_ne hr.units) (q_fn d_p_guess hr rfl (qa_cons (q_var 0) (qa_cons (q_var 1) (qa_cons (q_var 4) qa_nil)))) (q_var 5)) qa_nil))) (qss_one (qs_set (i := 1) ndN (q_fn d_p_learned hr rfl (qa_cons (q_var 0) (qa_cons (q_var 1) (qa_cons (q_var 4) (qa_cons (q_var 5) qa_nil))))))))) (qss_one (qs_ret (q_tup (qa_cons (q_var 3) (qa_cons (q_var 1) qa_nil)))))))

abbrev s_p_misses_at : Stmt := topS 14
abbrev n_p_misses_at : List Str := ["guesser", "run", "places", "some", "event"]
theorem sc_p_misses_at : FnScope n_p_misses_at ["guesser", "run", "places"] (defScope s_p_misses_at) := ⟨rfl, rfl, rfl, by decide +kernel, rfl, by decide +kernel, by decide +kernel⟩
theorem tr_p_misses_at {P : Program} {w : World} {K : PySem.W.Frag} {mg : Str → Option Value} {base : Heap} {k : Nat} (F : Fx mg) {c_p_passed : PSp} {c_p_first_state : PSp} (d_p_passed : Dk ⟨P, w, K⟩ mg base k "passed" ["guesser", "state", "run"] c_p_passed) (d_p_first_state : Dk ⟨P, w, K⟩ mg base k "first_state" ["guesser"] c_p_first_state) {f : Addr} {cdv : Value} {A : Around} {outer : List Env} {s : Shared} {H : Hp} {E : XK} {M : Me}
    (hr : Room k (A.deeper (envOfC "misses_at" (defScope s_p_misses_at) s.heap.objs.size f cdv))) : QSs (fnCy P w K mg base n_p_misses_at "misses_at" s_p_misses_at f cdv A outer s H E M) (defBody s_p_misses_at) (t_p_misses_at c_p_passed c_p_first_state) := by
  have ndN := sc_p_misses_at.nd
  exact (qss_cons (qs_setLc (i := 3) [("event", 4)] rfl ndN (qi_seq (q_var 1)) (blkOk_by (N := n_p_misses_at) (sc := defScope s_p_misses_at) (by decide +kernel)) (fun _ _ _ _ _ => (qv_name ndN (i := 4))) (fun _ _ _ _ _ => (qts_one (qt_cmp (w_in hr.units) (q_ix hr.units (q_var 4) q_int) (q_var 2)))) (fun _ _ _ _ _ => (q_var 4))) (qss_one (qs_ret (q_ix hr.units (q_fn d_p_passed hr rfl (qa_cons (q_var 0) (qa_cons (q_fn d_p_first_state hr rfl (qa_cons (q_var 0) qa_nil)) (qa_cons (q_var 3) qa_nil)))) q_int))))

abbrev s_p_places_of : Stmt := topS 15
abbrev n_p_places_of : List Str := ["run", "found", "place", "way"]
theorem sc_p_places_of : FnScope n_p_places_of ["run"] (defScope s_p_places_of) := ⟨rfl, rfl, rfl, by decide +kernel, rfl, by decide +kernel, by decide +kernel⟩
theorem tr_p_places_of {P : Program} {w : World} {K : PySem.W.Frag} {mg : Str → Option Value} {base : Heap} {k : Nat} (F : Fx mg) {f : Addr} {cdv : Value} {A : Around} {outer : List Env} {s : Shared} {H : Hp} {E : XK} {M : Me}
    (hr : Room k (A.deeper (envOfC "places_of" (defScope s_p_places_of) s.heap.objs.size f cdv))) : QSs (fnCy P w K mg base n_p_places_of "places_of" s_p_places_of f cdv A outer s H E M) (defBody s_p_places_of) (t_p_places_of) := by
  have ndN := sc_p_places_of.nd
  exact (qss_cons (qs_set (i := 1) ndN q_newK) (qss_cons (qs_for PassesOwn.never rfl (qi_seq (q_var 0)) (qg_tup rfl (qgs_cons (qg_name ndN (i := 2)) (qgs_cons (qg_name ndN (i := 3)) qgs_nil))) (qss_one (qs_asg q_bl (qg_sub (q_var 1) (q_var 2) (w_set hr.units))))) (qss_one (qs_ret (q_callB (id := "sorted") (w_sorted rfl) rfl F.b_sorted (by decide +kernel) (qa_cons (q_var 1) qa_nil))))))

abbrev s_p_spoiled : Stmt := topS 16
abbrev n_p_spoiled : List Str := ["guesser", "run", "places", "alone", "place", "found", "other", "lost"]
theorem sc_p_spoiled : FnScope n_p_spoiled ["guesser", "run"] (defScope s_p_spoiled) := ⟨rfl, rfl, rfl, by decide +kernel, rfl, by decide +kernel, by decide +kernel⟩
theorem tr_p_spoiled {P : Program} {w : World} {K : PySem.W.Frag} {mg : Str → Option Value} {base : Heap} {k : Nat} (F : Fx mg) {c_p_places_of : PSp} {c_p_misses_at : PSp} (d_p_places_of : Dk ⟨P, w, K⟩ mg base k "places_of" ["run"] c_p_places_of) (d_p_misses_at : Dk ⟨P, w, K⟩ mg base k "misses_at" ["guesser", "run", "places"] c_p_misses_at) {f : Addr} {cdv : Value} {A : Around} {outer : List Env} {s : Shared} {H : Hp} {E : XK} {M : Me}
    (hr : Room k (A.deeper (envOfC "spoiled" (defScope s_p_spoiled) s.heap.objs.size f cdv))) : QSs (fnCy P w K mg base n_p_spoiled "spoiled" s_p_spoiled f cdv A outer s H E M) (defBody s_p_spoiled) (t_p_spoiled c_p_places_of c_p_misses_at) := by
  have ndN := sc_p_spoiled.nd
  exact (qss_cons (qs_set (i := 2) ndN (q_fn d_p_places_of hr rfl (qa_cons (q_var 1) qa_nil))) (qss_cons (qs_set (i := 3) ndN q_newK) (qss_cons (qs_for PassesOwn.never rfl (qi_seq (q_var 2)) (qg_name ndN (i := 4)) (qss_one (qs_asg (q_fn d_p_misses_at hr rfl (qa_cons (q_var 0) (qa_cons (q_var 1) (qa_cons (q_lst (qa_cons (q_var 4) qa_nil)) qa_nil)))) (qg_sub (q_var 3) (q_var 4) (w_set hr.units))))) (qss_cons (qs_set (i := 5) ndN (q_lst qa_nil)) (qss_cons (qs_for PassesOwn.never rfl (qi_seq (q_var 2)) (qg_name ndN (i := 4)) (qss_one (qs_for PassesOwn.never rfl (qi_seq (q_var 2)) (qg_name ndN (i := 6)) (qss_one (qs_if (QW.pt (qw_and (qt_cmp w_lt (q_var 4) (q_var 6)) (qw_and1 (qt_cmp (w_eq hr.units) (q_op w_mod (q_var 4) (q_ix hr.units (q_var 0) q_int)) (q_op w_mod (q_var 6) (q_ix hr.units (q_var 0) q_int)))))) (qss_cons (qs_set (i := 7) ndN (q_op w_sub (q_op w_sub (q_fn d_p_misses_at hr rfl (qa_cons (q_var 0) (qa_cons (q_var 1) (qa_cons (q_lst (qa_cons (q_var 4) (qa_cons (q_var 6) qa_nil))) qa_nil)))) (q_ix hr.units (q_var 3) (q_var 4))) (q_ix hr.units (q_var 3) (q_var 6)))) (qss_one (qs_if (qt_cmp (w_ne hr.units) (q_var 7) q_int) (qss_one (qs_expr (q_mt (by first | exact PySem.F.slot_list_append | exact PyProof.Rows.slot_list_append) (by first | exact PySem.F.type_list_append | exact PyProof.Rows.type_list_append) w_app (q_var 5) (qa_cons (q_tup (qa_cons (q_var 4) (qa_cons (q_var 6) (qa_cons (q_var 7) qa_nil)))) qa_nil)))) qss_nil))) qss_nil))))) (qss_one (qs_ret (q_var 5))))))))

abbrev s_p_lost_by_sharing : Stmt := topS 17
abbrev n_p_lost_by_sharing : List Str := ["guesser", "run", "lost", "place"]
theorem sc_p_lost_by_sharing : FnScope n_p_lost_by_sharing ["guesser", "run"] (defScope s_p_lost_by_sharing) := ⟨rfl, rfl, rfl, by decide +kernel, rfl, by decide +kernel, by decide +kernel⟩
theorem tr_p_lost_by_sharing {P : Program} {w : World} {K : PySem.W.Frag} {mg : Str → Option Value} {base : Heap} {k : Nat} (F : Fx mg) {c_p_passed : PSp} {c_p_first_state : PSp} {c_p_places_of : PSp} {c_p_misses_at : PSp} (d_p_passed : Dk ⟨P, w, K⟩ mg base k "passed" ["guesser", "state", "run"] c_p_passed) (d_p_first_state : Dk ⟨P, w, K⟩ mg base k "first_state" ["guesser"] c_p_first_state) (d_p_places_of : Dk ⟨P, w, K⟩ mg base k "places_of" ["run"] c_p_places_of) (d_p_misses_at : Dk ⟨P, w, K⟩ mg base k "misses_at" ["guesser", "run", "places"] c_p_misses_at) {f : Addr} {cdv : Value} {A : Around} {outer : List Env} {s : Shared} {H : Hp} {E : XK} {M : Me}
    (hr : Room k (A.deeper (envOfC "lost_by_sharing" (defScope s_p_lost_by_sharing) s.heap.objs.size f cdv))) : QSs (fnCy P w K mg base n_p_lost_by_sharing "lost_by_sharing" s_p_lost_by_sharing f cdv A outer s H E M) (defBody s_p_lost_by_sharing) (t_p_lost_by_sharing c_p_passed c_p_first_state c_p_places_of c_p_misses_at) := by
  have ndN := sc_p_lost_by_sharing.nd
  exact (qss_cons (qs_set (i := 2) ndN (q_ix hr.units (q_fn d_p_passed hr rfl (qa_cons (q_var 0) (qa_cons (q_fn d_p_first_state hr rfl (qa_cons (q_var 0) qa_nil)) (qa_cons (q_var 1) qa_nil)))) q_int)) (qss_cons (qs_for PassesOwn.never rfl (qi_seq (q_fn d_p_places_of hr rfl (qa_cons (q_var 1) qa_nil))) (qg_name ndN (i := 3)) (qss_one (qs_aug (i := 2) ndN w_isub (q_fn d_p_misses_at hr rfl (qa_cons (q_var 0) (qa_cons (q_var 1) (qa_cons (q_lst (qa_cons (q_var 3) qa_nil)) qa_nil))))))) (qss_one (qs_ret (q_var 2)))))

abbrev s_l_cell_at : Stmt := topS 19
abbrev n_l_cell_at : List Str := ["script", "k"]
theorem sc_l_cell_at : FnScope n_l_cell_at ["script", "k"] (defScope s_l_cell_at) := ⟨rfl, rfl, rfl, by decide +kernel, rfl, by decide +kernel, by decide +kernel⟩
theorem tr_l_cell_at {P : Program} {w : World} {K : PySem.W.Frag} {mg : Str → Option Value} {base : Heap} {k : Nat} (F : Fx mg) {f : Addr} {cdv : Value} {A : Around} {outer : List Env} {s : Shared} {H : Hp} {E : XK} {M : Me}
    (hr : Room k (A.deeper (envOfC "_law_cell_at" (defScope s_l_cell_at) s.heap.objs.size f cdv))) : QSs (fnCy P w K mg base n_l_cell_at "_law_cell_at" s_l_cell_at f cdv A outer s H E M) (defBody s_l_cell_at) (t_l_cell_at) := by
  have ndN := sc_l_cell_at.nd
  exact (qss_cons (qs_if (qt_cmp w_lt (q_var 1) (q_callB (id := "len") w_len rfl F.b_len (by decide +kernel) (qa_cons (q_var 0) qa_nil))) (qss_one (qs_ret (q_ix hr.units (q_var 0) (q_var 1)))) qss_nil) (qss_one (qs_ret q_int)))

abbrev s_l_take : Stmt := topS 20
abbrev n_l_take : List Str := ["deck", "many", "come", "number"]
theorem sc_l_take : FnScope n_l_take ["deck", "many"] (defScope s_l_take) := ⟨rfl, rfl, rfl, by decide +kernel, rfl, by decide +kernel, by decide +kernel⟩
theorem tr_l_take {P : Program} {w : World} {K : PySem.W.Frag} {mg : Str → Option Value} {base : Heap} {k : Nat} (F : Fx mg) {f : Addr} {cdv : Value} {A : Around} {outer : List Env} {s : Shared} {H : Hp} {E : XK} {M : Me}
    (hr : Room k (A.deeper (envOfC "_law_take" (defScope s_l_take) s.heap.objs.size f cdv))) : QSs (fnCy P w K mg base n_l_take "_law_take" s_l_take f cdv A outer s H E M) (defBody s_l_take) (t_l_take) := by
  have ndN := sc_l_take.nd
  exact (qss_cons (qs_if (qt_cmp (w_eq hr.units) (q_ix hr.units (q_var 0) q_int) q_int) (qss_cons (qs_set (i := 2) ndN (q_op w_mod (q_ix hr.units (q_var 0) q_int) (q_var 1))) (qss_cons (qs_asg (q_op w_fdiv (q_ix hr.units (q_var 0) q_int) (q_var 1)) (qg_sub (q_var 0) q_int (w_set hr.units))) (qss_one (qs_ret (q_var 2))))) qss_nil) (qss_cons (qs_asg (q_op w_add (q_ix hr.units (q_var 0) q_int) q_int) (qg_sub (q_var 0) q_int (w_set hr.units))) (qss_cons (qs_set (i := 3) ndN (q_op w_mul (q_op w_mod (q_ix hr.units (q_var 0) q_int) q_int) (q_op w_add (q_op w_mul (q_ix hr.units (q_var 0) q_int) (q_ix hr.units (q_var 0) q_int)) q_int))) (qss_cons (qs_set (i := 3) ndN (q_op w_mod (q_op w_add (q_op w_add (q_var 3) (q_ix hr.units (q_var 0) q_int)) q_int) q_int)) (qss_cons (qs_set (i := 3) ndN (q_op w_mod (q_op w_mul (q_var 3) (q_var 3)) q_int)) (qss_one (qs_ret (q_op w_mod (q_op w_fdiv (q_op w_mod (q_op w_mul (q_var 3) q_int) q_int) q_int) (q_var 1)))))))))

abbrev s_l_deck : Stmt := topS 21
abbrev n_l_deck : List Str := ["cell", "k"]
theorem sc_l_deck : FnScope n_l_deck ["cell", "k"] (defScope s_l_deck) := ⟨rfl, rfl, rfl, by decide +kernel, rfl, by decide +kernel, by decide +kernel⟩
theorem tr_l_deck {P : Program} {w : World} {K : PySem.W.Frag} {mg : Str → Option Value} {base : Heap} {k : Nat} (F : Fx mg) {f : Addr} {cdv : Value} {A : Around} {outer : List Env} {s : Shared} {H : Hp} {E : XK} {M : Me}
    (hr : Room k (A.deeper (envOfC "_law_deck" (defScope s_l_deck) s.heap.objs.size f cdv))) : QSs (fnCy P w K mg base n_l_deck "_law_deck" s_l_deck f cdv A outer s H E M) (defBody s_l_deck) (t_l_deck) := by
  have ndN := sc_l_deck.nd
  exact (qss_cons (qs_if (qt_cmp w_ge (q_var 0) (q_op w_pow q_int q_int)) (qss_one (qs_ret (q_lst (qa_cons (q_op w_sub (q_var 0) (q_op w_pow q_int q_int)) (qa_cons q_int (qa_cons (q_var 1) qa_nil)))))) qss_nil) (qss_one (qs_ret (q_lst (qa_cons (q_var 0) (qa_cons q_int (qa_cons (q_var 1) qa_nil)))))))

abbrev s_l_cell : Stmt := topS 22
abbrev n_l_cell : List Str := ["deck", "most", "many", "guesses", "straight", "aside", "k"]
theorem sc_l_cell : FnScope n_l_cell ["deck", "most"] (defScope s_l_cell) := ⟨rfl, rfl, rfl, by decide +kernel, rfl, by decide +kernel, by decide +kernel⟩
theorem tr_l_cell {P : Program} {w : World} {K : PySem.W.Frag} {mg : Str → Option Value} {base : Heap} {k : Nat} (F : Fx mg) {c_l_take : PSp} (d_l_take : Dk ⟨P, w, K⟩ mg base k "_law_take" ["deck", "many"] c_l_take) {f : Addr} {cdv : Value} {A : Around} {outer : List Env} {s : Shared} {H : Hp} {E : XK} {M : Me}
    (hr : Room k (A.deeper (envOfC "_law_cell" (defScope s_l_cell) s.heap.objs.size f cdv))) : QSs (fnCy P w K mg base n_l_cell "_law_cell" s_l_cell f cdv A outer s H E M) (defBody s_l_cell) (t_l_cell c_l_take) := by
  have ndN := sc_l_cell.nd
  exact (qss_cons (qs_set (i := 2) ndN (q_op w_add q_int (q_fn d_l_take hr rfl (qa_cons (q_var 0) (qa_cons (q_var 1) qa_nil))))) (qss_cons (qs_set (i := 3) ndN (q_callT (T := "tuple") w_tup rfl F.b_tuple (by decide +kernel) (qa_cons (q_lc [("k", 6)] rfl ndN (qi_rng1 rfl F.b_range (qa_cons (q_var 2) qa_nil)) (blkOk_by (N := n_l_cell) (sc := defScope s_l_cell) (by decide +kernel)) (fun _ _ _ _ _ => (qv_name ndN (i := 6))) (fun _ _ _ _ _ => qts_nil) (fun _ _ _ _ _ => (q_fn d_l_take hr rfl (qa_cons (q_var 0) (qa_cons q_int qa_nil))))) qa_nil))) (qss_cons (qs_set (i := 4) ndN (q_callT (T := "tuple") w_tup rfl F.b_tuple (by decide +kernel) (qa_cons (q_lc [("k", 6)] rfl ndN (qi_rng1 rfl F.b_range (qa_cons (q_var 2) qa_nil)) (blkOk_by (N := n_l_cell) (sc := defScope s_l_cell) (by decide +kernel)) (fun _ _ _ _ _ => (qv_name ndN (i := 6))) (fun _ _ _ _ _ => qts_nil) (fun _ _ _ _ _ => (q_fn d_l_take hr rfl (qa_cons (q_var 0) (qa_cons (q_var 2) qa_nil))))) qa_nil))) (qss_cons (qs_set (i := 5) ndN (q_callT (T := "tuple") w_tup rfl F.b_tuple (by decide +kernel) (qa_cons (q_lc [("k", 6)] rfl ndN (qi_rng1 rfl F.b_range (qa_cons (q_var 2) qa_nil)) (blkOk_by (N := n_l_cell) (sc := defScope s_l_cell) (by decide +kernel)) (fun _ _ _ _ _ => (qv_name ndN (i := 6))) (fun _ _ _ _ _ => qts_nil) (fun _ _ _ _ _ => (q_fn d_l_take hr rfl (qa_cons (q_var 0) (qa_cons (q_var 2) qa_nil))))) qa_nil))) (qss_one (qs_ret (q_tup (qa_cons (q_var 3) (qa_cons (q_var 4) (qa_cons (q_var 5) qa_nil))))))))))

abbrev s_l_table_misses : Stmt := topS 23
abbrev n_l_table_misses : List Str := ["guesser", "run", "size", "cell", "states", "misses", "place", "way", "at"]
theorem sc_l_table_misses : FnScope n_l_table_misses ["guesser", "run"] (defScope s_l_table_misses) := ⟨rfl, rfl, rfl, by decide +kernel, rfl, by decide +kernel, by decide +kernel⟩
theorem tr_l_table_misses {P : Program} {w : World} {K : PySem.W.Frag} {mg : Str → Option Value} {base : Heap} {k : Nat} (F : Fx mg) {f : Addr} {cdv : Value} {A : Around} {outer : List Env} {s : Shared} {H : Hp} {E : XK} {M : Me}
    (hr : Room k (A.deeper (envOfC "_law_table_misses" (defScope s_l_table_misses) s.heap.objs.size f cdv))) : QSs (fnCy P w K mg base n_l_table_misses "_law_table_misses" s_l_table_misses f cdv A outer s H E M) (defBody s_l_table_misses) (t_l_table_misses) := by
  have ndN := sc_l_table_misses.nd
  exact (qss_cons (qs_asg (q_sl (q_var 0) (qo_some q_int) qo_none) (qg_tup rfl (qgs_cons (qg_name ndN (i := 2)) (qgs_cons (qg_name ndN (i := 3)) qgs_nil)))) (qss_cons (qs_set (i := 4) ndN (q_op w_mul (q_lst (qa_cons q_int qa_nil)) (q_var 2))) (qss_cons (qs_set (i := 5) ndN q_int) (qss_cons (qs_for PassesOwn.never rfl (qi_seq (q_var 1)) (qg_tup rfl (qgs_cons (qg_name ndN (i := 6)) (qgs_cons (qg_name ndN (i := 7)) qgs_nil))) (qss_cons (qs_set (i := 8) ndN (q_op w_mod (q_var 6) (q_var 2))) (qss_cons (qs_set (i := 5) ndN (q_op w_add (q_var 5) (q_callT (T := "int") w_int rfl F.b_int (by decide +kernel) (qa_cons (q_cmp (w_ne hr.units) (q_ix hr.units (q_ix hr.units (q_var 3) q_int) (q_ix hr.units (q_var 4) (q_var 8))) (q_var 7)) qa_nil)))) (qss_one (qs_asg (q_ix hr.units (q_ix hr.units (q_var 3) (q_op w_add q_int (q_var 7))) (q_ix hr.units (q_var 4) (q_var 8))) (qg_sub (q_var 4) (q_var 8) (w_set hr.units))))))) (qss_one (qs_ret (q_var 5)))))))

abbrev s_l_run : Stmt := topS 24
abbrev n_l_run : List Str := ["script", "head", "run", "cell", "deck", "place"]
theorem sc_l_run : FnScope n_l_run ["script"] (defScope s_l_run) := ⟨rfl, rfl, rfl, by decide +kernel, rfl, by decide +kernel, by decide +kernel⟩
theorem tr_l_run {P : Program} {w : World} {K : PySem.W.Frag} {mg : Str → Option Value} {base : Heap} {k : Nat} (F : Fx mg) {c_l_cell_at : PSp} {c_l_deck : PSp} {c_l_take : PSp} (d_l_cell_at : Dk ⟨P, w, K⟩ mg base k "_law_cell_at" ["script", "k"] c_l_cell_at) (d_l_deck : Dk ⟨P, w, K⟩ mg base k "_law_deck" ["cell", "k"] c_l_deck) (d_l_take : Dk ⟨P, w, K⟩ mg base k "_law_take" ["deck", "many"] c_l_take) {f : Addr} {cdv : Value} {A : Around} {outer : List Env} {s : Shared} {H : Hp} {E : XK} {M : Me}
    (hr : Room k (A.deeper (envOfC "_law_run" (defScope s_l_run) s.heap.objs.size f cdv))) : QSs (fnCy P w K mg base n_l_run "_law_run" s_l_run f cdv A outer s H E M) (defBody s_l_run) (t_l_run c_l_cell_at c_l_deck c_l_take) := by
  have ndN := sc_l_run.nd
  exact (qss_cons (qs_set (i := 1) ndN (q_fn d_l_cell_at hr rfl (qa_cons (q_var 0) (qa_cons q_int qa_nil)))) (qss_cons (qs_set (i := 2) ndN (q_lst qa_nil)) (qss_cons (qs_for PassesOwn.never rfl (qi_seq (q_sl (q_var 0) (qo_some q_int) (qo_some q_int))) (qg_name ndN (i := 3)) (qss_cons (qs_set (i := 4) ndN (q_fn d_l_deck hr rfl (qa_cons (q_var 3) (qa_cons q_int qa_nil)))) (qss_cons (qs_set (i := 5) ndN (q_ix hr.units (q_lst (qa_cons (q_fn d_l_take hr rfl (qa_cons (q_var 4) (qa_cons q_int qa_nil))) (qa_cons (q_op w_add (q_op w_mul q_int (q_fn d_l_take hr rfl (qa_cons (q_var 4) (qa_cons q_int qa_nil)))) q_int) (qa_cons (q_fn d_l_take hr rfl (qa_cons (q_var 4) (qa_cons q_int qa_nil))) qa_nil)))) (q_op w_mod (q_var 1) q_int))) (qss_one (qs_expr (q_mt (by first | exact PySem.F.slot_list_append | exact PyProof.Rows.slot_list_append) (by first | exact PySem.F.type_list_append | exact PyProof.Rows.type_list_append) w_app (q_var 2) (qa_cons (q_tup (qa_cons (q_var 5) (qa_cons (q_fn d_l_take hr rfl (qa_cons (q_var 4) (qa_cons q_int qa_nil))) qa_nil))) qa_nil))))))) (qss_cons (qs_if (QW.pt (qw_and (qt_cmp (w_eq hr.units) (q_op w_mod (q_op w_fdiv (q_var 1) q_int) q_int) q_int) (qw_and1 (qt_cmp w_lt (q_op w_mod (q_var 1) q_int) q_int)))) (qss_one (qs_set (i := 2) ndN (q_op w_mul (q_var 2) q_int))) qss_nil) (qss_one (qs_ret (q_var 2)))))))

abbrev s_l_at : Stmt := topS 25
abbrev n_l_at : List Str := ["run", "places", "event"]
theorem sc_l_at : FnScope n_l_at ["run", "places"] (defScope s_l_at) := ⟨rfl, rfl, rfl, by decide +kernel, rfl, by decide +kernel, by decide +kernel⟩
theorem tr_l_at {P : Program} {w : World} {K : PySem.W.Frag} {mg : Str → Option Value} {base : Heap} {k : Nat} (F : Fx mg) {f : Addr} {cdv : Value} {A : Around} {outer : List Env} {s : Shared} {H : Hp} {E : XK} {M : Me}
    (hr : Room k (A.deeper (envOfC "_law_at" (defScope s_l_at) s.heap.objs.size f cdv))) : QSs (fnCy P w K mg base n_l_at "_law_at" s_l_at f cdv A outer s H E M) (defBody s_l_at) (t_l_at) := by
  have ndN := sc_l_at.nd
  exact (qss_one (qs_ret (q_lc [("event", 2)] rfl ndN (qi_seq (q_var 0)) (blkOk_by (N := n_l_at) (sc := defScope s_l_at) (by decide +kernel)) (fun _ _ _ _ _ => (qv_name ndN (i := 2))) (fun _ _ _ _ _ => (qts_one (qt_cmp (w_in hr.units) (q_ix hr.units (q_var 2) q_int) (q_var 1)))) (fun _ _ _ _ _ => (q_var 2)))))

abbrev s_l_due : Stmt := topS 26
abbrev n_l_due : List Str := ["guesser", "run", "place", "places", "alone", "found", "one", "other", "both", "lost", "way"]
theorem sc_l_due : FnScope n_l_due ["guesser", "run"] (defScope s_l_due) := ⟨rfl, rfl, rfl, by decide +kernel, rfl, by decide +kernel, by decide +kernel⟩
theorem tr_l_due {P : Program} {w : World} {K : PySem.W.Frag} {mg : Str → Option Value} {base : Heap} {k : Nat} (F : Fx mg) {c_l_table_misses : PSp} {c_l_at : PSp} (d_l_table_misses : Dk ⟨P, w, K⟩ mg base k "_law_table_misses" ["guesser", "run"] c_l_table_misses) (d_l_at : Dk ⟨P, w, K⟩ mg base k "_law_at" ["run", "places"] c_l_at) {f : Addr} {cdv : Value} {A : Around} {outer : List Env} {s : Shared} {H : Hp} {E : XK} {M : Me}
    (hr : Room k (A.deeper (envOfC "_law_due" (defScope s_l_due) s.heap.objs.size f cdv))) : QSs (fnCy P w K mg base n_l_due "_law_due" s_l_due f cdv A outer s H E M) (defBody s_l_due) (t_l_due c_l_table_misses c_l_at) := by
  have ndN := sc_l_due.nd
  exact (qss_cons (qs_set (i := 3) ndN (q_sortedSet rfl rfl F.b_sorted rfl F.b_set (q_lc [("place", 2), ("way", 10)] rfl ndN (qi_seq (q_var 1)) (blkOk_by (N := n_l_due) (sc := defScope s_l_due) (by decide +kernel)) (fun _ _ _ _ _ => (qv_tup rfl (qvs_cons (qv_name ndN (i := 2)) (qvs_cons (qv_name ndN (i := 10)) qvs_nil)))) (fun _ _ _ _ _ => qts_nil) (fun _ _ _ _ _ => (q_var 2))))) (qss_cons (qs_set (i := 4) ndN q_newK) (qss_cons (qs_for PassesOwn.never rfl (qi_seq (q_var 3)) (qg_name ndN (i := 2)) (qss_one (qs_asg (q_fn d_l_table_misses hr rfl (qa_cons (q_var 0) (qa_cons (q_fn d_l_at hr rfl (qa_cons (q_var 1) (qa_cons (q_lst (qa_cons (q_var 2) qa_nil)) qa_nil))) qa_nil))) (qg_sub (q_var 4) (q_var 2) (w_set hr.units))))) (qss_cons (qs_set (i := 5) ndN (q_lst qa_nil)) (qss_cons (qs_for PassesOwn.never rfl (qi_seq (q_var 3)) (qg_name ndN (i := 6)) (qss_one (qs_for PassesOwn.never rfl (qi_seq (q_var 3)) (qg_name ndN (i := 7)) (qss_one (qs_if (QW.pt (qw_and (qt_cmp w_lt (q_var 6) (q_var 7)) (qw_and1 (qt_cmp (w_eq hr.units) (q_op w_mod (q_op w_sub (q_var 7) (q_var 6)) (q_ix hr.units (q_var 0) q_int)) q_int)))) (qss_cons (qs_set (i := 8) ndN (q_fn d_l_table_misses hr rfl (qa_cons (q_var 0) (qa_cons (q_fn d_l_at hr rfl (qa_cons (q_var 1) (qa_cons (q_lst (qa_cons (q_var 6) (qa_cons (q_var 7) qa_nil))) qa_nil))) qa_nil)))) (qss_cons (qs_set (i := 9) ndN (q_op w_sub (q_op w_sub (q_var 8) (q_ix hr.units (q_var 4) (q_var 6))) (q_ix hr.units (q_var 4) (q_var 7)))) (qss_one (qs_if (qt_cmp (w_ne hr.units) (q_var 9) q_int) (qss_one (qs_expr (q_mt (by first | exact PySem.F.slot_list_append | exact PyProof.Rows.slot_list_append) (by first | exact PySem.F.type_list_append | exact PyProof.Rows.type_list_append) w_app (q_var 5) (qa_cons (q_tup (qa_cons (q_var 6) (qa_cons (q_var 7) (qa_cons (q_var 9) qa_nil)))) qa_nil)))) qss_nil)))) qss_nil))))) (qss_one (qs_ret (q_var 5))))))))

abbrev s_lawm : Stmt := topS 27
abbrev n_lawm : List Str := ["script", "deck", "guesser", "run", "handed", "due", "told", "held", "lost", "place", "found", "way"]
theorem sc_lawm : FnScope n_lawm ["script"] (defScope s_lawm) := ⟨rfl, rfl, rfl, by decide +kernel, rfl, by decide +kernel, by decide +kernel⟩
theorem tr_lawm {P : Program} {w : World} {K : PySem.W.Frag} {mg : Str → Option Value} {base : Heap} {k : Nat} (F : Fx mg) {c_l_deck : PSp} {c_l_cell_at : PSp} {c_l_take : PSp} {c_l_cell : PSp} {c_l_run : PSp} {c_l_due : PSp} {c_p_spoiled : PSp} {c_l_table_misses : PSp} {c_l_at : PSp} {c_p_lost_by_sharing : PSp} (d_l_deck : Dk ⟨P, w, K⟩ mg base k "_law_deck" ["cell", "k"] c_l_deck) (d_l_cell_at : Dk ⟨P, w, K⟩ mg base k "_law_cell_at" ["script", "k"] c_l_cell_at) (d_l_take : Dk ⟨P, w, K⟩ mg base k "_law_take" ["deck", "many"] c_l_take) (d_l_cell : Dk ⟨P, w, K⟩ mg base k "_law_cell" ["deck", "most"] c_l_cell) (d_l_run : Dk ⟨P, w, K⟩ mg base k "_law_run" ["script"] c_l_run) (d_l_due : Dk ⟨P, w, K⟩ mg base k "_law_due" ["guesser", "run"] c_l_due) (d_p_spoiled : Dk ⟨P, w, K⟩ mg base k "spoiled" ["guesser", "run"] c_p_spoiled) (d_l_table_misses : Dk ⟨P, w, K⟩ mg base k "_law_table_misses" ["guesser", "run"] c_l_table_misses) (d_l_at : Dk ⟨P, w, K⟩ mg base k "_law_at" ["run", "places"] c_l_at) (d_p_lost_by_sharing : Dk ⟨P, w, K⟩ mg base k "lost_by_sharing" ["guesser", "run"] c_p_lost_by_sharing) {f : Addr} {cdv : Value} {A : Around} {outer : List Env} {s : Shared} {H : Hp} {E : XK} {M : Me} (gd0 : A.guards = some [])
    (hr : Room k (A.deeper (envOfC "law" (defScope s_lawm) s.heap.objs.size f cdv))) : QSs (fnCy P w K mg base n_lawm "law" s_lawm f cdv A outer s H E M) (defBody s_lawm) (t_lawm c_l_deck c_l_cell_at c_l_take c_l_cell c_l_run c_l_due c_p_spoiled c_l_table_misses c_l_at c_p_lost_by_sharing) := by
  have ndN := sc_lawm.nd
  have gd := deeper_guards (env := envOfC "law" (defScope s_lawm) s.heap.objs.size f cdv) gd0
  exact (qss_cons (qs_set (i := 1) ndN (q_fn d_l_deck hr rfl (qa_cons (q_fn d_l_cell_at hr rfl (qa_cons (q_var 0) (qa_cons q_int qa_nil))) (qa_cons q_int qa_nil)))) (qss_cons (qs_set (i := 2) ndN (q_tup (qa_cons q_str (qa_cons (q_op w_add q_int (q_fn d_l_take hr rfl (qa_cons (q_var 1) (qa_cons q_int qa_nil)))) (qa_cons (q_fn d_l_cell hr rfl (qa_cons (q_var 1) (qa_cons q_int qa_nil))) qa_nil))))) (qss_cons (qs_set (i := 3) ndN (q_fn d_l_run hr rfl (qa_cons (q_var 0) qa_nil))) (qss_cons (qs_set (i := 4) ndN (q_callT (T := "list") w_lst rfl F.b_list (by decide +kernel) (qa_cons (q_var 3) qa_nil))) (qss_cons (qs_set (i := 5) ndN (q_fn d_l_due hr rfl (qa_cons (q_var 2) (qa_cons (q_var 3) qa_nil)))) (qss_cons (qs_set (i := 6) ndN (q_fn d_p_spoiled hr rfl (qa_cons (q_var 2) (qa_cons (q_var 4) qa_nil)))) (qss_cons (qs_if (QW.pt (qw_or (qt_not (qt_val (q_isi .list (q_var 6) rfl F.b_isinstance rfl F.b_list))) (qw_or (qt_cmp (w_ne hr.units) (q_callB (id := "repr") (w_repr gd hr.units) rfl F.b_repr (by decide +kernel) (qa_cons (q_var 6) qa_nil)) (q_callB (id := "repr") (w_repr gd hr.units) rfl F.b_repr (by decide +kernel) (qa_cons (q_var 5) qa_nil))) (qw_or1 (qt_cmp (w_ne hr.units) (q_var 4) (q_var 3)))))) (qss_one (qs_ret q_bl)) qss_nil) (qss_cons (qs_set (i := 7) ndN (q_callT (T := "list") w_lst rfl F.b_list (by decide +kernel) (qa_cons (q_var 6) qa_nil))) (qss_cons (qs_expr (q_mt (by first | exact PySem.F.slot_list_append | exact PyProof.Rows.slot_list_append) (by first | exact PySem.F.type_list_append | exact PyProof.Rows.type_list_append) w_app (q_var 6) (qa_cons (q_tup (qa_cons q_int (qa_cons q_int (qa_cons q_int qa_nil)))) qa_nil))) (qss_cons (qs_if (qt_cmp (w_ne hr.units) (q_fn d_p_spoiled hr rfl (qa_cons (q_var 2) (qa_cons (q_var 4) qa_nil))) (q_var 7)) (qss_one (qs_ret q_bl)) qss_nil) (qss_cons (qs_set (i := 8) ndN (q_fn d_l_table_misses hr rfl (qa_cons (q_var 2) (qa_cons (q_var 3) qa_nil)))) (qss_cons (qs_for PassesOwn.never rfl (qi_seq (q_sortedSet rfl rfl F.b_sorted rfl F.b_set (q_lc [("place", 9), ("way", 11)] rfl ndN (qi_seq (q_var 3)) (blkOk_by (N := n_lawm) (sc := defScope s_lawm) (by decide +kernel)) (fun _ _ _ _ _ => (qv_tup rfl (qvs_cons (qv_name ndN (i := 9)) (qvs_cons (qv_name ndN (i := 11)) qvs_nil)))) (fun _ _ _ _ _ => qts_nil) (fun _ _ _ _ _ => (q_var 9))))) (qg_name ndN (i := 9)) (qss_one (qs_set (i := 8) ndN (q_op w_sub (q_var 8) (q_fn d_l_table_misses hr rfl (qa_cons (q_var 2) (qa_cons (q_fn d_l_at hr rfl (qa_cons (q_var 3) (qa_cons (q_lst (qa_cons (q_var 9) qa_nil)) qa_nil))) qa_nil))))))) (qss_cons (qs_set (i := 10) ndN (q_fn d_p_lost_by_sharing hr rfl (qa_cons (q_var 2) (qa_cons (q_var 4) qa_nil)))) (qss_one (qs_ret (q_and (q_not (q_isi .bool (q_var 10) rfl F.b_isinstance rfl F.b_bool)) (q_and (q_cmp (w_eq hr.units) (q_var 10) (q_var 8)) (q_one (q_cmp (w_eq hr.units) (q_var 4) (q_var 3))))))))))))))))))))

end PV
set_option maxHeartbeats 1000000
/-! cells in plain Lean -/
namespace PV
open PySem PySem.Spec PyProof.Rows L2
abbrev iT (xs : List Int) : W := .tup (xs.map W.int)
abbrev Cell := List Int × List Int × List Int
def cW (c : Cell) : W := .tup [iT c.1, iT c.2.1, iT c.2.2]
def ga (xs : List Int) (i : Int) : Int := xs.getD i.toNat 0
structure CellOk (n : Nat) (c : Cell) : Prop where
  l1 : c.1.length = n
  l2 : c.2.1.length = n
  l3 : c.2.2.length = n
  pos : 1 ≤ n
  g : ∀ x ∈ c.1, 0 ≤ x ∧ x < 2
  s : ∀ x ∈ c.2.1, 0 ≤ x ∧ x < n
  a : ∀ x ∈ c.2.2, 0 ≤ x ∧ x < n
theorem at_ga {xs : List Int} {i : Int} (h0 : 0 ≤ i) (h1 : i < xs.length) : atI (xs.map W.int) i = some (.int (ga xs i)) := by
  have hl : i.toNat < xs.length := by omega
  refine atI_of h0 ?_
  rw [List.getElem?_map, List.getElem?_eq_getElem hl]
  unfold ga
  rw [List.getD_eq_getElem?_getD, List.getElem?_eq_getElem hl]; rfl
theorem ga_mem {xs : List Int} {i : Int} (h0 : 0 ≤ i) (h1 : i < xs.length) : ga xs i ∈ xs := by
  have hl : i.toNat < xs.length := by omega
  unfold ga
  rw [List.getD_eq_getElem?_getD, List.getElem?_eq_getElem hl]
  exact List.getElem_mem hl
section
variable {n : Nat} {c : Cell}
theorem CellOk.gs (h : CellOk n c) {i : Int} (h0 : 0 ≤ i) (h1 : i < n) : 0 ≤ ga c.2.1 i ∧ ga c.2.1 i < n := h.s _ (ga_mem h0 (by rw [h.l2]; exact h1))
theorem CellOk.gaa (h : CellOk n c) {i : Int} (h0 : 0 ≤ i) (h1 : i < n) : 0 ≤ ga c.2.2 i ∧ ga c.2.2 i < n := h.a _ (ga_mem h0 (by rw [h.l3]; exact h1))
theorem CellOk.ag (h : CellOk n c) {i : Int} (h0 : 0 ≤ i) (h1 : i < n) : atI (c.1.map W.int) i = some (.int (ga c.1 i)) := at_ga h0 (by rw [h.l1]; exact h1)
theorem CellOk.as (h : CellOk n c) {i : Int} (h0 : 0 ≤ i) (h1 : i < n) : atI (c.2.1.map W.int) i = some (.int (ga c.2.1 i)) := at_ga h0 (by rw [h.l2]; exact h1)
theorem CellOk.aa (h : CellOk n c) {i : Int} (h0 : 0 ≤ i) (h1 : i < n) : atI (c.2.2.map W.int) i = some (.int (ga c.2.2 i)) := at_ga h0 (by rw [h.l3]; exact h1)
end
/-! misses -/
def nextC (c : Cell) (st way : Int) : Int := if way = 0 then ga c.2.1 st else ga c.2.2 st
def missC (c : Cell) : List Int → Int × Int → Int × Int
  | [], p => p
  | w :: ws, p => missC c ws (nextC c p.1 w, p.2 + b2i (!decide (ga c.1 p.1 = w)))
theorem missC_app (c : Cell) : ∀ (ws : List Int) (p : Int × Int) (w : Int), missC c (ws ++ [w]) p = (nextC c (missC c ws p).1 w, (missC c ws p).2 + b2i (!decide (ga c.1 (missC c ws p).1 = w)))
  | [], _, _ => rfl
  | x :: ws, p, w => missC_app c ws _ w
theorem missC_take {c : Cell} {ws : List Int} {i : Nat} {w : Int} {p : Int × Int} (h : ws[i]? = some w) : missC c (ws.take (i + 1)) p = (nextC c (missC c (ws.take i) p).1 w, (missC c (ws.take i) p).2 + b2i (!decide (ga c.1 (missC c (ws.take i) p).1 = w))) := by
  rw [List.take_succ, h]
  exact missC_app c _ p w
theorem nextC_ok {n : Nat} {c : Cell} (h : CellOk n c) {st w : Int} (h0 : 0 ≤ st) (h1 : st < n) : 0 ≤ nextC c st w ∧ nextC c st w < n := by
  unfold nextC
  split
  · exact h.gs h0 h1
  · exact h.gaa h0 h1
theorem missC_ok {n : Nat} {c : Cell} (h : CellOk n c) : ∀ (ws : List Int) (p : Int × Int), 0 ≤ p.1 ∧ p.1 < n → 0 ≤ (missC c ws p).1 ∧ (missC c ws p).1 < n
  | [], _, hp => hp
  | w :: ws, p, hp => missC_ok h ws _ (nextC_ok h hp.1 hp.2)
def missN (c : Cell) (ws : List Int) : Int := (missC c ws (0, 0)).2
/-! figures, power -/
def dv (num base : Int) : Nat → Int
  | 0 => num
  | k + 1 => dv num base k / base
def figs (num base : Int) (k : Nat) : List Int := (List.range k).map fun j => dv num base j % base
theorem figs_succ {num base : Int} {k : Nat} : figs num base (k + 1) = figs num base k ++ [dv num base k % base] := by
  unfold figs; rw [List.range_succ, List.map_append]; rfl
theorem figs_len {num base : Int} {k : Nat} : (figs num base k).length = k := by unfold figs; rw [List.length_map, List.length_range]
theorem figs_ok {num base : Int} {k : Nat} (h : 0 < base) : ∀ x ∈ figs num base k, 0 ≤ x ∧ x < base := fun x hx => by
  unfold figs at hx
  obtain ⟨j, _, rfl⟩ := List.mem_map.mp hx
  exact ⟨Int.emod_nonneg _ (by omega), Int.emod_lt_of_pos _ h⟩
/-! the order in which states are come to -/
def stO (o : List Int) (t : Int) : List Int := if t ∈ o then o else o ++ [t]
def stepO (c : Cell) (p : List Int × Nat) : List Int × Nat := match p.1[p.2]? with
  | some x => (stO (stO p.1 (ga c.2.1 x)) (ga c.2.2 x), p.2 + 1)
  | none => p
def itO (c : Cell) (f : Int) : Nat → List Int × Nat
  | 0 => ([f], 0)
  | k + 1 => stepO c (itO c f k)
def ordO (c : Cell) (f : Int) : List Int := (itO c f c.1.length).1
theorem stO_sub {o : List Int} {t x : Int} (h : x ∈ o) : x ∈ stO o t := by unfold stO; split; exact h; exact List.mem_append_left _ h
theorem stO_self {o : List Int} {t : Int} : t ∈ stO o t := by unfold stO; split <;> simp_all
theorem stO_len {o : List Int} {t : Int} : o.length ≤ (stO o t).length := by unfold stO; split <;> simp
theorem stO_get {o : List Int} {t : Int} {i : Nat} (h : i < o.length) : (stO o t)[i]? = o[i]? := by unfold stO; split; rfl; rw [List.getElem?_append_left h]
theorem stO_nodup {o : List Int} {t : Int} (h : o.Nodup) : (stO o t).Nodup := by
  unfold stO; split
  · exact h
  · rename_i hn
    rw [List.nodup_append]
    exact ⟨h, by simp, fun a ha b hb e => hn (by rw [List.mem_singleton] at hb; rw [← hb, ← e]; exact ha)⟩
theorem stO_all {o : List Int} {t : Int} {P : Int → Prop} (h : ∀ x ∈ o, P x) (ht : P t) : ∀ x ∈ stO o t, P x := fun x hx => by
  unfold stO at hx
  split at hx
  · exact h x hx
  · rcases List.mem_append.mp hx with hx | hx
    · exact h x hx
    · rw [List.mem_singleton.mp hx]; exact ht
/-- what holds of the order while it is made -/
structure OrdI (n : Nat) (c : Cell) (k : Nat) (o : List Int) : Prop where
  nd : o.Nodup
  bd : ∀ x ∈ o, 0 ≤ x ∧ x < n
  le : k ≤ o.length
  cl : ∀ (j : Nat) (x : Int), j < k → o[j]? = some x → ga c.2.1 x ∈ o ∧ ga c.2.2 x ∈ o
theorem nodup_sub : ∀ (l l' : List Int), l.Nodup → (∀ a ∈ l, a ∈ l') → l.length ≤ l'.length
  | [], _, _, _ => Nat.zero_le _
  | x :: l, l', nd, sb => by
    have hx := sb x (.head _)
    have nx := List.nodup_cons.mp nd
    have := nodup_sub l (l'.erase x) nx.2 (fun a ha => (List.mem_erase_of_ne (fun z => nx.1 (by rw [← z]; exact ha))).mpr (sb a (.tail _ ha)))
    rw [List.length_erase_of_mem hx] at this
    have hp : 0 < l'.length := List.length_pos_of_mem hx
    rw [List.length_cons]
    omega
theorem nodup_le {n : Nat} {o : List Int} (nd : o.Nodup) (bd : ∀ x ∈ o, 0 ≤ x ∧ x < n) : o.length ≤ n := by
  have := nodup_sub o ((List.range n).map fun (k : Nat) => (k : Int)) nd (fun x hx => by
    have := bd x hx
    exact List.mem_map.mpr ⟨x.toNat, List.mem_range.mpr (by omega), by omega⟩)
  simpa using this
section
variable {n k : Nat} {c : Cell} {o : List Int} {f x : Int}
theorem OrdI.start (h0 : 0 ≤ f) (h1 : f < n) : OrdI n c 0 [f] := ⟨by simp, fun x hx => by rw [List.mem_singleton.mp hx]; exact ⟨h0, h1⟩, Nat.zero_le _, fun j x hj => absurd hj (Nat.not_lt_zero _)⟩
theorem OrdI.step (h : OrdI n c k o) (hc : CellOk n c) (hx : o[k]? = some x) : OrdI n c (k + 1) (stO (stO o (ga c.2.1 x)) (ga c.2.2 x)) := by
  have bx := h.bd x (List.mem_of_getElem? hx)
  have hk : k < o.length := (List.getElem?_eq_some_iff.mp hx).1
  refine ⟨stO_nodup (stO_nodup h.nd), stO_all (stO_all h.bd (hc.gs bx.1 bx.2)) (hc.gaa bx.1 bx.2), Nat.le_trans hk (Nat.le_trans stO_len stO_len), fun j y hj hy => ?_⟩
  have hjo : j < o.length := by omega
  rw [stO_get (Nat.lt_of_lt_of_le hjo stO_len), stO_get hjo] at hy
  by_cases e : j = k
  · subst e
    rw [hx] at hy; cases hy
    exact ⟨stO_sub stO_self, stO_self⟩
  · have := h.cl j y (by omega) hy
    exact ⟨stO_sub (stO_sub this.1), stO_sub (stO_sub this.2)⟩
theorem itO_step (e : itO c f k = (o, k)) (hx : o[k]? = some x) : itO c f (k + 1) = (stO (stO o (ga c.2.1 x)) (ga c.2.2 x), k + 1) := by
  show stepO c (itO c f k) = _
  rw [e]
  unfold stepO
  rw [hx]
theorem itO_stop (e : itO c f k = (o, k)) (hk : o.length ≤ k) : ∀ j, itO c f (k + j) = (o, k)
  | 0 => e
  | j + 1 => by
    show stepO c (itO c f (k + j)) = _
    rw [itO_stop e hk j]
    unfold stepO
    rw [List.getElem?_eq_none hk]
theorem ordO_of (hc : CellOk n c) (h : OrdI n c k o) (e : itO c f k = (o, k)) (hk : o.length ≤ k) : ordO c f = o := by
  have hn := nodup_le h.nd h.bd
  have hk2 := h.le
  unfold ordO
  rw [hc.l1, show n = k + (n - k) by omega, itO_stop e hk]
end
/-- the cell in order -/
def plC (c : Cell) (f : Int) : Cell := ((ordO c f).map (ga c.1), (ordO c f).map fun x => ((ordO c f).idxOf (ga c.2.1 x) : Int), (ordO c f).map fun x => ((ordO c f).idxOf (ga c.2.2 x) : Int))
/-- places as a dict -/
def kvO (o : List Int) : List (Key × W) := o.zipIdx.map fun p => (Sum.inl p.1, W.int (p.2 : Nat))
theorem kvO_len {o : List Int} : (kvO o).length = o.length := by unfold kvO; simp
theorem look_zip : ∀ (o : List Int) (m : Nat) (x : Int), look ((o.zipIdx m).map fun p => ((Sum.inl p.1 : Key), W.int (p.2 : Nat))) (Sum.inl x) = if x ∈ o then some (.int ((m + o.idxOf x : Nat) : Int)) else none
  | [], _, _ => rfl
  | y :: o, m, x => by
    have ih := look_zip o (m + 1) x
    unfold look at ih ⊢
    rw [List.zipIdx_cons, List.map_cons, List.find?_cons]
    by_cases e : y = x
    · subst e
      simp
    · have e2 : decide ((Sum.inl y : Key) = Sum.inl x) = false := decide_eq_false fun z => e (Sum.inl.inj z)
      rw [e2]
      simp only [ih, List.mem_cons, List.idxOf_cons]
      have e3 : (y == x) = false := beq_eq_false_iff_ne.mpr e
      rw [e3]
      by_cases hm : x ∈ o
      · rw [if_pos hm, if_pos (.inr hm)]
        simp
        omega
      · rw [if_neg hm, if_neg (by rintro (h | h); exact e h.symm; exact hm h)]
theorem look_kvO {o : List Int} {x : Int} : look (kvO o) (Sum.inl x) = if x ∈ o then some (.int (o.idxOf x : Nat)) else none := by
  have := look_zip o 0 x
  rw [Nat.zero_add] at this
  exact this
theorem kvO_snoc {o : List Int} {x : Int} (h : x ∉ o) : place (kvO o) (Sum.inl x) (.int (o.length : Nat)) = kvO (o ++ [x]) := by
  unfold place
  rw [look_kvO, if_neg h]
  rw [if_neg (by simp)]
  unfold kvO
  rw [List.zipIdx_append, List.map_append]
  simp
end PV
set_option maxHeartbeats 4000000
namespace PV
open PySem PySem.Spec PyProof.Rows L2
local macro_rules | `(tactic| walk_at "pv") => `(tactic| try simp only [↓s_seq, ↓s_next, ↓s_ret, ↓s_retN, ↓s_drop, ↓s_set, ↓s_ifS, ↓s_asg, ↓s_gname, ↓s_gnil, ↓s_gcons, ↓s_gtup, tg1_t, ↓s_gsub, ↓s_par, par2_e, ↓s_aug, ↓s_var, ov_some, ↓s_c, ↓s_op, ↓s_un, ↓s_B, ↓s_chain, ↓s_and, ↓s_or, ↓s_not, ↓s_andV, ↓s_orV, ↓s_notV, ↓s_if, ↓s_nil, ↓s_cons, ↓s_tup, ↓s_lst, ↓s_call, ↓s_fn, ↓s_isi, ↓s_mt, ↓s_mt0, ↓s_sl, ↓s_part, ↓s_nopart, ↓s_newK, ↓s_newN, ↓s_yes, wWipe, ↓s_for, ↓s_seqI, ↓s_rng1, ↓s_rng2, ↓s_lc,
  brn_t, brn_f, gt_some, onB_b, itS_tup, itS_cl, itS_ref, rgO_i, rgT_i, prt_i, mtS_r, mtZ_r,
  isQ_int_non, isQ_int_bl, isQ_int_int, isQ_int_str, isQ_int_tup, isQ_int_l, isQ_int_k, isQ_bool_non, isQ_bool_bl, isQ_bool_int, isQ_bool_str, isQ_bool_tup, isQ_bool_l, isQ_bool_k, isQ_str_non, isQ_str_bl, isQ_str_int, isQ_str_str, isQ_str_tup, isQ_str_l, isQ_str_k, isQ_tuple_non, isQ_tuple_bl, isQ_tuple_int, isQ_tuple_str, isQ_tuple_tup, isQ_tuple_l, isQ_tuple_k, isQ_list_non, isQ_list_bl, isQ_list_int, isQ_list_str, isQ_list_tup, isQ_list_l, isQ_list_k, isQ_dict_non, isQ_dict_bl, isQ_dict_int, isQ_dict_str, isQ_dict_tup, isQ_dict_l, isQ_dict_k,
  add_i, add_s, add_t, add_l, addO_l, sub_i, mul_i, mul_t, mul_l, mulO_l, lt_i, le_i, gt_i, ge_i, is_n, isnot_n, is_b, is_bf, isnot_b, isnot_bf, eq_i, eq_s, eq_b, eq_t, eq_l, eqO_l, eqO_ll, ne_i, ne_s, ne_b, ne_t, ne_l, neO_l, neO_ll, ix_t, ix_c, ix_r, ixO_l, ixO_k, ixO_lk, ixO_n, ixO_ln, in_t, in_r, nin_t, nin_r, inO_l, inO_k, inO_lk, inO_n, inO_ln, wkey_i, wkey_s, sl_t, sl_c, sl_r, slO_l, len_t, len_c, len_s, len_r, lenO_l, abs_i, max_i, min_i, int_i, int_b, tup_t, tup_r, tuO_l, lst_t, lst_c, lst_r, lsO_l, set_r, seO_l, seO_k, seO_n, app_r, apO_l, ext_r, exO_l, pop_z, pop_i, poZ_l, poO_l, neg_i,
  ↓s_dispK, dkS_i, dkS_s, dkF_r, iadd_i, iadd_s, r2I_i, wst1, wst2, wst3, wst4, wst5, obOf, isN, rdl_l, put_same, put_put, Option.isSome_some, true_and, and_true, decide_true, decide_false, Option.bind_some, atI_0, atI_1, atI_2, atI_3, atI_4, atI_m1, atI_m2, atI_m3, atI_m4, atI_m5, cut_1, List.map_cons, List.map_nil, List.cons_append, List.nil_append, List.getElem?_cons_zero, List.getElem?_cons_succ, List.length_cons, List.length_nil, List.length_map, List.isEmpty_cons, List.isEmpty_nil, List.set_cons_zero, List.set_cons_succ, List.replicate, Nat.reduceAdd, Nat.reduceSub, Nat.reduceLeDiff, Int.reduceNeg, le_line, lt_line, Bool.not_true, Bool.not_false])
local macro_rules | `(tactic| walk_at "pvh") => `(tactic| try simp only [↓s_seq, ↓s_next, ↓s_ret, ↓s_retN, ↓s_drop, ↓s_set, ↓s_ifS, ↓s_asg, ↓s_gname, ↓s_gnil, ↓s_gcons, ↓s_gtup, tg1_t, ↓s_gsub, ↓s_par, par2_e, ↓s_aug, ↓s_var, ov_some, ↓s_c, ↓s_op, ↓s_un, ↓s_B, ↓s_chain, ↓s_and, ↓s_or, ↓s_not, ↓s_andV, ↓s_orV, ↓s_notV, ↓s_if, ↓s_nil, ↓s_cons, ↓s_tup, ↓s_lst, ↓s_call, ↓s_fn, ↓s_isi, ↓s_mt, ↓s_mt0, ↓s_sl, ↓s_part, ↓s_nopart, ↓s_newK, ↓s_newN, ↓s_yes, wWipe, ↓s_for, ↓s_seqI, ↓s_rng1, ↓s_rng2, ↓s_lc,
  brn_t, brn_f, gt_some, onB_b, itS_tup, itS_cl, itS_ref, rgO_i, rgT_i, prt_i, mtS_r, mtZ_r,
  isQ_int_non, isQ_int_bl, isQ_int_int, isQ_int_str, isQ_int_tup, isQ_int_l, isQ_int_k, isQ_bool_non, isQ_bool_bl, isQ_bool_int, isQ_bool_str, isQ_bool_tup, isQ_bool_l, isQ_bool_k, isQ_str_non, isQ_str_bl, isQ_str_int, isQ_str_str, isQ_str_tup, isQ_str_l, isQ_str_k, isQ_tuple_non, isQ_tuple_bl, isQ_tuple_int, isQ_tuple_str, isQ_tuple_tup, isQ_tuple_l, isQ_tuple_k, isQ_list_non, isQ_list_bl, isQ_list_int, isQ_list_str, isQ_list_tup, isQ_list_l, isQ_list_k, isQ_dict_non, isQ_dict_bl, isQ_dict_int, isQ_dict_str, isQ_dict_tup, isQ_dict_l, isQ_dict_k,
  add_i, add_s, add_t, add_l, addO_l, sub_i, mul_i, mul_t, mul_l, mulO_l, lt_i, le_i, gt_i, ge_i, is_n, isnot_n, is_b, is_bf, isnot_b, isnot_bf, eq_i, eq_s, eq_b, eq_t, eq_l, eqO_l, eqO_ll, ne_i, ne_s, ne_b, ne_t, ne_l, neO_l, neO_ll, ix_t, ix_c, ix_r, ixO_l, ixO_k, ixO_lk, ixO_n, ixO_ln, in_t, in_r, nin_t, nin_r, inO_l, inO_k, inO_lk, inO_n, inO_ln, wkey_i, wkey_s, sl_t, sl_c, sl_r, slO_l, len_t, len_c, len_s, len_r, lenO_l, abs_i, max_i, min_i, int_i, int_b, tup_t, tup_r, tuO_l, lst_t, lst_c, lst_r, lsO_l, set_r, seO_l, seO_k, seO_n, app_r, apO_l, ext_r, exO_l, pop_z, pop_i, poZ_l, poO_l, neg_i,
  ↓s_dispK, dkS_i, dkS_s, dkF_r, iadd_i, iadd_s, r2I_i, wst1, wst2, wst3, wst4, wst5, obOf, isN, rdl_l, put_same, put_put, Option.isSome_some, true_and, and_true, decide_true, decide_false, Option.bind_some, atI_0, atI_1, atI_2, atI_3, atI_4, atI_m1, atI_m2, atI_m3, atI_m4, atI_m5, cut_1, List.map_cons, List.map_nil, List.cons_append, List.nil_append, List.getElem?_cons_zero, List.getElem?_cons_succ, List.length_cons, List.length_nil, List.length_map, List.isEmpty_cons, List.isEmpty_nil, List.set_cons_zero, List.set_cons_succ, List.replicate, Nat.reduceAdd, Nat.reduceSub, Nat.reduceLeDiff, Int.reduceNeg, le_line, lt_line, Bool.not_true, Bool.not_false, put_ne1, put_ne2, *])
/-! mutable things handed in -/
def del (M : Me) (a : Addr) : Me := fun b => if b = a then none else M b
theorem del_sub {M : Me} {a : Addr} : Sub (del M a) M := fun b o e => by
  unfold del at e
  split at e
  · cases e
  · exact e
theorem Kp.own {M : Me} {a : Addr} {o : Ob} (h : M a = some o) : Kp Option.none [(a, o)] (del M a) M := ⟨del_sub, by simp, fun x hx => by
  rw [List.mem_singleton.mp hx]
  exact ⟨Option.some_ne_none _, by unfold del; simp, h⟩⟩
theorem Kp.back {M M' : Me} {a : Addr} {o : Ob} {fs : List (Addr × Ob)} (k : Kp Option.none ((a, o) :: fs) (del M a) M') : Sub (put M a o) M' := fun b u e => by
  by_cases h : b = a
  · subst h
    rw [put_same] at e; cases e
    exact k.g0
  · rw [put_ne h] at e
    exact k.1 b u (by unfold del; rw [if_neg h]; exact e)
theorem sne1 {x y : Str} {P Q : Prop} {tg : Tg (P, Q)} (h : x ≠ y) (k : Q) : lz (brn (decide (x = y))) (P, Q) tg := by rw [decide_eq_false h]; exact k
theorem seq1 {x : Str} {P Q : Prop} {tg : Tg (P, Q)} (k : P) : lz (brn (decide (x = x))) (P, Q) tg := by rw [decide_eq_true rfl]; exact k
end PV
set_option maxHeartbeats 1000000
/-! guessers in plain Lean -/
namespace PV
open PySem PySem.Spec PyProof.Rows L2
inductive Gs where
  | same (w : Int)
  | table (n : Nat) (c : Cell)
  | mixed (n len : Nat) (c : Cell)
  | joined (n len : Nat) (c : Cell)
  | own (n len : Nat) (c : Cell)
  | either (a b : Gs) (n : Nat) (c : Cell)
def Gs.toW : Gs → W
  | .same w => .tup [.str "same", .int w]
  | .table n c => .tup [.str "table", .int n, cW c]
  | .mixed n len c => .tup [.str "mixed", .int n, .int len, cW c]
  | .joined n len c => .tup [.str "joined", .int n, .int len, cW c]
  | .own n len c => .tup [.str "own", .int n, .int len, cW c]
  | .either a b n c => .tup [.str "either", a.toW, b.toW, .int n, cW c]
def Gs.depth : Gs → Nat
  | .either a b _ _ => max a.depth b.depth + 1
  | _ => 0
/-- how many cells stand for itself -/
def Gs.cells : Gs → Nat
  | .same _ => 0
  | .table n _ => n
  | .mixed n _ _ => n
  | .joined n len _ => n * 2 ^ len
  | .own _ len _ => 2 ^ len
  | .either _ _ n _ => n
inductive St where
  | nil
  | row (st : List Int)
  | hist (h : Int) (st : List Int)
  | rows (r st : List Int)
  | two (s t : St) (st : List Int)
def St.toW : St → W
  | .nil => .tup []
  | .row st => iT st
  | .hist h st => .tup [.int h, iT st]
  | .rows r st => .tup [iT r, iT st]
  | .two s t st => .tup [s.toW, t.toW, iT st]
def inR (n k : Nat) (xs : List Int) : Prop := xs.length = n ∧ ∀ x ∈ xs, 0 ≤ x ∧ x < k
/-- sizes as the laws make them -/
def Gs.Ok : Gs → Prop
  | .same w => w = 0 ∨ w = 1
  | .table n c => 1 ≤ n ∧ n ≤ 16 ∧ ∃ k, k ≤ 8 ∧ CellOk k c
  | .mixed n len c => 1 ≤ n ∧ n ≤ 16 ∧ len ≤ 6 ∧ ∃ k, k ≤ 8 ∧ CellOk k c
  | .joined n len c => 1 ≤ n ∧ n ≤ 16 ∧ len ≤ 6 ∧ n * 2 ^ len ≤ 64 ∧ ∃ k, k ≤ 8 ∧ CellOk k c
  | .own n len c => 1 ≤ n ∧ n ≤ 16 ∧ len ≤ 6 ∧ ∃ k, k ≤ 8 ∧ CellOk k c
  | .either a b n c => a.Ok ∧ b.Ok ∧ 1 ≤ n ∧ n ≤ 16 ∧ ∃ k, k ≤ 8 ∧ CellOk k c
/-- a state of a guesser -/
def StOf : Gs → St → Prop
  | .same _, .nil => True
  | .table n c, .row st => inR n c.1.length st
  | .mixed n len c, .hist h st => (0 ≤ h ∧ h < 2 ^ len) ∧ inR n c.1.length st
  | .joined n len c, .hist h st => (0 ≤ h ∧ h < 2 ^ len) ∧ inR (n * 2 ^ len) c.1.length st
  | .own n len c, .rows r st => inR n (2 ^ len) r ∧ inR (2 ^ len) c.1.length st
  | .either a b n c, .two s t st => StOf a s ∧ StOf b t ∧ inR n c.1.length st
  | _, _ => False
def zeros (n : Nat) : List Int := List.replicate n 0
def firstG : Gs → St
  | .same _ => .nil
  | .table n _ => .row (zeros n)
  | .mixed n _ _ => .hist 0 (zeros n)
  | .joined n len _ => .hist 0 (zeros (n * 2 ^ len))
  | .own n len _ => .rows (zeros n) (zeros (2 ^ len))
  | .either a b n _ => .two (firstG a) (firstG b) (zeros n)
/-- which cell is asked -/
def spotG : Gs → St → Int → Int
  | .table n _, _, p => p % n
  | .mixed n _ _, .hist h _, p => (p + h) % n
  | .joined n len _, .hist h _, p => p % n * 2 ^ len + h
  | .own n _ _, .rows r _, p => ga r (p % n)
  | .either _ _ n _, _, p => p % n
  | _, _, _ => 0
def cellsG : St → List Int
  | .nil => []
  | .row st => st
  | .hist _ st => st
  | .rows _ st => st
  | .two _ _ st => st
def Gs.cell : Gs → Cell
  | .same _ => ([], [], [])
  | .table _ c => c
  | .mixed _ _ c => c
  | .joined _ _ c => c
  | .own _ _ c => c
  | .either _ _ _ c => c
/-- what the asked cell says -/
def toldG (g : Gs) (s : St) (p : Int) : Int := ga g.cell.1 (ga (cellsG s) (spotG g s p))
def guessG : Gs → St → Int → Int
  | .same w, _, _ => w
  | .either a b n c, .two s t st, p => if toldG (.either a b n c) (.two s t st) p = 0 then guessG a s p else guessG b t p
  | g, s, p => toldG g s p
/-- the cells behind a way -/
def behindG (g : Gs) (s : St) (p way : Int) : List Int := (cellsG s).set (spotG g s p).toNat (nextC g.cell (ga (cellsG s) (spotG g s p)) way)
def moreG (h : Int) (len : Nat) (way : Int) : Int := (2 * h + way) % 2 ^ len
def learnG : Gs → St → Int → Int → St
  | .same _, s, _, _ => s
  | .table n c, s, p, way => .row (behindG (.table n c) s p way)
  | .mixed n len c, .hist h st, p, way => .hist (moreG h len way) (behindG (.mixed n len c) (.hist h st) p way)
  | .joined n len c, .hist h st, p, way => .hist (moreG h len way) (behindG (.joined n len c) (.hist h st) p way)
  | .own n len c, .rows r st, p, way => .rows (r.set (p % n).toNat (moreG (ga r (p % n)) len way)) (behindG (.own n len c) (.rows r st) p way)
  | .either a b n c, .two s t st, p, way => .two (learnG a s p way) (learnG b t p way)
      (if decide (guessG a s p = way) = decide (guessG b t p = way) then st else behindG (.either a b n c) (.two s t st) p (b2i (decide (guessG b t p = way))))
  | _, s, _, _ => s
end PV
set_option maxHeartbeats 4000000
namespace PV
open PySem PySem.Spec PyProof.Rows L2
local macro_rules | `(tactic| walk_at "pv") => `(tactic| try simp only [↓s_seq, ↓s_next, ↓s_ret, ↓s_retN, ↓s_drop, ↓s_set, ↓s_ifS, ↓s_asg, ↓s_gname, ↓s_gnil, ↓s_gcons, ↓s_gtup, tg1_t, ↓s_gsub, ↓s_par, par2_e, ↓s_aug, ↓s_var, ov_some, ↓s_c, ↓s_op, ↓s_un, ↓s_B, ↓s_chain, ↓s_and, ↓s_or, ↓s_not, ↓s_andV, ↓s_orV, ↓s_notV, ↓s_if, ↓s_nil, ↓s_cons, ↓s_tup, ↓s_lst, ↓s_call, ↓s_fn, ↓s_isi, ↓s_mt, ↓s_mt0, ↓s_sl, ↓s_part, ↓s_nopart, ↓s_newK, ↓s_newN, ↓s_yes, wWipe, ↓s_for, ↓s_seqI, ↓s_rng1, ↓s_rng2, ↓s_lc,
  brn_t, brn_f, gt_some, onB_b, itS_tup, itS_cl, itS_ref, rgO_i, rgT_i, prt_i, mtS_r, mtZ_r,
  isQ_int_non, isQ_int_bl, isQ_int_int, isQ_int_str, isQ_int_tup, isQ_int_l, isQ_int_k, isQ_bool_non, isQ_bool_bl, isQ_bool_int, isQ_bool_str, isQ_bool_tup, isQ_bool_l, isQ_bool_k, isQ_str_non, isQ_str_bl, isQ_str_int, isQ_str_str, isQ_str_tup, isQ_str_l, isQ_str_k, isQ_tuple_non, isQ_tuple_bl, isQ_tuple_int, isQ_tuple_str, isQ_tuple_tup, isQ_tuple_l, isQ_tuple_k, isQ_list_non, isQ_list_bl, isQ_list_int, isQ_list_str, isQ_list_tup, isQ_list_l, isQ_list_k, isQ_dict_non, isQ_dict_bl, isQ_dict_int, isQ_dict_str, isQ_dict_tup, isQ_dict_l, isQ_dict_k,
  add_i, add_s, add_t, add_l, addO_l, sub_i, mul_i, mul_t, mul_l, mulO_l, lt_i, le_i, gt_i, ge_i, is_n, isnot_n, is_b, is_bf, isnot_b, isnot_bf, eq_i, eq_s, eq_b, eq_t, eq_l, eqO_l, eqO_ll, ne_i, ne_s, ne_b, ne_t, ne_l, neO_l, neO_ll, ix_t, ix_c, ix_r, ixO_l, ixO_k, ixO_lk, ixO_n, ixO_ln, in_t, in_r, nin_t, nin_r, inO_l, inO_k, inO_lk, inO_n, inO_ln, wkey_i, wkey_s, sl_t, sl_c, sl_r, slO_l, len_t, len_c, len_s, len_r, lenO_l, abs_i, max_i, min_i, int_i, int_b, tup_t, tup_r, tuO_l, lst_t, lst_c, lst_r, lsO_l, set_r, seO_l, seO_k, seO_n, app_r, apO_l, ext_r, exO_l, pop_z, pop_i, poZ_l, poO_l, neg_i,
  ↓s_dispK, dkS_i, dkS_s, dkF_r, iadd_i, iadd_s, r2I_i, wst1, wst2, wst3, wst4, wst5, obOf, isN, rdl_l, put_same, put_put, Option.isSome_some, true_and, and_true, decide_true, decide_false, Option.bind_some, atI_0, atI_1, atI_2, atI_3, atI_4, atI_m1, atI_m2, atI_m3, atI_m4, atI_m5, cut_1, List.map_cons, List.map_nil, List.cons_append, List.nil_append, List.getElem?_cons_zero, List.getElem?_cons_succ, List.length_cons, List.length_nil, List.length_map, List.isEmpty_cons, List.isEmpty_nil, List.set_cons_zero, List.set_cons_succ, List.replicate, Nat.reduceAdd, Nat.reduceSub, Nat.reduceLeDiff, Int.reduceNeg, le_line, lt_line, Bool.not_true, Bool.not_false])
local macro_rules | `(tactic| walk_at "pvh") => `(tactic| try simp only [↓s_seq, ↓s_next, ↓s_ret, ↓s_retN, ↓s_drop, ↓s_set, ↓s_ifS, ↓s_asg, ↓s_gname, ↓s_gnil, ↓s_gcons, ↓s_gtup, tg1_t, ↓s_gsub, ↓s_par, par2_e, ↓s_aug, ↓s_var, ov_some, ↓s_c, ↓s_op, ↓s_un, ↓s_B, ↓s_chain, ↓s_and, ↓s_or, ↓s_not, ↓s_andV, ↓s_orV, ↓s_notV, ↓s_if, ↓s_nil, ↓s_cons, ↓s_tup, ↓s_lst, ↓s_call, ↓s_fn, ↓s_isi, ↓s_mt, ↓s_mt0, ↓s_sl, ↓s_part, ↓s_nopart, ↓s_newK, ↓s_newN, ↓s_yes, wWipe, ↓s_for, ↓s_seqI, ↓s_rng1, ↓s_rng2, ↓s_lc,
  brn_t, brn_f, gt_some, onB_b, itS_tup, itS_cl, itS_ref, rgO_i, rgT_i, prt_i, mtS_r, mtZ_r,
  isQ_int_non, isQ_int_bl, isQ_int_int, isQ_int_str, isQ_int_tup, isQ_int_l, isQ_int_k, isQ_bool_non, isQ_bool_bl, isQ_bool_int, isQ_bool_str, isQ_bool_tup, isQ_bool_l, isQ_bool_k, isQ_str_non, isQ_str_bl, isQ_str_int, isQ_str_str, isQ_str_tup, isQ_str_l, isQ_str_k, isQ_tuple_non, isQ_tuple_bl, isQ_tuple_int, isQ_tuple_str, isQ_tuple_tup, isQ_tuple_l, isQ_tuple_k, isQ_list_non, isQ_list_bl, isQ_list_int, isQ_list_str, isQ_list_tup, isQ_list_l, isQ_list_k, isQ_dict_non, isQ_dict_bl, isQ_dict_int, isQ_dict_str, isQ_dict_tup, isQ_dict_l, isQ_dict_k,
  add_i, add_s, add_t, add_l, addO_l, sub_i, mul_i, mul_t, mul_l, mulO_l, lt_i, le_i, gt_i, ge_i, is_n, isnot_n, is_b, is_bf, isnot_b, isnot_bf, eq_i, eq_s, eq_b, eq_t, eq_l, eqO_l, eqO_ll, ne_i, ne_s, ne_b, ne_t, ne_l, neO_l, neO_ll, ix_t, ix_c, ix_r, ixO_l, ixO_k, ixO_lk, ixO_n, ixO_ln, in_t, in_r, nin_t, nin_r, inO_l, inO_k, inO_lk, inO_n, inO_ln, wkey_i, wkey_s, sl_t, sl_c, sl_r, slO_l, len_t, len_c, len_s, len_r, lenO_l, abs_i, max_i, min_i, int_i, int_b, tup_t, tup_r, tuO_l, lst_t, lst_c, lst_r, lsO_l, set_r, seO_l, seO_k, seO_n, app_r, apO_l, ext_r, exO_l, pop_z, pop_i, poZ_l, poO_l, neg_i,
  ↓s_dispK, dkS_i, dkS_s, dkF_r, iadd_i, iadd_s, r2I_i, wst1, wst2, wst3, wst4, wst5, obOf, isN, rdl_l, put_same, put_put, Option.isSome_some, true_and, and_true, decide_true, decide_false, Option.bind_some, atI_0, atI_1, atI_2, atI_3, atI_4, atI_m1, atI_m2, atI_m3, atI_m4, atI_m5, cut_1, List.map_cons, List.map_nil, List.cons_append, List.nil_append, List.getElem?_cons_zero, List.getElem?_cons_succ, List.length_cons, List.length_nil, List.length_map, List.isEmpty_cons, List.isEmpty_nil, List.set_cons_zero, List.set_cons_succ, List.replicate, Nat.reduceAdd, Nat.reduceSub, Nat.reduceLeDiff, Int.reduceNeg, le_line, lt_line, Bool.not_true, Bool.not_false, put_ne1, put_ne2, *])
def sp_cells_in : PSp := fun ws M Q _ => match ws with
  | [gw, sw] => ∃ (g : Gs) (s : St), gw = g.toW ∧ sw = s.toW ∧ StOf g s ∧ (∀ w, g ≠ .same w) ∧ Q (iT (cellsG s)) M
  | _ => False
theorem rd_cells_in (ws M Q E) (h : sp_cells_in ws M Q E) : t_p_cells_in (wEnd Q) (wStart ["guesser", "state"] ws) M := by
  unfold sp_cells_in at h
  split at h
  · obtain ⟨g, s, rfl, rfl, ok, ns, q⟩ := h
    rw [wst2]
    unfold t_p_cells_in
    cases g with
    | same w => exact absurd rfl (ns w)
    | table n c =>
      cases s with
      | row st =>
        unfold Gs.toW St.toW
        walk_at "pv"
        exact ⟨_, Sub.refl _, q⟩
      | _ => exact ok.elim
    | mixed n len c =>
      cases s with
      | hist h st =>
        unfold Gs.toW St.toW
        walk_at "pv"
        refine sne1 (by decide) ?_
        walk_at "pv"
        exact ⟨_, Sub.refl _, q⟩
      | _ => exact ok.elim
    | joined n len c =>
      cases s with
      | hist h st =>
        unfold Gs.toW St.toW
        walk_at "pv"
        refine sne1 (by decide) ?_
        walk_at "pv"
        exact ⟨_, Sub.refl _, q⟩
      | _ => exact ok.elim
    | own n len c =>
      cases s with
      | rows r st =>
        unfold Gs.toW St.toW
        walk_at "pv"
        refine sne1 (by decide) ?_
        walk_at "pv"
        exact ⟨_, Sub.refl _, q⟩
      | _ => exact ok.elim
    | either a b n c =>
      cases s with
      | two s t st =>
        unfold Gs.toW St.toW
        walk_at "pv"
        refine sne1 (by decide) ?_
        walk_at "pv"
        exact ⟨_, Sub.refl _, q⟩
      | _ => exact ok.elim
  · exact h.elim
end PV
set_option maxHeartbeats 4000000
namespace PV
open PySem PySem.Spec PyProof.Rows L2
local macro_rules | `(tactic| walk_at "pv") => `(tactic| try simp only [↓s_seq, ↓s_next, ↓s_ret, ↓s_retN, ↓s_drop, ↓s_set, ↓s_ifS, ↓s_asg, ↓s_gname, ↓s_gnil, ↓s_gcons, ↓s_gtup, tg1_t, ↓s_gsub, ↓s_par, par2_e, ↓s_aug, ↓s_var, ov_some, ↓s_c, ↓s_op, ↓s_un, ↓s_B, ↓s_chain, ↓s_and, ↓s_or, ↓s_not, ↓s_andV, ↓s_orV, ↓s_notV, ↓s_if, ↓s_nil, ↓s_cons, ↓s_tup, ↓s_lst, ↓s_call, ↓s_fn, ↓s_isi, ↓s_mt, ↓s_mt0, ↓s_sl, ↓s_part, ↓s_nopart, ↓s_newK, ↓s_newN, ↓s_yes, wWipe, ↓s_for, ↓s_seqI, ↓s_rng1, ↓s_rng2, ↓s_lc,
  brn_t, brn_f, gt_some, onB_b, itS_tup, itS_cl, itS_ref, rgO_i, rgT_i, prt_i, mtS_r, mtZ_r,
  isQ_int_non, isQ_int_bl, isQ_int_int, isQ_int_str, isQ_int_tup, isQ_int_l, isQ_int_k, isQ_bool_non, isQ_bool_bl, isQ_bool_int, isQ_bool_str, isQ_bool_tup, isQ_bool_l, isQ_bool_k, isQ_str_non, isQ_str_bl, isQ_str_int, isQ_str_str, isQ_str_tup, isQ_str_l, isQ_str_k, isQ_tuple_non, isQ_tuple_bl, isQ_tuple_int, isQ_tuple_str, isQ_tuple_tup, isQ_tuple_l, isQ_tuple_k, isQ_list_non, isQ_list_bl, isQ_list_int, isQ_list_str, isQ_list_tup, isQ_list_l, isQ_list_k, isQ_dict_non, isQ_dict_bl, isQ_dict_int, isQ_dict_str, isQ_dict_tup, isQ_dict_l, isQ_dict_k,
  add_i, add_s, add_t, add_l, addO_l, sub_i, mul_i, mul_t, mul_l, mulO_l, lt_i, le_i, gt_i, ge_i, is_n, isnot_n, is_b, is_bf, isnot_b, isnot_bf, eq_i, eq_s, eq_b, eq_t, eq_l, eqO_l, eqO_ll, ne_i, ne_s, ne_b, ne_t, ne_l, neO_l, neO_ll, ix_t, ix_c, ix_r, ixO_l, ixO_k, ixO_lk, ixO_n, ixO_ln, in_t, in_r, nin_t, nin_r, inO_l, inO_k, inO_lk, inO_n, inO_ln, wkey_i, wkey_s, sl_t, sl_c, sl_r, slO_l, len_t, len_c, len_s, len_r, lenO_l, abs_i, max_i, min_i, int_i, int_b, tup_t, tup_r, tuO_l, lst_t, lst_c, lst_r, lsO_l, set_r, seO_l, seO_k, seO_n, app_r, apO_l, ext_r, exO_l, pop_z, pop_i, poZ_l, poO_l, neg_i,
  ↓s_dispK, dkS_i, dkS_s, dkF_r, iadd_i, iadd_s, r2I_i, wst1, wst2, wst3, wst4, wst5, obOf, isN, rdl_l, put_same, put_put, Option.isSome_some, true_and, and_true, decide_true, decide_false, Option.bind_some, atI_0, atI_1, atI_2, atI_3, atI_4, atI_m1, atI_m2, atI_m3, atI_m4, atI_m5, cut_1, List.map_cons, List.map_nil, List.cons_append, List.nil_append, List.getElem?_cons_zero, List.getElem?_cons_succ, List.length_cons, List.length_nil, List.length_map, List.isEmpty_cons, List.isEmpty_nil, List.set_cons_zero, List.set_cons_succ, List.replicate, Nat.reduceAdd, Nat.reduceSub, Nat.reduceLeDiff, Int.reduceNeg, le_line, lt_line, Bool.not_true, Bool.not_false])
local macro_rules | `(tactic| walk_at "pvh") => `(tactic| try simp only [↓s_seq, ↓s_next, ↓s_ret, ↓s_retN, ↓s_drop, ↓s_set, ↓s_ifS, ↓s_asg, ↓s_gname, ↓s_gnil, ↓s_gcons, ↓s_gtup, tg1_t, ↓s_gsub, ↓s_par, par2_e, ↓s_aug, ↓s_var, ov_some, ↓s_c, ↓s_op, ↓s_un, ↓s_B, ↓s_chain, ↓s_and, ↓s_or, ↓s_not, ↓s_andV, ↓s_orV, ↓s_notV, ↓s_if, ↓s_nil, ↓s_cons, ↓s_tup, ↓s_lst, ↓s_call, ↓s_fn, ↓s_isi, ↓s_mt, ↓s_mt0, ↓s_sl, ↓s_part, ↓s_nopart, ↓s_newK, ↓s_newN, ↓s_yes, wWipe, ↓s_for, ↓s_seqI, ↓s_rng1, ↓s_rng2, ↓s_lc,
  brn_t, brn_f, gt_some, onB_b, itS_tup, itS_cl, itS_ref, rgO_i, rgT_i, prt_i, mtS_r, mtZ_r,
  isQ_int_non, isQ_int_bl, isQ_int_int, isQ_int_str, isQ_int_tup, isQ_int_l, isQ_int_k, isQ_bool_non, isQ_bool_bl, isQ_bool_int, isQ_bool_str, isQ_bool_tup, isQ_bool_l, isQ_bool_k, isQ_str_non, isQ_str_bl, isQ_str_int, isQ_str_str, isQ_str_tup, isQ_str_l, isQ_str_k, isQ_tuple_non, isQ_tuple_bl, isQ_tuple_int, isQ_tuple_str, isQ_tuple_tup, isQ_tuple_l, isQ_tuple_k, isQ_list_non, isQ_list_bl, isQ_list_int, isQ_list_str, isQ_list_tup, isQ_list_l, isQ_list_k, isQ_dict_non, isQ_dict_bl, isQ_dict_int, isQ_dict_str, isQ_dict_tup, isQ_dict_l, isQ_dict_k,
  add_i, add_s, add_t, add_l, addO_l, sub_i, mul_i, mul_t, mul_l, mulO_l, lt_i, le_i, gt_i, ge_i, is_n, isnot_n, is_b, is_bf, isnot_b, isnot_bf, eq_i, eq_s, eq_b, eq_t, eq_l, eqO_l, eqO_ll, ne_i, ne_s, ne_b, ne_t, ne_l, neO_l, neO_ll, ix_t, ix_c, ix_r, ixO_l, ixO_k, ixO_lk, ixO_n, ixO_ln, in_t, in_r, nin_t, nin_r, inO_l, inO_k, inO_lk, inO_n, inO_ln, wkey_i, wkey_s, sl_t, sl_c, sl_r, slO_l, len_t, len_c, len_s, len_r, lenO_l, abs_i, max_i, min_i, int_i, int_b, tup_t, tup_r, tuO_l, lst_t, lst_c, lst_r, lsO_l, set_r, seO_l, seO_k, seO_n, app_r, apO_l, ext_r, exO_l, pop_z, pop_i, poZ_l, poO_l, neg_i,
  ↓s_dispK, dkS_i, dkS_s, dkF_r, iadd_i, iadd_s, r2I_i, wst1, wst2, wst3, wst4, wst5, obOf, isN, rdl_l, put_same, put_put, Option.isSome_some, true_and, and_true, decide_true, decide_false, Option.bind_some, atI_0, atI_1, atI_2, atI_3, atI_4, atI_m1, atI_m2, atI_m3, atI_m4, atI_m5, cut_1, List.map_cons, List.map_nil, List.cons_append, List.nil_append, List.getElem?_cons_zero, List.getElem?_cons_succ, List.length_cons, List.length_nil, List.length_map, List.isEmpty_cons, List.isEmpty_nil, List.set_cons_zero, List.set_cons_succ, List.replicate, Nat.reduceAdd, Nat.reduceSub, Nat.reduceLeDiff, Int.reduceNeg, le_line, lt_line, Bool.not_true, Bool.not_false, put_ne1, put_ne2, *])
def sp_cell_place : PSp := fun ws M Q _ => match ws with
  | [gw, sw, .int p] => ∃ (g : Gs) (s : St), gw = g.toW ∧ sw = s.toW ∧ g.Ok ∧ StOf g s ∧ (∀ w, g ≠ .same w) ∧ Q (.int (spotG g s p)) M
  | _ => False
theorem rd_cell_place (ws M Q E) (h : sp_cell_place ws M Q E) : t_p_cell_place (wEnd Q) (wStart ["guesser", "state", "place"] ws) M := by
  unfold sp_cell_place at h
  split at h
  · rename_i gw sw p
    obtain ⟨g, s, rfl, rfl, gok, ok, ns, q⟩ := h
    rw [wst3]
    unfold t_p_cell_place
    cases g with
    | same w => exact absurd rfl (ns w)
    | table n c =>
      cases s with
      | row st =>
        have h1 := gok.1
        unfold Gs.toW St.toW
        walk_at "pv"
        exact mod_go (by omega) ⟨_, Sub.refl _, q⟩
      | _ => exact ok.elim
    | mixed n len c =>
      cases s with
      | hist h st =>
        have h1 := gok.1
        unfold Gs.toW St.toW
        walk_at "pv"
        refine sne1 (by decide) ?_
        walk_at "pv"
        exact mod_go (by omega) ⟨_, Sub.refl _, q⟩
      | _ => exact ok.elim
    | joined n len c =>
      cases s with
      | hist h st =>
        have h1 := gok.1
        have h2 := gok.2.1
        have h3 := gok.2.2.1
        unfold Gs.toW St.toW
        walk_at "pv"
        refine sne1 (by decide) ?_
        walk_at "pv"
        refine sne1 (by decide) ?_
        walk_at "pv"
        refine mod_go (by omega) ?_
        walk_at "pv"
        have b0 := Int.emod_nonneg p (b := (n : Int)) (by omega)
        have b1 := Int.emod_lt_of_pos p (b := (n : Int)) (by omega)
        refine shl_go ⟨by omega, by omega, by omega⟩ ?_
        walk_at "pv"
        rw [Int.toNat_natCast]
        exact ⟨_, Sub.refl _, q⟩
      | _ => exact ok.elim
    | own n len c =>
      cases s with
      | rows r st =>
        have h1 := gok.1
        have hr := ok.1
        unfold Gs.toW St.toW
        walk_at "pv"
        refine sne1 (by decide) ?_
        walk_at "pv"
        refine sne1 (by decide) ?_
        walk_at "pv"
        refine sne1 (by decide) ?_
        walk_at "pv"
        refine mod_go (by omega) ?_
        walk_at "pv"
        have b0 := Int.emod_nonneg p (b := (n : Int)) (by omega)
        have b1 := Int.emod_lt_of_pos p (b := (n : Int)) (by omega)
        refine gt_of (at_ga b0 (by rw [hr.1]; exact b1)) ?_
        exact ⟨_, Sub.refl _, q⟩
      | _ => exact ok.elim
    | either a b n c =>
      cases s with
      | two s t st =>
        have h1 := gok.2.2.1
        unfold Gs.toW St.toW
        walk_at "pv"
        refine sne1 (by decide) ?_
        walk_at "pv"
        refine sne1 (by decide) ?_
        walk_at "pv"
        refine sne1 (by decide) ?_
        walk_at "pv"
        refine sne1 (by decide) ?_
        walk_at "pv"
        exact mod_go (by omega) ⟨_, Sub.refl _, q⟩
      | _ => exact ok.elim
  · exact h.elim
end PV
set_option maxHeartbeats 4000000
namespace PV
open PySem PySem.Spec PyProof.Rows L2
theorem Gs.cellOk {g : Gs} (h : g.Ok) (ns : ∀ w, g ≠ .same w) : ∃ k, k ≤ 8 ∧ CellOk k g.cell := by
  cases g with
  | same w => exact absurd rfl (ns w)
  | table n c => exact h.2.2
  | mixed n len c => exact h.2.2.2
  | joined n len c => exact h.2.2.2.2
  | own n len c => exact h.2.2.2
  | either a b n c => exact h.2.2.2.2
theorem cells_ok {g : Gs} {s : St} (ok : StOf g s) (ns : ∀ w, g ≠ .same w) : ∀ x ∈ cellsG s, 0 ≤ x ∧ x < g.cell.1.length := by
  cases g <;> cases s <;> first | exact ok.elim | exact absurd rfl (ns _) | exact ok.2 | exact ok.2.2 | exact ok.2.2.2
theorem spot_ok {g : Gs} {s : St} {p : Int} (h : g.Ok) (ok : StOf g s) (ns : ∀ w, g ≠ .same w) : 0 ≤ spotG g s p ∧ spotG g s p < (cellsG s).length := by
  have md : ∀ n : Nat, 1 ≤ n → ∀ x : Int, 0 ≤ x % n ∧ x % n < n := fun n hn x => ⟨Int.emod_nonneg _ (by omega), Int.emod_lt_of_pos _ (by omega)⟩
  cases g with
  | same w => exact absurd rfl (ns w)
  | table n c =>
    cases s with
    | row st => have := md n h.1 p; have l := ok.1; exact ⟨this.1, by show p % n < (st.length : Int); rw [l]; exact this.2⟩
    | _ => exact ok.elim
  | mixed n len c =>
    cases s with
    | hist hh st => have := md n h.1 (p + hh); have l := ok.2.1; exact ⟨this.1, by show (p + hh) % n < (st.length : Int); rw [l]; exact this.2⟩
    | _ => exact ok.elim
  | joined n len c =>
    cases s with
    | hist hh st =>
      have m := md n h.1 p
      have l := ok.2.1
      have b := ok.1
      have p2 : (0 : Int) < 2 ^ len := Int.pow_pos (by decide)
      have e0 : 0 ≤ p % n * 2 ^ len := Int.mul_nonneg m.1 (by omega)
      have e1 : (p % n + 1) * 2 ^ len ≤ (n : Int) * 2 ^ len := Int.mul_le_mul_of_nonneg_right (by omega) (by omega)
      rw [Int.add_mul, Int.one_mul] at e1
      have e2 : ((n * 2 ^ len : Nat) : Int) = (n : Int) * 2 ^ len := by rw [Int.natCast_mul, Int.natCast_pow]; rfl
      exact ⟨by show 0 ≤ p % n * 2 ^ len + hh; omega, by show p % n * 2 ^ len + hh < (st.length : Int); rw [l, e2]; omega⟩
    | _ => exact ok.elim
  | own n len c =>
    cases s with
    | rows r st =>
      have m := md n h.1 p
      have hr := ok.1
      have l := ok.2.1
      have := hr.2 _ (ga_mem m.1 (by rw [hr.1]; exact m.2))
      exact ⟨this.1, by show ga r (p % n) < (st.length : Int); rw [l]; exact this.2⟩
    | _ => exact ok.elim
  | either a b n c =>
    cases s with
    | two s t st => have := md n h.2.2.1 p; have l := ok.2.2.1; exact ⟨this.1, by show p % n < (st.length : Int); rw [l]; exact this.2⟩
    | _ => exact ok.elim
theorem told_ok {g : Gs} {s : St} {p : Int} (h : g.Ok) (ok : StOf g s) (ns : ∀ w, g ≠ .same w) : 0 ≤ toldG g s p ∧ toldG g s p < 2 := by
  obtain ⟨k, _, hc⟩ := Gs.cellOk h ns
  have sp := spot_ok (p := p) h ok ns
  have cl := cells_ok ok ns _ (ga_mem sp.1 sp.2)
  exact hc.g _ (ga_mem cl.1 cl.2)
end PV
set_option maxHeartbeats 4000000
namespace PV
open PySem PySem.Spec PyProof.Rows L2
local macro_rules | `(tactic| walk_at "pv") => `(tactic| try simp only [↓s_seq, ↓s_next, ↓s_ret, ↓s_retN, ↓s_drop, ↓s_set, ↓s_ifS, ↓s_asg, ↓s_gname, ↓s_gnil, ↓s_gcons, ↓s_gtup, tg1_t, ↓s_gsub, ↓s_par, par2_e, ↓s_aug, ↓s_var, ov_some, ↓s_c, ↓s_op, ↓s_un, ↓s_B, ↓s_chain, ↓s_and, ↓s_or, ↓s_not, ↓s_andV, ↓s_orV, ↓s_notV, ↓s_if, ↓s_nil, ↓s_cons, ↓s_tup, ↓s_lst, ↓s_call, ↓s_fn, ↓s_isi, ↓s_mt, ↓s_mt0, ↓s_sl, ↓s_part, ↓s_nopart, ↓s_newK, ↓s_newN, ↓s_yes, wWipe, ↓s_for, ↓s_seqI, ↓s_rng1, ↓s_rng2, ↓s_lc,
  brn_t, brn_f, gt_some, onB_b, itS_tup, itS_cl, itS_ref, rgO_i, rgT_i, prt_i, mtS_r, mtZ_r,
  isQ_int_non, isQ_int_bl, isQ_int_int, isQ_int_str, isQ_int_tup, isQ_int_l, isQ_int_k, isQ_bool_non, isQ_bool_bl, isQ_bool_int, isQ_bool_str, isQ_bool_tup, isQ_bool_l, isQ_bool_k, isQ_str_non, isQ_str_bl, isQ_str_int, isQ_str_str, isQ_str_tup, isQ_str_l, isQ_str_k, isQ_tuple_non, isQ_tuple_bl, isQ_tuple_int, isQ_tuple_str, isQ_tuple_tup, isQ_tuple_l, isQ_tuple_k, isQ_list_non, isQ_list_bl, isQ_list_int, isQ_list_str, isQ_list_tup, isQ_list_l, isQ_list_k, isQ_dict_non, isQ_dict_bl, isQ_dict_int, isQ_dict_str, isQ_dict_tup, isQ_dict_l, isQ_dict_k,
  add_i, add_s, add_t, add_l, addO_l, sub_i, mul_i, mul_t, mul_l, mulO_l, lt_i, le_i, gt_i, ge_i, is_n, isnot_n, is_b, is_bf, isnot_b, isnot_bf, eq_i, eq_s, eq_b, eq_t, eq_l, eqO_l, eqO_ll, ne_i, ne_s, ne_b, ne_t, ne_l, neO_l, neO_ll, ix_t, ix_c, ix_r, ixO_l, ixO_k, ixO_lk, ixO_n, ixO_ln, in_t, in_r, nin_t, nin_r, inO_l, inO_k, inO_lk, inO_n, inO_ln, wkey_i, wkey_s, sl_t, sl_c, sl_r, slO_l, len_t, len_c, len_s, len_r, lenO_l, abs_i, max_i, min_i, int_i, int_b, tup_t, tup_r, tuO_l, lst_t, lst_c, lst_r, lsO_l, set_r, seO_l, seO_k, seO_n, app_r, apO_l, ext_r, exO_l, pop_z, pop_i, poZ_l, poO_l, neg_i,
  ↓s_dispK, dkS_i, dkS_s, dkF_r, iadd_i, iadd_s, r2I_i, wst1, wst2, wst3, wst4, wst5, obOf, isN, rdl_l, put_same, put_put, Option.isSome_some, true_and, and_true, decide_true, decide_false, Option.bind_some, atI_0, atI_1, atI_2, atI_3, atI_4, atI_m1, atI_m2, atI_m3, atI_m4, atI_m5, cut_1, List.map_cons, List.map_nil, List.cons_append, List.nil_append, List.getElem?_cons_zero, List.getElem?_cons_succ, List.length_cons, List.length_nil, List.length_map, List.isEmpty_cons, List.isEmpty_nil, List.set_cons_zero, List.set_cons_succ, List.replicate, Nat.reduceAdd, Nat.reduceSub, Nat.reduceLeDiff, Int.reduceNeg, le_line, lt_line, Bool.not_true, Bool.not_false])
local macro_rules | `(tactic| walk_at "pvh") => `(tactic| try simp only [↓s_seq, ↓s_next, ↓s_ret, ↓s_retN, ↓s_drop, ↓s_set, ↓s_ifS, ↓s_asg, ↓s_gname, ↓s_gnil, ↓s_gcons, ↓s_gtup, tg1_t, ↓s_gsub, ↓s_par, par2_e, ↓s_aug, ↓s_var, ov_some, ↓s_c, ↓s_op, ↓s_un, ↓s_B, ↓s_chain, ↓s_and, ↓s_or, ↓s_not, ↓s_andV, ↓s_orV, ↓s_notV, ↓s_if, ↓s_nil, ↓s_cons, ↓s_tup, ↓s_lst, ↓s_call, ↓s_fn, ↓s_isi, ↓s_mt, ↓s_mt0, ↓s_sl, ↓s_part, ↓s_nopart, ↓s_newK, ↓s_newN, ↓s_yes, wWipe, ↓s_for, ↓s_seqI, ↓s_rng1, ↓s_rng2, ↓s_lc,
  brn_t, brn_f, gt_some, onB_b, itS_tup, itS_cl, itS_ref, rgO_i, rgT_i, prt_i, mtS_r, mtZ_r,
  isQ_int_non, isQ_int_bl, isQ_int_int, isQ_int_str, isQ_int_tup, isQ_int_l, isQ_int_k, isQ_bool_non, isQ_bool_bl, isQ_bool_int, isQ_bool_str, isQ_bool_tup, isQ_bool_l, isQ_bool_k, isQ_str_non, isQ_str_bl, isQ_str_int, isQ_str_str, isQ_str_tup, isQ_str_l, isQ_str_k, isQ_tuple_non, isQ_tuple_bl, isQ_tuple_int, isQ_tuple_str, isQ_tuple_tup, isQ_tuple_l, isQ_tuple_k, isQ_list_non, isQ_list_bl, isQ_list_int, isQ_list_str, isQ_list_tup, isQ_list_l, isQ_list_k, isQ_dict_non, isQ_dict_bl, isQ_dict_int, isQ_dict_str, isQ_dict_tup, isQ_dict_l, isQ_dict_k,
  add_i, add_s, add_t, add_l, addO_l, sub_i, mul_i, mul_t, mul_l, mulO_l, lt_i, le_i, gt_i, ge_i, is_n, isnot_n, is_b, is_bf, isnot_b, isnot_bf, eq_i, eq_s, eq_b, eq_t, eq_l, eqO_l, eqO_ll, ne_i, ne_s, ne_b, ne_t, ne_l, neO_l, neO_ll, ix_t, ix_c, ix_r, ixO_l, ixO_k, ixO_lk, ixO_n, ixO_ln, in_t, in_r, nin_t, nin_r, inO_l, inO_k, inO_lk, inO_n, inO_ln, wkey_i, wkey_s, sl_t, sl_c, sl_r, slO_l, len_t, len_c, len_s, len_r, lenO_l, abs_i, max_i, min_i, int_i, int_b, tup_t, tup_r, tuO_l, lst_t, lst_c, lst_r, lsO_l, set_r, seO_l, seO_k, seO_n, app_r, apO_l, ext_r, exO_l, pop_z, pop_i, poZ_l, poO_l, neg_i,
  ↓s_dispK, dkS_i, dkS_s, dkF_r, iadd_i, iadd_s, r2I_i, wst1, wst2, wst3, wst4, wst5, obOf, isN, rdl_l, put_same, put_put, Option.isSome_some, true_and, and_true, decide_true, decide_false, Option.bind_some, atI_0, atI_1, atI_2, atI_3, atI_4, atI_m1, atI_m2, atI_m3, atI_m4, atI_m5, cut_1, List.map_cons, List.map_nil, List.cons_append, List.nil_append, List.getElem?_cons_zero, List.getElem?_cons_succ, List.length_cons, List.length_nil, List.length_map, List.isEmpty_cons, List.isEmpty_nil, List.set_cons_zero, List.set_cons_succ, List.replicate, Nat.reduceAdd, Nat.reduceSub, Nat.reduceLeDiff, Int.reduceNeg, le_line, lt_line, Bool.not_true, Bool.not_false, put_ne1, put_ne2, *])
section
variable {M : Me} {Q : WK} {c : Cell}
theorem gix0 {tg : Tg Q} (k : Q (iT c.1) M) : lz (rIx2 (cW c) (.int 0) M) Q tg := by unfold cW; rw [ix_t, atI_0, gt_some]; exact k
end
def sp_guess (d : Nat) : PSp := fun ws M Q _ => match ws with
  | [gw, sw, .int p] => ∃ (g : Gs) (s : St), gw = g.toW ∧ sw = s.toW ∧ g.Ok ∧ StOf g s ∧ g.depth < d ∧ Q (.int (guessG g s p)) M
  | _ => False
theorem toW_last {g : Gs} (ns : ∀ w, g ≠ .same w) {M : Me} {Q : WK} {tg : Tg Q} (k : Q (cW g.cell) M) : lz (rIx2 g.toW (.int (-1)) M) Q tg := by
  cases g with
  | same w => exact absurd rfl (ns w)
  | table n c => unfold Gs.toW; rw [ix_t, atI_m3, gt_some]; exact k
  | mixed n len c => unfold Gs.toW; rw [ix_t, atI_m4, gt_some]; exact k
  | joined n len c => unfold Gs.toW; rw [ix_t, atI_m4, gt_some]; exact k
  | own n len c => unfold Gs.toW; rw [ix_t, atI_m4, gt_some]; exact k
  | either a b n c => unfold Gs.toW; rw [ix_t, atI_m5, gt_some]; exact k
def Gs.name : Gs → Str
  | .same _ => "same"
  | .table _ _ => "table"
  | .mixed _ _ _ => "mixed"
  | .joined _ _ _ => "joined"
  | .own _ _ _ => "own"
  | .either _ _ _ _ => "either"
theorem toW_name {g : Gs} {M : Me} {Q : WK} {tg : Tg Q} (k : Q (.str g.name) M) : lz (rIx2 g.toW (.int 0) M) Q tg := by
  cases g <;> (unfold Gs.toW; rw [ix_t, atI_0, gt_some]; exact k)
theorem rd_guess (d : Nat) (ws M Q E) (h : sp_guess (d + 1) ws M Q E) : t_p_guess sp_cells_in sp_cell_place (sp_guess d) (wEnd Q) (wStart ["guesser", "state", "place", "told"] ws) M := by
  unfold sp_guess at h
  split at h
  · rename_i gw sw p
    obtain ⟨g, s, rfl, rfl, gok, ok, hd, q⟩ := h
    rw [wst3]
    unfold t_p_guess
    walk_at "pv"
    refine toW_name ?_
    walk_at "pv"
    refine brn_dec (fun hs => ?_) (fun hs => ?_)
    · cases g with
      | same w =>
        unfold Gs.toW
        walk_at "pv"
        exact ⟨_, Sub.refl _, q⟩
      | table n c => exact absurd (show ("table" : Str) = "same" from hs) (by decide)
      | mixed n l c => exact absurd (show ("mixed" : Str) = "same" from hs) (by decide)
      | joined n l c => exact absurd (show ("joined" : Str) = "same" from hs) (by decide)
      | own n l c => exact absurd (show ("own" : Str) = "same" from hs) (by decide)
      | either a b n c => exact absurd (show ("either" : Str) = "same" from hs) (by decide)
    · have ns : ∀ w, g ≠ .same w := fun w z => hs (by rw [z]; rfl)
      have sp := spot_ok (p := p) gok ok ns
      have cl := cells_ok ok ns _ (ga_mem sp.1 sp.2)
      have tk := told_ok (p := p) gok ok ns
      walk_at "pv"
      refine toW_last ns ?_
      walk_at "pv"
      refine gix0 ?_
      walk_at "pv"
      refine ⟨g, s, rfl, rfl, ok, ns, ?_⟩
      walk_at "pv"
      refine ⟨g, s, rfl, rfl, gok, ok, ns, ?_⟩
      walk_at "pv"
      refine gt_of (at_ga sp.1 sp.2) ?_
      walk_at "pv"
      refine gt_of (at_ga cl.1 cl.2) ?_
      walk_at "pv"
      refine toW_name ?_
      walk_at "pv"
      rw [show ga g.cell.1 (ga (cellsG s) (spotG g s p)) = toldG g s p from rfl]
      refine brn_dec (fun he => ?_) (fun he => ?_)
      · cases g with
        | same w => exact absurd rfl (ns w)
        | table n c => exact absurd (show ("table" : Str) = "either" from he) (by decide)
        | mixed n l c => exact absurd (show ("mixed" : Str) = "either" from he) (by decide)
        | joined n l c => exact absurd (show ("joined" : Str) = "either" from he) (by decide)
        | own n l c => exact absurd (show ("own" : Str) = "either" from he) (by decide)
        | either a b n c =>
          cases s with
          | two s t st =>
            have dp : max a.depth b.depth + 1 < d + 1 := hd
            have eg : guessG (.either a b n c) (.two s t st) p = if toldG (.either a b n c) (.two s t st) p = 0 then guessG a s p else guessG b t p := rfl
            rw [eg] at q
            generalize toldG (.either a b n c) (.two s t st) p = k at tk q
            have k01 : k = 0 ∨ k = 1 := by omega
            rcases k01 with rfl | rfl
            · rw [if_pos rfl] at q
              unfold Gs.toW St.toW
              walk_at "pv"
              refine gt_of (w := a.toW) rfl ?_
              walk_at "pv"
              exact ⟨a, s, rfl, rfl, gok.1, ok.1, by omega, _, Sub.refl _, q⟩
            · rw [if_neg (by decide)] at q
              unfold Gs.toW St.toW
              walk_at "pv"
              refine gt_of (w := b.toW) rfl ?_
              walk_at "pv"
              exact ⟨b, t, rfl, rfl, gok.2.1, ok.2.1, by omega, _, Sub.refl _, q⟩
          | _ => exact ok.elim
      · have eg : guessG g s p = toldG g s p := by
          cases g <;> first | rfl | exact absurd rfl (ns _) | exact absurd rfl he
        rw [eg] at q
        walk_at "pv"
        exact ⟨_, Sub.refl _, q⟩
  · exact h.elim
end PV
set_option maxHeartbeats 4000000
namespace PV
open PySem PySem.Spec PyProof.Rows L2
local macro_rules | `(tactic| walk_at "pv") => `(tactic| try simp only [↓s_seq, ↓s_next, ↓s_ret, ↓s_retN, ↓s_drop, ↓s_set, ↓s_ifS, ↓s_asg, ↓s_gname, ↓s_gnil, ↓s_gcons, ↓s_gtup, tg1_t, ↓s_gsub, ↓s_par, par2_e, ↓s_aug, ↓s_var, ov_some, ↓s_c, ↓s_op, ↓s_un, ↓s_B, ↓s_chain, ↓s_and, ↓s_or, ↓s_not, ↓s_andV, ↓s_orV, ↓s_notV, ↓s_if, ↓s_nil, ↓s_cons, ↓s_tup, ↓s_lst, ↓s_call, ↓s_fn, ↓s_isi, ↓s_mt, ↓s_mt0, ↓s_sl, ↓s_part, ↓s_nopart, ↓s_newK, ↓s_newN, ↓s_yes, wWipe, ↓s_for, ↓s_seqI, ↓s_rng1, ↓s_rng2, ↓s_lc,
  brn_t, brn_f, gt_some, onB_b, itS_tup, itS_cl, itS_ref, rgO_i, rgT_i, prt_i, mtS_r, mtZ_r,
  isQ_int_non, isQ_int_bl, isQ_int_int, isQ_int_str, isQ_int_tup, isQ_int_l, isQ_int_k, isQ_bool_non, isQ_bool_bl, isQ_bool_int, isQ_bool_str, isQ_bool_tup, isQ_bool_l, isQ_bool_k, isQ_str_non, isQ_str_bl, isQ_str_int, isQ_str_str, isQ_str_tup, isQ_str_l, isQ_str_k, isQ_tuple_non, isQ_tuple_bl, isQ_tuple_int, isQ_tuple_str, isQ_tuple_tup, isQ_tuple_l, isQ_tuple_k, isQ_list_non, isQ_list_bl, isQ_list_int, isQ_list_str, isQ_list_tup, isQ_list_l, isQ_list_k, isQ_dict_non, isQ_dict_bl, isQ_dict_int, isQ_dict_str, isQ_dict_tup, isQ_dict_l, isQ_dict_k,
  add_i, add_s, add_t, add_l, addO_l, sub_i, mul_i, mul_t, mul_l, mulO_l, lt_i, le_i, gt_i, ge_i, is_n, isnot_n, is_b, is_bf, isnot_b, isnot_bf, eq_i, eq_s, eq_b, eq_t, eq_l, eqO_l, eqO_ll, ne_i, ne_s, ne_b, ne_t, ne_l, neO_l, neO_ll, ix_t, ix_c, ix_r, ixO_l, ixO_k, ixO_lk, ixO_n, ixO_ln, in_t, in_r, nin_t, nin_r, inO_l, inO_k, inO_lk, inO_n, inO_ln, wkey_i, wkey_s, sl_t, sl_c, sl_r, slO_l, len_t, len_c, len_s, len_r, lenO_l, abs_i, max_i, min_i, int_i, int_b, tup_t, tup_r, tuO_l, lst_t, lst_c, lst_r, lsO_l, set_r, seO_l, seO_k, seO_n, app_r, apO_l, ext_r, exO_l, pop_z, pop_i, poZ_l, poO_l, neg_i,
  ↓s_dispK, dkS_i, dkS_s, dkF_r, iadd_i, iadd_s, r2I_i, wst1, wst2, wst3, wst4, wst5, obOf, isN, rdl_l, put_same, put_put, Option.isSome_some, true_and, and_true, decide_true, decide_false, Option.bind_some, atI_0, atI_1, atI_2, atI_3, atI_4, atI_m1, atI_m2, atI_m3, atI_m4, atI_m5, cut_1, List.map_cons, List.map_nil, List.cons_append, List.nil_append, List.getElem?_cons_zero, List.getElem?_cons_succ, List.length_cons, List.length_nil, List.length_map, List.isEmpty_cons, List.isEmpty_nil, List.set_cons_zero, List.set_cons_succ, List.replicate, Nat.reduceAdd, Nat.reduceSub, Nat.reduceLeDiff, Int.reduceNeg, le_line, lt_line, Bool.not_true, Bool.not_false])
local macro_rules | `(tactic| walk_at "pvh") => `(tactic| try simp only [↓s_seq, ↓s_next, ↓s_ret, ↓s_retN, ↓s_drop, ↓s_set, ↓s_ifS, ↓s_asg, ↓s_gname, ↓s_gnil, ↓s_gcons, ↓s_gtup, tg1_t, ↓s_gsub, ↓s_par, par2_e, ↓s_aug, ↓s_var, ov_some, ↓s_c, ↓s_op, ↓s_un, ↓s_B, ↓s_chain, ↓s_and, ↓s_or, ↓s_not, ↓s_andV, ↓s_orV, ↓s_notV, ↓s_if, ↓s_nil, ↓s_cons, ↓s_tup, ↓s_lst, ↓s_call, ↓s_fn, ↓s_isi, ↓s_mt, ↓s_mt0, ↓s_sl, ↓s_part, ↓s_nopart, ↓s_newK, ↓s_newN, ↓s_yes, wWipe, ↓s_for, ↓s_seqI, ↓s_rng1, ↓s_rng2, ↓s_lc,
  brn_t, brn_f, gt_some, onB_b, itS_tup, itS_cl, itS_ref, rgO_i, rgT_i, prt_i, mtS_r, mtZ_r,
  isQ_int_non, isQ_int_bl, isQ_int_int, isQ_int_str, isQ_int_tup, isQ_int_l, isQ_int_k, isQ_bool_non, isQ_bool_bl, isQ_bool_int, isQ_bool_str, isQ_bool_tup, isQ_bool_l, isQ_bool_k, isQ_str_non, isQ_str_bl, isQ_str_int, isQ_str_str, isQ_str_tup, isQ_str_l, isQ_str_k, isQ_tuple_non, isQ_tuple_bl, isQ_tuple_int, isQ_tuple_str, isQ_tuple_tup, isQ_tuple_l, isQ_tuple_k, isQ_list_non, isQ_list_bl, isQ_list_int, isQ_list_str, isQ_list_tup, isQ_list_l, isQ_list_k, isQ_dict_non, isQ_dict_bl, isQ_dict_int, isQ_dict_str, isQ_dict_tup, isQ_dict_l, isQ_dict_k,
  add_i, add_s, add_t, add_l, addO_l, sub_i, mul_i, mul_t, mul_l, mulO_l, lt_i, le_i, gt_i, ge_i, is_n, isnot_n, is_b, is_bf, isnot_b, isnot_bf, eq_i, eq_s, eq_b, eq_t, eq_l, eqO_l, eqO_ll, ne_i, ne_s, ne_b, ne_t, ne_l, neO_l, neO_ll, ix_t, ix_c, ix_r, ixO_l, ixO_k, ixO_lk, ixO_n, ixO_ln, in_t, in_r, nin_t, nin_r, inO_l, inO_k, inO_lk, inO_n, inO_ln, wkey_i, wkey_s, sl_t, sl_c, sl_r, slO_l, len_t, len_c, len_s, len_r, lenO_l, abs_i, max_i, min_i, int_i, int_b, tup_t, tup_r, tuO_l, lst_t, lst_c, lst_r, lsO_l, set_r, seO_l, seO_k, seO_n, app_r, apO_l, ext_r, exO_l, pop_z, pop_i, poZ_l, poO_l, neg_i,
  ↓s_dispK, dkS_i, dkS_s, dkF_r, iadd_i, iadd_s, r2I_i, wst1, wst2, wst3, wst4, wst5, obOf, isN, rdl_l, put_same, put_put, Option.isSome_some, true_and, and_true, decide_true, decide_false, Option.bind_some, atI_0, atI_1, atI_2, atI_3, atI_4, atI_m1, atI_m2, atI_m3, atI_m4, atI_m5, cut_1, List.map_cons, List.map_nil, List.cons_append, List.nil_append, List.getElem?_cons_zero, List.getElem?_cons_succ, List.length_cons, List.length_nil, List.length_map, List.isEmpty_cons, List.isEmpty_nil, List.set_cons_zero, List.set_cons_succ, List.replicate, Nat.reduceAdd, Nat.reduceSub, Nat.reduceLeDiff, Int.reduceNeg, le_line, lt_line, Bool.not_true, Bool.not_false, put_ne1, put_ne2, *])
def sp_replaced : PSp := fun ws M Q _ => match ws with
  | [.tup xs, .int i, w] => ∃ k : Nat, i = k ∧ k < xs.length ∧ xs.length ≤ 2000 ∧ Q (.tup (xs.set k w)) M
  | _ => False
theorem set_cut {xs : List W} {k : Nat} {w : W} (h : k < xs.length) : cutW xs none (some (k : Int)) ++ [w] ++ cutW xs (some ((k : Int) + 1)) none = xs.set k w := by
  rw [show (k : Int) + 1 = ((k + 1 : Nat) : Int) by omega, cut_to, cut_from, List.set_eq_take_append_cons_drop, if_pos h]
  simp
theorem rd_replaced (ws M Q E) (h : sp_replaced ws M Q E) : t_p_replaced (wEnd Q) (wStart ["row", "at", "thing"] ws) M := by
  unfold sp_replaced at h
  split at h
  · rename_i xs i w
    obtain ⟨k, rfl, hk, hl, q⟩ := h
    rw [wst3]
    unfold t_p_replaced
    walk_at "pv"
    have c1 := cut_len (xs := xs) (lo := none) (hi := some (k : Int))
    have c2 := cut_len (xs := xs) (lo := some ((k : Int) + 1)) (hi := none)
    rw [set_cut hk]
    exact ⟨line_le (by omega), line_le (by simp only [List.length_append, List.length_cons, List.length_nil]; omega), _, Sub.refl _, q⟩
  · exact h.elim
theorem gix1 {M : Me} {Q : WK} {c : Cell} {tg : Tg Q} (k : Q (iT c.2.1) M) : lz (rIx2 (cW c) (.int 1) M) Q tg := by unfold cW; rw [ix_t, atI_1, gt_some]; exact k
theorem gix2 {M : Me} {Q : WK} {c : Cell} {tg : Tg Q} (k : Q (iT c.2.2) M) : lz (rIx2 (cW c) (.int 2) M) Q tg := by unfold cW; rw [ix_t, atI_2, gt_some]; exact k
def sp_one_more : PSp := fun ws M Q _ => match ws with
  | [.int h, .int l, .int way] => ∃ len : Nat, l = len ∧ len ≤ 6 ∧ Q (.int (moreG h len way)) M
  | _ => False
theorem rd_one_more (ws M Q E) (h : sp_one_more ws M Q E) : t_p_one_more (wEnd Q) (wStart ["number", "length", "way"] ws) M := by
  unfold sp_one_more at h
  split at h
  · rename_i h0 l way
    obtain ⟨len, rfl, hl, q⟩ := h
    rw [wst3]
    unfold t_p_one_more
    walk_at "pv"
    refine ⟨.left (by decide) (by decide), shl_go ⟨by omega, by omega, by decide⟩ ?_⟩
    rw [Int.one_mul, Int.toNat_natCast]
    exact mod_go (Int.pow_pos (by decide)) ⟨_, Sub.refl _, q⟩
  · exact h.elim
end PV
set_option maxHeartbeats 4000000
namespace PV
open PySem PySem.Spec PyProof.Rows L2
local macro_rules | `(tactic| walk_at "pv") => `(tactic| try simp only [↓s_seq, ↓s_next, ↓s_ret, ↓s_retN, ↓s_drop, ↓s_set, ↓s_ifS, ↓s_asg, ↓s_gname, ↓s_gnil, ↓s_gcons, ↓s_gtup, tg1_t, ↓s_gsub, ↓s_par, par2_e, ↓s_aug, ↓s_var, ov_some, ↓s_c, ↓s_op, ↓s_un, ↓s_B, ↓s_chain, ↓s_and, ↓s_or, ↓s_not, ↓s_andV, ↓s_orV, ↓s_notV, ↓s_if, ↓s_nil, ↓s_cons, ↓s_tup, ↓s_lst, ↓s_call, ↓s_fn, ↓s_isi, ↓s_mt, ↓s_mt0, ↓s_sl, ↓s_part, ↓s_nopart, ↓s_newK, ↓s_newN, ↓s_yes, wWipe, ↓s_for, ↓s_seqI, ↓s_rng1, ↓s_rng2, ↓s_lc,
  brn_t, brn_f, gt_some, onB_b, itS_tup, itS_cl, itS_ref, rgO_i, rgT_i, prt_i, mtS_r, mtZ_r,
  isQ_int_non, isQ_int_bl, isQ_int_int, isQ_int_str, isQ_int_tup, isQ_int_l, isQ_int_k, isQ_bool_non, isQ_bool_bl, isQ_bool_int, isQ_bool_str, isQ_bool_tup, isQ_bool_l, isQ_bool_k, isQ_str_non, isQ_str_bl, isQ_str_int, isQ_str_str, isQ_str_tup, isQ_str_l, isQ_str_k, isQ_tuple_non, isQ_tuple_bl, isQ_tuple_int, isQ_tuple_str, isQ_tuple_tup, isQ_tuple_l, isQ_tuple_k, isQ_list_non, isQ_list_bl, isQ_list_int, isQ_list_str, isQ_list_tup, isQ_list_l, isQ_list_k, isQ_dict_non, isQ_dict_bl, isQ_dict_int, isQ_dict_str, isQ_dict_tup, isQ_dict_l, isQ_dict_k,
  add_i, add_s, add_t, add_l, addO_l, sub_i, mul_i, mul_t, mul_l, mulO_l, lt_i, le_i, gt_i, ge_i, is_n, isnot_n, is_b, is_bf, isnot_b, isnot_bf, eq_i, eq_s, eq_b, eq_t, eq_l, eqO_l, eqO_ll, ne_i, ne_s, ne_b, ne_t, ne_l, neO_l, neO_ll, ix_t, ix_c, ix_r, ixO_l, ixO_k, ixO_lk, ixO_n, ixO_ln, in_t, in_r, nin_t, nin_r, inO_l, inO_k, inO_lk, inO_n, inO_ln, wkey_i, wkey_s, sl_t, sl_c, sl_r, slO_l, len_t, len_c, len_s, len_r, lenO_l, abs_i, max_i, min_i, int_i, int_b, tup_t, tup_r, tuO_l, lst_t, lst_c, lst_r, lsO_l, set_r, seO_l, seO_k, seO_n, app_r, apO_l, ext_r, exO_l, pop_z, pop_i, poZ_l, poO_l, neg_i,
  ↓s_dispK, dkS_i, dkS_s, dkF_r, iadd_i, iadd_s, r2I_i, wst1, wst2, wst3, wst4, wst5, obOf, isN, rdl_l, put_same, put_put, Option.isSome_some, true_and, and_true, decide_true, decide_false, Option.bind_some, atI_0, atI_1, atI_2, atI_3, atI_4, atI_m1, atI_m2, atI_m3, atI_m4, atI_m5, cut_1, List.map_cons, List.map_nil, List.cons_append, List.nil_append, List.getElem?_cons_zero, List.getElem?_cons_succ, List.length_cons, List.length_nil, List.length_map, List.isEmpty_cons, List.isEmpty_nil, List.set_cons_zero, List.set_cons_succ, List.replicate, Nat.reduceAdd, Nat.reduceSub, Nat.reduceLeDiff, Int.reduceNeg, le_line, lt_line, Bool.not_true, Bool.not_false])
local macro_rules | `(tactic| walk_at "pvh") => `(tactic| try simp only [↓s_seq, ↓s_next, ↓s_ret, ↓s_retN, ↓s_drop, ↓s_set, ↓s_ifS, ↓s_asg, ↓s_gname, ↓s_gnil, ↓s_gcons, ↓s_gtup, tg1_t, ↓s_gsub, ↓s_par, par2_e, ↓s_aug, ↓s_var, ov_some, ↓s_c, ↓s_op, ↓s_un, ↓s_B, ↓s_chain, ↓s_and, ↓s_or, ↓s_not, ↓s_andV, ↓s_orV, ↓s_notV, ↓s_if, ↓s_nil, ↓s_cons, ↓s_tup, ↓s_lst, ↓s_call, ↓s_fn, ↓s_isi, ↓s_mt, ↓s_mt0, ↓s_sl, ↓s_part, ↓s_nopart, ↓s_newK, ↓s_newN, ↓s_yes, wWipe, ↓s_for, ↓s_seqI, ↓s_rng1, ↓s_rng2, ↓s_lc,
  brn_t, brn_f, gt_some, onB_b, itS_tup, itS_cl, itS_ref, rgO_i, rgT_i, prt_i, mtS_r, mtZ_r,
  isQ_int_non, isQ_int_bl, isQ_int_int, isQ_int_str, isQ_int_tup, isQ_int_l, isQ_int_k, isQ_bool_non, isQ_bool_bl, isQ_bool_int, isQ_bool_str, isQ_bool_tup, isQ_bool_l, isQ_bool_k, isQ_str_non, isQ_str_bl, isQ_str_int, isQ_str_str, isQ_str_tup, isQ_str_l, isQ_str_k, isQ_tuple_non, isQ_tuple_bl, isQ_tuple_int, isQ_tuple_str, isQ_tuple_tup, isQ_tuple_l, isQ_tuple_k, isQ_list_non, isQ_list_bl, isQ_list_int, isQ_list_str, isQ_list_tup, isQ_list_l, isQ_list_k, isQ_dict_non, isQ_dict_bl, isQ_dict_int, isQ_dict_str, isQ_dict_tup, isQ_dict_l, isQ_dict_k,
  add_i, add_s, add_t, add_l, addO_l, sub_i, mul_i, mul_t, mul_l, mulO_l, lt_i, le_i, gt_i, ge_i, is_n, isnot_n, is_b, is_bf, isnot_b, isnot_bf, eq_i, eq_s, eq_b, eq_t, eq_l, eqO_l, eqO_ll, ne_i, ne_s, ne_b, ne_t, ne_l, neO_l, neO_ll, ix_t, ix_c, ix_r, ixO_l, ixO_k, ixO_lk, ixO_n, ixO_ln, in_t, in_r, nin_t, nin_r, inO_l, inO_k, inO_lk, inO_n, inO_ln, wkey_i, wkey_s, sl_t, sl_c, sl_r, slO_l, len_t, len_c, len_s, len_r, lenO_l, abs_i, max_i, min_i, int_i, int_b, tup_t, tup_r, tuO_l, lst_t, lst_c, lst_r, lsO_l, set_r, seO_l, seO_k, seO_n, app_r, apO_l, ext_r, exO_l, pop_z, pop_i, poZ_l, poO_l, neg_i,
  ↓s_dispK, dkS_i, dkS_s, dkF_r, iadd_i, iadd_s, r2I_i, wst1, wst2, wst3, wst4, wst5, obOf, isN, rdl_l, put_same, put_put, Option.isSome_some, true_and, and_true, decide_true, decide_false, Option.bind_some, atI_0, atI_1, atI_2, atI_3, atI_4, atI_m1, atI_m2, atI_m3, atI_m4, atI_m5, cut_1, List.map_cons, List.map_nil, List.cons_append, List.nil_append, List.getElem?_cons_zero, List.getElem?_cons_succ, List.length_cons, List.length_nil, List.length_map, List.isEmpty_cons, List.isEmpty_nil, List.set_cons_zero, List.set_cons_succ, List.replicate, Nat.reduceAdd, Nat.reduceSub, Nat.reduceLeDiff, Int.reduceNeg, le_line, lt_line, Bool.not_true, Bool.not_false, put_ne1, put_ne2, *])
theorem map_set_int {xs : List Int} {k : Nat} {v : Int} : (xs.map W.int).set k (.int v) = (xs.set k v).map W.int := by rw [List.map_set]
theorem cells_len {g : Gs} {s : St} (h : g.Ok) (ok : StOf g s) (ns : ∀ w, g ≠ .same w) : (cellsG s).length ≤ 1024 := by
  have pw : ∀ len : Nat, len ≤ 6 → 2 ^ len ≤ 64 := fun len hl => Nat.le_trans (Nat.pow_le_pow_right (by decide) hl) (by decide)
  cases g <;> cases s <;> first | exact ok.elim | exact absurd rfl (ns _) | skip
  · have l := ok.1; have := h.2.1; exact Nat.le_trans (Nat.le_of_eq l) (by omega)
  · have l := ok.2.1; have := h.2.1; exact Nat.le_trans (Nat.le_of_eq l) (by omega)
  · have l := ok.2.1; have a := h.2.1; have b := pw _ h.2.2.1; exact Nat.le_trans (Nat.le_of_eq l) (Nat.le_trans (Nat.mul_le_mul a b) (by decide))
  · have l := ok.2.1; have b := pw _ h.2.2.1; exact Nat.le_trans (Nat.le_of_eq l) (by omega)
  · have l := ok.2.2.1; have := h.2.2.2.1; exact Nat.le_trans (Nat.le_of_eq l) (by omega)
def sp_cells_behind : PSp := fun ws M Q _ => match ws with
  | [gw, sw, .int p, .int way] => ∃ (g : Gs) (s : St), gw = g.toW ∧ sw = s.toW ∧ g.Ok ∧ StOf g s ∧ (∀ w, g ≠ .same w) ∧ (way = 0 ∨ way = 1) ∧ Q (iT (behindG g s p way)) M
  | _ => False
theorem rd_cells_behind (ws M Q E) (h : sp_cells_behind ws M Q E) : t_p_cells_behind sp_cells_in sp_cell_place sp_replaced (wEnd Q) (wStart ["guesser", "state", "place", "way", "cells", "at"] ws) M := by
  unfold sp_cells_behind at h
  split at h
  · rename_i gw sw p way
    obtain ⟨g, s, rfl, rfl, gok, ok, ns, hw, q⟩ := h
    have sp := spot_ok (p := p) gok ok ns
    have cl := cells_ok ok ns _ (ga_mem sp.1 sp.2)
    obtain ⟨k, _, hc⟩ := Gs.cellOk gok ns
    have ln := cells_len gok ok ns
    rw [hc.l1] at cl
    rw [wst4]
    unfold t_p_cells_behind
    walk_at "pv"
    refine ⟨g, s, rfl, rfl, ok, ns, ?_⟩
    walk_at "pv"
    refine ⟨g, s, rfl, rfl, gok, ok, ns, ?_⟩
    walk_at "pv"
    refine toW_last ns ?_
    walk_at "pv"
    have fin : ∀ v, v = nextC g.cell (ga (cellsG s) (spotG g s p)) way → sp_replaced [iT (cellsG s), .int (spotG g s p), .int v] M (wEnd Q).rt noX := fun v hv => by
      refine ⟨(spotG g s p).toNat, by omega, by rw [List.length_map]; omega, by rw [List.length_map]; omega, M, Sub.refl _, ?_⟩
      rw [map_set_int, hv]; exact q
    rcases hw with rfl | rfl
    · rw [show (1 : Int) + 0 = 1 from rfl]
      refine gix1 ?_
      walk_at "pv"
      refine gt_of (at_ga sp.1 sp.2) ?_
      walk_at "pv"
      refine gt_of (hc.as cl.1 cl.2) ?_
      exact fin _ rfl
    · rw [show (1 : Int) + 1 = 2 from rfl]
      refine gix2 ?_
      walk_at "pv"
      refine gt_of (at_ga sp.1 sp.2) ?_
      walk_at "pv"
      refine gt_of (hc.aa cl.1 cl.2) ?_
      exact fin _ rfl
  · exact h.elim
end PV
set_option maxHeartbeats 4000000
namespace PV
open PySem PySem.Spec PyProof.Rows L2
local macro_rules | `(tactic| walk_at "pv") => `(tactic| try simp only [↓s_seq, ↓s_next, ↓s_ret, ↓s_retN, ↓s_drop, ↓s_set, ↓s_ifS, ↓s_asg, ↓s_gname, ↓s_gnil, ↓s_gcons, ↓s_gtup, tg1_t, ↓s_gsub, ↓s_par, par2_e, ↓s_aug, ↓s_var, ov_some, ↓s_c, ↓s_op, ↓s_un, ↓s_B, ↓s_chain, ↓s_and, ↓s_or, ↓s_not, ↓s_andV, ↓s_orV, ↓s_notV, ↓s_if, ↓s_nil, ↓s_cons, ↓s_tup, ↓s_lst, ↓s_call, ↓s_fn, ↓s_isi, ↓s_mt, ↓s_mt0, ↓s_sl, ↓s_part, ↓s_nopart, ↓s_newK, ↓s_newN, ↓s_yes, wWipe, ↓s_for, ↓s_seqI, ↓s_rng1, ↓s_rng2, ↓s_lc,
  brn_t, brn_f, gt_some, onB_b, itS_tup, itS_cl, itS_ref, rgO_i, rgT_i, prt_i, mtS_r, mtZ_r,
  isQ_int_non, isQ_int_bl, isQ_int_int, isQ_int_str, isQ_int_tup, isQ_int_l, isQ_int_k, isQ_bool_non, isQ_bool_bl, isQ_bool_int, isQ_bool_str, isQ_bool_tup, isQ_bool_l, isQ_bool_k, isQ_str_non, isQ_str_bl, isQ_str_int, isQ_str_str, isQ_str_tup, isQ_str_l, isQ_str_k, isQ_tuple_non, isQ_tuple_bl, isQ_tuple_int, isQ_tuple_str, isQ_tuple_tup, isQ_tuple_l, isQ_tuple_k, isQ_list_non, isQ_list_bl, isQ_list_int, isQ_list_str, isQ_list_tup, isQ_list_l, isQ_list_k, isQ_dict_non, isQ_dict_bl, isQ_dict_int, isQ_dict_str, isQ_dict_tup, isQ_dict_l, isQ_dict_k,
  add_i, add_s, add_t, add_l, addO_l, sub_i, mul_i, mul_t, mul_l, mulO_l, lt_i, le_i, gt_i, ge_i, is_n, isnot_n, is_b, is_bf, isnot_b, isnot_bf, eq_i, eq_s, eq_b, eq_t, eq_l, eqO_l, eqO_ll, ne_i, ne_s, ne_b, ne_t, ne_l, neO_l, neO_ll, ix_t, ix_c, ix_r, ixO_l, ixO_k, ixO_lk, ixO_n, ixO_ln, in_t, in_r, nin_t, nin_r, inO_l, inO_k, inO_lk, inO_n, inO_ln, wkey_i, wkey_s, sl_t, sl_c, sl_r, slO_l, len_t, len_c, len_s, len_r, lenO_l, abs_i, max_i, min_i, int_i, int_b, tup_t, tup_r, tuO_l, lst_t, lst_c, lst_r, lsO_l, set_r, seO_l, seO_k, seO_n, app_r, apO_l, ext_r, exO_l, pop_z, pop_i, poZ_l, poO_l, neg_i,
  ↓s_dispK, dkS_i, dkS_s, dkF_r, iadd_i, iadd_s, r2I_i, wst1, wst2, wst3, wst4, wst5, obOf, isN, rdl_l, put_same, put_put, Option.isSome_some, true_and, and_true, decide_true, decide_false, Option.bind_some, atI_0, atI_1, atI_2, atI_3, atI_4, atI_m1, atI_m2, atI_m3, atI_m4, atI_m5, cut_1, List.map_cons, List.map_nil, List.cons_append, List.nil_append, List.getElem?_cons_zero, List.getElem?_cons_succ, List.length_cons, List.length_nil, List.length_map, List.isEmpty_cons, List.isEmpty_nil, List.set_cons_zero, List.set_cons_succ, List.replicate, Nat.reduceAdd, Nat.reduceSub, Nat.reduceLeDiff, Int.reduceNeg, le_line, lt_line, Bool.not_true, Bool.not_false])
local macro_rules | `(tactic| walk_at "pvh") => `(tactic| try simp only [↓s_seq, ↓s_next, ↓s_ret, ↓s_retN, ↓s_drop, ↓s_set, ↓s_ifS, ↓s_asg, ↓s_gname, ↓s_gnil, ↓s_gcons, ↓s_gtup, tg1_t, ↓s_gsub, ↓s_par, par2_e, ↓s_aug, ↓s_var, ov_some, ↓s_c, ↓s_op, ↓s_un, ↓s_B, ↓s_chain, ↓s_and, ↓s_or, ↓s_not, ↓s_andV, ↓s_orV, ↓s_notV, ↓s_if, ↓s_nil, ↓s_cons, ↓s_tup, ↓s_lst, ↓s_call, ↓s_fn, ↓s_isi, ↓s_mt, ↓s_mt0, ↓s_sl, ↓s_part, ↓s_nopart, ↓s_newK, ↓s_newN, ↓s_yes, wWipe, ↓s_for, ↓s_seqI, ↓s_rng1, ↓s_rng2, ↓s_lc,
  brn_t, brn_f, gt_some, onB_b, itS_tup, itS_cl, itS_ref, rgO_i, rgT_i, prt_i, mtS_r, mtZ_r,
  isQ_int_non, isQ_int_bl, isQ_int_int, isQ_int_str, isQ_int_tup, isQ_int_l, isQ_int_k, isQ_bool_non, isQ_bool_bl, isQ_bool_int, isQ_bool_str, isQ_bool_tup, isQ_bool_l, isQ_bool_k, isQ_str_non, isQ_str_bl, isQ_str_int, isQ_str_str, isQ_str_tup, isQ_str_l, isQ_str_k, isQ_tuple_non, isQ_tuple_bl, isQ_tuple_int, isQ_tuple_str, isQ_tuple_tup, isQ_tuple_l, isQ_tuple_k, isQ_list_non, isQ_list_bl, isQ_list_int, isQ_list_str, isQ_list_tup, isQ_list_l, isQ_list_k, isQ_dict_non, isQ_dict_bl, isQ_dict_int, isQ_dict_str, isQ_dict_tup, isQ_dict_l, isQ_dict_k,
  add_i, add_s, add_t, add_l, addO_l, sub_i, mul_i, mul_t, mul_l, mulO_l, lt_i, le_i, gt_i, ge_i, is_n, isnot_n, is_b, is_bf, isnot_b, isnot_bf, eq_i, eq_s, eq_b, eq_t, eq_l, eqO_l, eqO_ll, ne_i, ne_s, ne_b, ne_t, ne_l, neO_l, neO_ll, ix_t, ix_c, ix_r, ixO_l, ixO_k, ixO_lk, ixO_n, ixO_ln, in_t, in_r, nin_t, nin_r, inO_l, inO_k, inO_lk, inO_n, inO_ln, wkey_i, wkey_s, sl_t, sl_c, sl_r, slO_l, len_t, len_c, len_s, len_r, lenO_l, abs_i, max_i, min_i, int_i, int_b, tup_t, tup_r, tuO_l, lst_t, lst_c, lst_r, lsO_l, set_r, seO_l, seO_k, seO_n, app_r, apO_l, ext_r, exO_l, pop_z, pop_i, poZ_l, poO_l, neg_i,
  ↓s_dispK, dkS_i, dkS_s, dkF_r, iadd_i, iadd_s, r2I_i, wst1, wst2, wst3, wst4, wst5, obOf, isN, rdl_l, put_same, put_put, Option.isSome_some, true_and, and_true, decide_true, decide_false, Option.bind_some, atI_0, atI_1, atI_2, atI_3, atI_4, atI_m1, atI_m2, atI_m3, atI_m4, atI_m5, cut_1, List.map_cons, List.map_nil, List.cons_append, List.nil_append, List.getElem?_cons_zero, List.getElem?_cons_succ, List.length_cons, List.length_nil, List.length_map, List.isEmpty_cons, List.isEmpty_nil, List.set_cons_zero, List.set_cons_succ, List.replicate, Nat.reduceAdd, Nat.reduceSub, Nat.reduceLeDiff, Int.reduceNeg, le_line, lt_line, Bool.not_true, Bool.not_false, put_ne1, put_ne2, *])
def sp_learned (d : Nat) : PSp := fun ws M Q _ => match ws with
  | [gw, sw, .int p, .int way] => ∃ (g : Gs) (s : St), gw = g.toW ∧ sw = s.toW ∧ g.Ok ∧ StOf g s ∧ g.depth < d ∧ (way = 0 ∨ way = 1) ∧ Q (learnG g s p way).toW M
  | _ => False
def sp_learned_either (d : Nat) : PSp := fun ws M Q _ => match ws with
  | [gw, sw, .int p, .int way] => ∃ (a b : Gs) (n : Nat) (c : Cell) (s : St), gw = (Gs.either a b n c).toW ∧ sw = s.toW ∧ (Gs.either a b n c).Ok ∧ StOf (.either a b n c) s ∧ (Gs.either a b n c).depth < d + 1 ∧ (way = 0 ∨ way = 1) ∧ Q (learnG (.either a b n c) s p way).toW M
  | _ => False
theorem rd_learned_either (d : Nat) (ws M Q E) (h : sp_learned_either d ws M Q E) : t_p_learned_either (sp_guess d) sp_cells_behind (sp_learned d) (wEnd Q) (wStart ["guesser", "state", "place", "way", "right", "cells", "side"] ws) M := by
  unfold sp_learned_either at h
  split at h
  · rename_i gw sw p way
    obtain ⟨a, b, n, c, s, rfl, rfl, gok, ok, hd, hw, q⟩ := h
    cases s with
    | two s t st =>
      have dp : max a.depth b.depth + 1 < d + 1 := hd
      rw [wst4]
      unfold t_p_learned_either
      have e1 : (Gs.either a b n c).toW = .tup [.str "either", a.toW, b.toW, .int n, cW c] := rfl
      have e2 : (St.two s t st).toW = .tup [s.toW, t.toW, iT st] := rfl
      have e3 : learnG (.either a b n c) (.two s t st) p way = .two (learnG a s p way) (learnG b t p way)
        (if decide (guessG a s p = way) = decide (guessG b t p = way) then st else behindG (.either a b n c) (.two s t st) p (b2i (decide (guessG b t p = way)))) := rfl
      rw [e3] at q
      rw [e1, e2]
      walk_at "pv"
      refine lc_c (by simp) (fun i acc M' => M' = M ∧ acc = ([W.bl (decide (guessG a s p = way)), .bl (decide (guessG b t p = way))].take i)) ⟨rfl, rfl⟩ ?_ ?_
      · rintro i acc w M' hi ⟨rfl, rfl⟩
        match i, hi with
        | 0, hi =>
          cases hi
          walk_at "pv"
          rw [show (1 : Int) + 0 = 1 from rfl]
          walk_at "pv"
          refine ⟨a, s, rfl, rfl, gok.1, ok.1, by omega, ?_⟩
          walk_at "pv"
          exact ⟨_, Sub.refl _, rfl, rfl⟩
        | 1, hi =>
          cases hi
          walk_at "pv"
          rw [show (1 : Int) + 1 = 2 from rfl]
          walk_at "pv"
          refine ⟨b, t, rfl, rfl, gok.2.1, ok.2.1, by omega, ?_⟩
          walk_at "pv"
          exact ⟨_, Sub.refl _, rfl, rfl⟩
      · rintro acc M' ⟨rfl, rfl⟩
        intro r hr
        have k : Kp none [(r, .lst [W.bl (decide (guessG a s p = way)), .bl (decide (guessG b t p = way))])] M' (put M' r (.lst [W.bl (decide (guessG a s p = way)), .bl (decide (guessG b t p = way))])) := Kp.start0.new hr
        have fin : ∀ st', W.tup [(learnG a s p way).toW, (learnG b t p way).toW, iT st'] = (St.two (learnG a s p way) (learnG b t p way) st').toW := fun _ => rfl
        show _
        rw [show List.take ([W.int 0, .int 1] : List W).length [W.bl (decide (guessG a s p = way)), W.bl (decide (guessG b t p = way))] = [W.bl (decide (guessG a s p = way)), W.bl (decide (guessG b t p = way))] from rfl]
        generalize put M' r _ = M1 at k
        generalize decide (guessG a s p = way) = x at k q
        generalize decide (guessG b t p = way) = y at k q
        have m0 := k.g0
        walk_at "pvh"
        refine brn_i (fun hx => ?_) (fun hx => ?_)
        · have hne : ¬ (x = y) := by intro z; subst z; cases x <;> simp at hx
          rw [if_neg hne] at q
          walk_at "pvh"
          refine ⟨_, _, rfl, rfl, gok, ok, fun w z => (nomatch z), by cases y <;> simp [b2i], ?_⟩
          walk_at "pv"
          refine ⟨a, s, rfl, rfl, gok.1, ok.1, by omega, hw, ?_⟩
          walk_at "pv"
          refine ⟨b, t, rfl, rfl, gok.2.1, ok.2.1, by omega, hw, ?_⟩
          walk_at "pv"
          exact ⟨_, k.sub, q⟩
        · have hne : x = y := by cases x <;> cases y <;> simp at hx ⊢
          rw [if_pos hne] at q
          walk_at "pv"
          refine ⟨a, s, rfl, rfl, gok.1, ok.1, by omega, hw, ?_⟩
          walk_at "pv"
          refine ⟨b, t, rfl, rfl, gok.2.1, ok.2.1, by omega, hw, ?_⟩
          walk_at "pv"
          exact ⟨_, k.sub, q⟩
    | _ => exact ok.elim
  · exact h.elim
end PV
set_option maxHeartbeats 4000000
namespace PV
open PySem PySem.Spec PyProof.Rows L2
local macro_rules | `(tactic| walk_at "pv") => `(tactic| try simp only [↓s_seq, ↓s_next, ↓s_ret, ↓s_retN, ↓s_drop, ↓s_set, ↓s_ifS, ↓s_asg, ↓s_gname, ↓s_gnil, ↓s_gcons, ↓s_gtup, tg1_t, ↓s_gsub, ↓s_par, par2_e, ↓s_aug, ↓s_var, ov_some, ↓s_c, ↓s_op, ↓s_un, ↓s_B, ↓s_chain, ↓s_and, ↓s_or, ↓s_not, ↓s_andV, ↓s_orV, ↓s_notV, ↓s_if, ↓s_nil, ↓s_cons, ↓s_tup, ↓s_lst, ↓s_call, ↓s_fn, ↓s_isi, ↓s_mt, ↓s_mt0, ↓s_sl, ↓s_part, ↓s_nopart, ↓s_newK, ↓s_newN, ↓s_yes, wWipe, ↓s_for, ↓s_seqI, ↓s_rng1, ↓s_rng2, ↓s_lc,
  brn_t, brn_f, gt_some, onB_b, itS_tup, itS_cl, itS_ref, rgO_i, rgT_i, prt_i, mtS_r, mtZ_r,
  isQ_int_non, isQ_int_bl, isQ_int_int, isQ_int_str, isQ_int_tup, isQ_int_l, isQ_int_k, isQ_bool_non, isQ_bool_bl, isQ_bool_int, isQ_bool_str, isQ_bool_tup, isQ_bool_l, isQ_bool_k, isQ_str_non, isQ_str_bl, isQ_str_int, isQ_str_str, isQ_str_tup, isQ_str_l, isQ_str_k, isQ_tuple_non, isQ_tuple_bl, isQ_tuple_int, isQ_tuple_str, isQ_tuple_tup, isQ_tuple_l, isQ_tuple_k, isQ_list_non, isQ_list_bl, isQ_list_int, isQ_list_str, isQ_list_tup, isQ_list_l, isQ_list_k, isQ_dict_non, isQ_dict_bl, isQ_dict_int, isQ_dict_str, isQ_dict_tup, isQ_dict_l, isQ_dict_k,
  add_i, add_s, add_t, add_l, addO_l, sub_i, mul_i, mul_t, mul_l, mulO_l, lt_i, le_i, gt_i, ge_i, is_n, isnot_n, is_b, is_bf, isnot_b, isnot_bf, eq_i, eq_s, eq_b, eq_t, eq_l, eqO_l, eqO_ll, ne_i, ne_s, ne_b, ne_t, ne_l, neO_l, neO_ll, ix_t, ix_c, ix_r, ixO_l, ixO_k, ixO_lk, ixO_n, ixO_ln, in_t, in_r, nin_t, nin_r, inO_l, inO_k, inO_lk, inO_n, inO_ln, wkey_i, wkey_s, sl_t, sl_c, sl_r, slO_l, len_t, len_c, len_s, len_r, lenO_l, abs_i, max_i, min_i, int_i, int_b, tup_t, tup_r, tuO_l, lst_t, lst_c, lst_r, lsO_l, set_r, seO_l, seO_k, seO_n, app_r, apO_l, ext_r, exO_l, pop_z, pop_i, poZ_l, poO_l, neg_i,
  ↓s_dispK, dkS_i, dkS_s, dkF_r, iadd_i, iadd_s, r2I_i, wst1, wst2, wst3, wst4, wst5, obOf, isN, rdl_l, put_same, put_put, Option.isSome_some, true_and, and_true, decide_true, decide_false, Option.bind_some, atI_0, atI_1, atI_2, atI_3, atI_4, atI_m1, atI_m2, atI_m3, atI_m4, atI_m5, cut_1, List.map_cons, List.map_nil, List.cons_append, List.nil_append, List.getElem?_cons_zero, List.getElem?_cons_succ, List.length_cons, List.length_nil, List.length_map, List.isEmpty_cons, List.isEmpty_nil, List.set_cons_zero, List.set_cons_succ, List.replicate, Nat.reduceAdd, Nat.reduceSub, Nat.reduceLeDiff, Int.reduceNeg, le_line, lt_line, Bool.not_true, Bool.not_false])
local macro_rules | `(tactic| walk_at "pvh") => `(tactic| try simp only [↓s_seq, ↓s_next, ↓s_ret, ↓s_retN, ↓s_drop, ↓s_set, ↓s_ifS, ↓s_asg, ↓s_gname, ↓s_gnil, ↓s_gcons, ↓s_gtup, tg1_t, ↓s_gsub, ↓s_par, par2_e, ↓s_aug, ↓s_var, ov_some, ↓s_c, ↓s_op, ↓s_un, ↓s_B, ↓s_chain, ↓s_and, ↓s_or, ↓s_not, ↓s_andV, ↓s_orV, ↓s_notV, ↓s_if, ↓s_nil, ↓s_cons, ↓s_tup, ↓s_lst, ↓s_call, ↓s_fn, ↓s_isi, ↓s_mt, ↓s_mt0, ↓s_sl, ↓s_part, ↓s_nopart, ↓s_newK, ↓s_newN, ↓s_yes, wWipe, ↓s_for, ↓s_seqI, ↓s_rng1, ↓s_rng2, ↓s_lc,
  brn_t, brn_f, gt_some, onB_b, itS_tup, itS_cl, itS_ref, rgO_i, rgT_i, prt_i, mtS_r, mtZ_r,
  isQ_int_non, isQ_int_bl, isQ_int_int, isQ_int_str, isQ_int_tup, isQ_int_l, isQ_int_k, isQ_bool_non, isQ_bool_bl, isQ_bool_int, isQ_bool_str, isQ_bool_tup, isQ_bool_l, isQ_bool_k, isQ_str_non, isQ_str_bl, isQ_str_int, isQ_str_str, isQ_str_tup, isQ_str_l, isQ_str_k, isQ_tuple_non, isQ_tuple_bl, isQ_tuple_int, isQ_tuple_str, isQ_tuple_tup, isQ_tuple_l, isQ_tuple_k, isQ_list_non, isQ_list_bl, isQ_list_int, isQ_list_str, isQ_list_tup, isQ_list_l, isQ_list_k, isQ_dict_non, isQ_dict_bl, isQ_dict_int, isQ_dict_str, isQ_dict_tup, isQ_dict_l, isQ_dict_k,
  add_i, add_s, add_t, add_l, addO_l, sub_i, mul_i, mul_t, mul_l, mulO_l, lt_i, le_i, gt_i, ge_i, is_n, isnot_n, is_b, is_bf, isnot_b, isnot_bf, eq_i, eq_s, eq_b, eq_t, eq_l, eqO_l, eqO_ll, ne_i, ne_s, ne_b, ne_t, ne_l, neO_l, neO_ll, ix_t, ix_c, ix_r, ixO_l, ixO_k, ixO_lk, ixO_n, ixO_ln, in_t, in_r, nin_t, nin_r, inO_l, inO_k, inO_lk, inO_n, inO_ln, wkey_i, wkey_s, sl_t, sl_c, sl_r, slO_l, len_t, len_c, len_s, len_r, lenO_l, abs_i, max_i, min_i, int_i, int_b, tup_t, tup_r, tuO_l, lst_t, lst_c, lst_r, lsO_l, set_r, seO_l, seO_k, seO_n, app_r, apO_l, ext_r, exO_l, pop_z, pop_i, poZ_l, poO_l, neg_i,
  ↓s_dispK, dkS_i, dkS_s, dkF_r, iadd_i, iadd_s, r2I_i, wst1, wst2, wst3, wst4, wst5, obOf, isN, rdl_l, put_same, put_put, Option.isSome_some, true_and, and_true, decide_true, decide_false, Option.bind_some, atI_0, atI_1, atI_2, atI_3, atI_4, atI_m1, atI_m2, atI_m3, atI_m4, atI_m5, cut_1, List.map_cons, List.map_nil, List.cons_append, List.nil_append, List.getElem?_cons_zero, List.getElem?_cons_succ, List.length_cons, List.length_nil, List.length_map, List.isEmpty_cons, List.isEmpty_nil, List.set_cons_zero, List.set_cons_succ, List.replicate, Nat.reduceAdd, Nat.reduceSub, Nat.reduceLeDiff, Int.reduceNeg, le_line, lt_line, Bool.not_true, Bool.not_false, put_ne1, put_ne2, *])
theorem rd_learned (d : Nat) (ws M Q E) (h : sp_learned (d + 1) ws M Q E) : t_p_learned (sp_learned_either d) sp_cells_behind sp_replaced sp_one_more (wEnd Q) (wStart ["guesser", "state", "place", "way", "cells", "row"] ws) M := by
  unfold sp_learned at h
  split at h
  · rename_i gw sw p way
    obtain ⟨g, s, rfl, rfl, gok, ok, hd, hw, q⟩ := h
    rw [wst4]
    unfold t_p_learned
    cases g with
    | same w =>
      have e : (Gs.same w).toW = .tup [.str "same", .int w] := rfl
      rw [e]
      walk_at "pv"
      exact ⟨_, Sub.refl _, q⟩
    | table n c =>
      cases s with
      | row st =>
        have e : (Gs.table n c).toW = .tup [.str "table", .int n, cW c] := rfl
        rw [e]
        walk_at "pv"
        refine sne1 (by decide) ?_
        walk_at "pv"
        refine sne1 (by decide) ?_
        walk_at "pv"
        refine ⟨_, _, e.symm, rfl, gok, ok, fun w z => (nomatch z), hw, ?_⟩
        walk_at "pv"
        exact ⟨_, Sub.refl _, q⟩
      | _ => exact ok.elim
    | mixed n len c =>
      cases s with
      | hist h0 st =>
        have e : (Gs.mixed n len c).toW = .tup [.str "mixed", .int n, .int len, cW c] := rfl
        have e2 : (St.hist h0 st).toW = .tup [.int h0, iT st] := rfl
        rw [e, e2]
        walk_at "pv"
        refine sne1 (by decide) ?_
        walk_at "pv"
        refine sne1 (by decide) ?_
        walk_at "pv"
        refine ⟨_, _, e.symm, e2.symm, gok, ok, fun w z => (nomatch z), hw, ?_⟩
        walk_at "pv"
        refine sne1 (by decide) ?_
        walk_at "pv"
        refine sne1 (by decide) ?_
        walk_at "pv"
        refine ⟨len, rfl, gok.2.2.1, ?_⟩
        walk_at "pv"
        exact ⟨_, Sub.refl _, q⟩
      | _ => exact ok.elim
    | joined n len c =>
      cases s with
      | hist h0 st =>
        have e : (Gs.joined n len c).toW = .tup [.str "joined", .int n, .int len, cW c] := rfl
        have e2 : (St.hist h0 st).toW = .tup [.int h0, iT st] := rfl
        rw [e, e2]
        walk_at "pv"
        refine sne1 (by decide) ?_
        walk_at "pv"
        refine sne1 (by decide) ?_
        walk_at "pv"
        refine ⟨_, _, e.symm, e2.symm, gok, ok, fun w z => (nomatch z), hw, ?_⟩
        walk_at "pv"
        refine sne1 (by decide) ?_
        walk_at "pv"
        refine sne1 (by decide) ?_
        walk_at "pv"
        refine ⟨len, rfl, gok.2.2.1, ?_⟩
        walk_at "pv"
        exact ⟨_, Sub.refl _, q⟩
      | _ => exact ok.elim
    | own n len c =>
      cases s with
      | rows r st =>
        have e : (Gs.own n len c).toW = .tup [.str "own", .int n, .int len, cW c] := rfl
        have e2 : (St.rows r st).toW = .tup [iT r, iT st] := rfl
        have h1 := gok.1
        have h2 := gok.2.1
        have hr := ok.1
        rw [e, e2]
        walk_at "pv"
        refine sne1 (by decide) ?_
        walk_at "pv"
        refine sne1 (by decide) ?_
        walk_at "pv"
        refine ⟨_, _, e.symm, e2.symm, gok, ok, fun w z => (nomatch z), hw, ?_⟩
        walk_at "pv"
        refine sne1 (by decide) ?_
        walk_at "pv"
        refine mod_go (by omega) ?_
        have b0 := Int.emod_nonneg p (b := (n : Int)) (by omega)
        have b1 := Int.emod_lt_of_pos p (b := (n : Int)) (by omega)
        walk_at "pv"
        refine gt_of (at_ga b0 (by rw [hr.1]; exact b1)) ?_
        walk_at "pv"
        refine ⟨len, rfl, gok.2.2.1, ?_⟩
        walk_at "pv"
        refine ⟨(p % n).toNat, by omega, by rw [List.length_map, hr.1]; omega, by rw [List.length_map, hr.1]; omega, ?_⟩
        walk_at "pv"
        rw [map_set_int]
        exact ⟨_, Sub.refl _, q⟩
      | _ => exact ok.elim
    | either a b n c =>
      have e : (Gs.either a b n c).toW = .tup [.str "either", a.toW, b.toW, .int n, cW c] := rfl
      rw [e]
      walk_at "pv"
      refine sne1 (by decide) ?_
      walk_at "pv"
      exact ⟨a, b, n, c, s, e.symm, rfl, gok, ok, hd, hw, _, Sub.refl _, q⟩
  · exact h.elim
theorem pow64 {len : Nat} (hl : len ≤ 6) : 2 ^ len ≤ 64 ∧ 1 ≤ 2 ^ len := ⟨Nat.le_trans (Nat.pow_le_pow_right (by decide) hl) (by decide), Nat.one_le_two_pow⟩
theorem cells_small {g : Gs} (h : g.Ok) : g.cells ≤ 64 ∧ ((∀ w, g ≠ .same w) → 1 ≤ g.cells) := by
  cases g with
  | same w => exact ⟨Nat.zero_le _, fun z => absurd rfl (z w)⟩
  | table n c => exact ⟨by show n ≤ 64; have := h.2.1; omega, fun _ => h.1⟩
  | mixed n len c => exact ⟨by show n ≤ 64; have := h.2.1; omega, fun _ => h.1⟩
  | joined n len c =>
    have b := pow64 h.2.2.1
    exact ⟨h.2.2.2.1, fun _ => Nat.mul_le_mul h.1 b.2⟩
  | own n len c =>
    have b := pow64 h.2.2.1
    exact ⟨by show 2 ^ len ≤ 64; omega, fun _ => b.2⟩
  | either a b n c => exact ⟨by show n ≤ 64; have := h.2.2.2.1; omega, fun _ => h.2.2.1⟩
def sp_cells_alone : PSp := fun ws M Q _ => match ws with
  | [gw] => ∃ g : Gs, gw = g.toW ∧ g.Ok ∧ Q (.int g.cells) M
  | _ => False
theorem rd_cells_alone (ws M Q E) (h : sp_cells_alone ws M Q E) : t_p_cells_alone (wEnd Q) (wStart ["guesser"] ws) M := by
  unfold sp_cells_alone at h
  split at h
  · obtain ⟨g, rfl, gok, q⟩ := h
    rw [wst1]
    unfold t_p_cells_alone
    have pe : ∀ len : Nat, ((2 : Int) ^ len) = ((2 ^ len : Nat) : Int) := fun len => by rw [Int.natCast_pow]; rfl
    cases g with
    | same w =>
      unfold Gs.toW
      walk_at "pv"
      exact ⟨_, Sub.refl _, q⟩
    | table n c =>
      unfold Gs.toW
      walk_at "pv"
      refine sne1 (by decide) ?_
      walk_at "pv"
      refine sne1 (by decide) ?_
      walk_at "pv"
      refine sne1 (by decide) ?_
      walk_at "pv"
      refine sne1 (by decide) ?_
      walk_at "pv"
      exact ⟨_, Sub.refl _, q⟩
    | mixed n len c =>
      unfold Gs.toW
      walk_at "pv"
      refine sne1 (by decide) ?_
      walk_at "pv"
      refine sne1 (by decide) ?_
      walk_at "pv"
      refine sne1 (by decide) ?_
      walk_at "pv"
      refine sne1 (by decide) ?_
      walk_at "pv"
      exact ⟨_, Sub.refl _, q⟩
    | joined n len c =>
      have h1 := gok.1
      have h2 := gok.2.1
      have h3 := gok.2.2.1
      unfold Gs.toW
      walk_at "pv"
      refine sne1 (by decide) ?_
      walk_at "pv"
      refine shl_go ⟨by omega, by omega, by omega⟩ ?_
      rw [Int.toNat_natCast, pe, ← Int.natCast_mul]
      exact ⟨_, Sub.refl _, q⟩
    | own n len c =>
      have h3 := gok.2.2.1
      unfold Gs.toW
      walk_at "pv"
      refine sne1 (by decide) ?_
      walk_at "pv"
      refine sne1 (by decide) ?_
      walk_at "pv"
      refine shl_go ⟨by omega, by omega, by omega⟩ ?_
      rw [Int.toNat_natCast, pe, Int.one_mul]
      exact ⟨_, Sub.refl _, q⟩
    | either a b n c =>
      unfold Gs.toW
      walk_at "pv"
      refine sne1 (by decide) ?_
      walk_at "pv"
      refine sne1 (by decide) ?_
      walk_at "pv"
      refine sne1 (by decide) ?_
      walk_at "pv"
      exact ⟨_, Sub.refl _, q⟩
  · exact h.elim
end PV
set_option maxHeartbeats 4000000
namespace PV
open PySem PySem.Spec PyProof.Rows L2
local macro_rules | `(tactic| walk_at "pv") => `(tactic| try simp only [↓s_seq, ↓s_next, ↓s_ret, ↓s_retN, ↓s_drop, ↓s_set, ↓s_ifS, ↓s_asg, ↓s_gname, ↓s_gnil, ↓s_gcons, ↓s_gtup, tg1_t, ↓s_gsub, ↓s_par, par2_e, ↓s_aug, ↓s_var, ov_some, ↓s_c, ↓s_op, ↓s_un, ↓s_B, ↓s_chain, ↓s_and, ↓s_or, ↓s_not, ↓s_andV, ↓s_orV, ↓s_notV, ↓s_if, ↓s_nil, ↓s_cons, ↓s_tup, ↓s_lst, ↓s_call, ↓s_fn, ↓s_isi, ↓s_mt, ↓s_mt0, ↓s_sl, ↓s_part, ↓s_nopart, ↓s_newK, ↓s_newN, ↓s_yes, wWipe, ↓s_for, ↓s_seqI, ↓s_rng1, ↓s_rng2, ↓s_lc,
  brn_t, brn_f, gt_some, onB_b, itS_tup, itS_cl, itS_ref, rgO_i, rgT_i, prt_i, mtS_r, mtZ_r,
  isQ_int_non, isQ_int_bl, isQ_int_int, isQ_int_str, isQ_int_tup, isQ_int_l, isQ_int_k, isQ_bool_non, isQ_bool_bl, isQ_bool_int, isQ_bool_str, isQ_bool_tup, isQ_bool_l, isQ_bool_k, isQ_str_non, isQ_str_bl, isQ_str_int, isQ_str_str, isQ_str_tup, isQ_str_l, isQ_str_k, isQ_tuple_non, isQ_tuple_bl, isQ_tuple_int, isQ_tuple_str, isQ_tuple_tup, isQ_tuple_l, isQ_tuple_k, isQ_list_non, isQ_list_bl, isQ_list_int, isQ_list_str, isQ_list_tup, isQ_list_l, isQ_list_k, isQ_dict_non, isQ_dict_bl, isQ_dict_int, isQ_dict_str, isQ_dict_tup, isQ_dict_l, isQ_dict_k,
  add_i, add_s, add_t, add_l, addO_l, sub_i, mul_i, mul_t, mul_l, mulO_l, lt_i, le_i, gt_i, ge_i, is_n, isnot_n, is_b, is_bf, isnot_b, isnot_bf, eq_i, eq_s, eq_b, eq_t, eq_l, eqO_l, eqO_ll, ne_i, ne_s, ne_b, ne_t, ne_l, neO_l, neO_ll, ix_t, ix_c, ix_r, ixO_l, ixO_k, ixO_lk, ixO_n, ixO_ln, in_t, in_r, nin_t, nin_r, inO_l, inO_k, inO_lk, inO_n, inO_ln, wkey_i, wkey_s, sl_t, sl_c, sl_r, slO_l, len_t, len_c, len_s, len_r, lenO_l, abs_i, max_i, min_i, int_i, int_b, tup_t, tup_r, tuO_l, lst_t, lst_c, lst_r, lsO_l, set_r, seO_l, seO_k, seO_n, app_r, apO_l, ext_r, exO_l, pop_z, pop_i, poZ_l, poO_l, neg_i,
  ↓s_dispK, dkS_i, dkS_s, dkF_r, iadd_i, iadd_s, r2I_i, wst1, wst2, wst3, wst4, wst5, obOf, isN, rdl_l, put_same, put_put, Option.isSome_some, true_and, and_true, decide_true, decide_false, Option.bind_some, atI_0, atI_1, atI_2, atI_3, atI_4, atI_m1, atI_m2, atI_m3, atI_m4, atI_m5, cut_1, List.map_cons, List.map_nil, List.cons_append, List.nil_append, List.getElem?_cons_zero, List.getElem?_cons_succ, List.length_cons, List.length_nil, List.length_map, List.isEmpty_cons, List.isEmpty_nil, List.set_cons_zero, List.set_cons_succ, List.replicate, Nat.reduceAdd, Nat.reduceSub, Nat.reduceLeDiff, Int.reduceNeg, le_line, lt_line, Bool.not_true, Bool.not_false])
local macro_rules | `(tactic| walk_at "pvh") => `(tactic| try simp only [↓s_seq, ↓s_next, ↓s_ret, ↓s_retN, ↓s_drop, ↓s_set, ↓s_ifS, ↓s_asg, ↓s_gname, ↓s_gnil, ↓s_gcons, ↓s_gtup, tg1_t, ↓s_gsub, ↓s_par, par2_e, ↓s_aug, ↓s_var, ov_some, ↓s_c, ↓s_op, ↓s_un, ↓s_B, ↓s_chain, ↓s_and, ↓s_or, ↓s_not, ↓s_andV, ↓s_orV, ↓s_notV, ↓s_if, ↓s_nil, ↓s_cons, ↓s_tup, ↓s_lst, ↓s_call, ↓s_fn, ↓s_isi, ↓s_mt, ↓s_mt0, ↓s_sl, ↓s_part, ↓s_nopart, ↓s_newK, ↓s_newN, ↓s_yes, wWipe, ↓s_for, ↓s_seqI, ↓s_rng1, ↓s_rng2, ↓s_lc,
  brn_t, brn_f, gt_some, onB_b, itS_tup, itS_cl, itS_ref, rgO_i, rgT_i, prt_i, mtS_r, mtZ_r,
  isQ_int_non, isQ_int_bl, isQ_int_int, isQ_int_str, isQ_int_tup, isQ_int_l, isQ_int_k, isQ_bool_non, isQ_bool_bl, isQ_bool_int, isQ_bool_str, isQ_bool_tup, isQ_bool_l, isQ_bool_k, isQ_str_non, isQ_str_bl, isQ_str_int, isQ_str_str, isQ_str_tup, isQ_str_l, isQ_str_k, isQ_tuple_non, isQ_tuple_bl, isQ_tuple_int, isQ_tuple_str, isQ_tuple_tup, isQ_tuple_l, isQ_tuple_k, isQ_list_non, isQ_list_bl, isQ_list_int, isQ_list_str, isQ_list_tup, isQ_list_l, isQ_list_k, isQ_dict_non, isQ_dict_bl, isQ_dict_int, isQ_dict_str, isQ_dict_tup, isQ_dict_l, isQ_dict_k,
  add_i, add_s, add_t, add_l, addO_l, sub_i, mul_i, mul_t, mul_l, mulO_l, lt_i, le_i, gt_i, ge_i, is_n, isnot_n, is_b, is_bf, isnot_b, isnot_bf, eq_i, eq_s, eq_b, eq_t, eq_l, eqO_l, eqO_ll, ne_i, ne_s, ne_b, ne_t, ne_l, neO_l, neO_ll, ix_t, ix_c, ix_r, ixO_l, ixO_k, ixO_lk, ixO_n, ixO_ln, in_t, in_r, nin_t, nin_r, inO_l, inO_k, inO_lk, inO_n, inO_ln, wkey_i, wkey_s, sl_t, sl_c, sl_r, slO_l, len_t, len_c, len_s, len_r, lenO_l, abs_i, max_i, min_i, int_i, int_b, tup_t, tup_r, tuO_l, lst_t, lst_c, lst_r, lsO_l, set_r, seO_l, seO_k, seO_n, app_r, apO_l, ext_r, exO_l, pop_z, pop_i, poZ_l, poO_l, neg_i,
  ↓s_dispK, dkS_i, dkS_s, dkF_r, iadd_i, iadd_s, r2I_i, wst1, wst2, wst3, wst4, wst5, obOf, isN, rdl_l, put_same, put_put, Option.isSome_some, true_and, and_true, decide_true, decide_false, Option.bind_some, atI_0, atI_1, atI_2, atI_3, atI_4, atI_m1, atI_m2, atI_m3, atI_m4, atI_m5, cut_1, List.map_cons, List.map_nil, List.cons_append, List.nil_append, List.getElem?_cons_zero, List.getElem?_cons_succ, List.length_cons, List.length_nil, List.length_map, List.isEmpty_cons, List.isEmpty_nil, List.set_cons_zero, List.set_cons_succ, List.replicate, Nat.reduceAdd, Nat.reduceSub, Nat.reduceLeDiff, Int.reduceNeg, le_line, lt_line, Bool.not_true, Bool.not_false, put_ne1, put_ne2, *])
def sp_first_state (d : Nat) : PSp := fun ws M Q _ => match ws with
  | [gw] => ∃ g : Gs, gw = g.toW ∧ g.Ok ∧ g.depth < d ∧ Q (firstG g).toW M
  | _ => False
theorem zeros_W {n : Nat} : W.tup ((List.replicate n (0 : Int)).map W.int) = iT (zeros n) := rfl
theorem rd_first_state (d : Nat) (ws M Q E) (h : sp_first_state (d + 1) ws M Q E) : t_p_first_state sp_cells_alone (sp_first_state d) (wEnd Q) (wStart ["guesser", "cells"] ws) M := by
  unfold sp_first_state at h
  split at h
  · obtain ⟨g, rfl, gok, hd, q⟩ := h
    rw [wst1]
    unfold t_p_first_state
    have cs := (cells_small gok).1
    walk_at "pv"
    refine ⟨g, rfl, gok, ?_⟩
    walk_at "pv"
    refine mulT_0 (by omega) ?_
    walk_at "pv"
    rw [show W.tup (List.map W.int (List.replicate g.cells 0)) = iT (zeros g.cells) from rfl]
    cases g with
    | same w =>
      have e : (Gs.same w).toW = .tup [.str "same", .int w] := rfl
      rw [e]
      walk_at "pv"
      refine sne1 (by decide) ?_
      walk_at "pv"
      refine ⟨by decide, brn_i (fun z => absurd z (by decide)) (fun _ => ?_)⟩
      walk_at "pv"
      refine sne1 (by decide) ?_
      walk_at "pv"
      exact ⟨_, Sub.refl _, q⟩
    | table n c =>
      have e : (Gs.table n c).toW = .tup [.str "table", .int n, cW c] := rfl
      rw [e]
      walk_at "pv"
      refine sne1 (by decide) ?_
      walk_at "pv"
      refine ⟨by decide, brn_i (fun z => absurd z (by decide)) (fun _ => ?_)⟩
      walk_at "pv"
      refine sne1 (by decide) ?_
      walk_at "pv"
      exact ⟨_, Sub.refl _, q⟩
    | mixed n len c =>
      have e : (Gs.mixed n len c).toW = .tup [.str "mixed", .int n, .int len, cW c] := rfl
      rw [e]
      walk_at "pv"
      refine sne1 (by decide) ?_
      walk_at "pv"
      refine ⟨by decide, brn_i (fun _ => ?_) (fun z => absurd z (by decide))⟩
      walk_at "pv"
      exact ⟨_, Sub.refl _, q⟩
    | joined n len c =>
      have e : (Gs.joined n len c).toW = .tup [.str "joined", .int n, .int len, cW c] := rfl
      rw [e]
      walk_at "pv"
      refine sne1 (by decide) ?_
      walk_at "pv"
      refine ⟨by decide, brn_i (fun _ => ?_) (fun z => absurd z (by decide))⟩
      walk_at "pv"
      exact ⟨_, Sub.refl _, q⟩
    | own n len c =>
      have e : (Gs.own n len c).toW = .tup [.str "own", .int n, .int len, cW c] := rfl
      rw [e]
      have h2 := gok.2.1
      walk_at "pv"
      refine sne1 (by decide) ?_
      walk_at "pv"
      refine ⟨by decide, brn_i (fun z => absurd z (by decide)) (fun _ => ?_)⟩
      walk_at "pv"
      refine mulT_0 (by omega) ?_
      walk_at "pv"
      exact ⟨_, Sub.refl _, q⟩
    | either a b n c =>
      have e : (Gs.either a b n c).toW = .tup [.str "either", a.toW, b.toW, .int n, cW c] := rfl
      have dp : max a.depth b.depth + 1 < d + 1 := hd
      rw [e]
      walk_at "pv"
      refine ⟨a, rfl, gok.1, by omega, ?_⟩
      walk_at "pv"
      refine ⟨b, rfl, gok.2.1, by omega, ?_⟩
      walk_at "pv"
      exact ⟨_, Sub.refl _, q⟩
  · exact h.elim
theorem vac_guess (ws M Q E) (h : sp_guess 0 ws M Q E) : False := by
  unfold sp_guess at h
  split at h
  · obtain ⟨g, s, _, _, _, _, hd, _⟩ := h; omega
  · exact h
theorem vac_learned (ws M Q E) (h : sp_learned 0 ws M Q E) : False := by
  unfold sp_learned at h
  split at h
  · obtain ⟨g, s, _, _, _, _, hd, _⟩ := h; omega
  · exact h
theorem vac_first_state (ws M Q E) (h : sp_first_state 0 ws M Q E) : False := by
  unfold sp_first_state at h
  split at h
  · obtain ⟨g, _, _, hd, _⟩ := h; omega
  · exact h
end PV
set_option maxHeartbeats 4000000
/-! guessers: states stay states -/
namespace PV
open PySem PySem.Spec PyProof.Rows L2
theorem inR_set {n k : Nat} {xs : List Int} {i : Nat} {v : Int} (h : inR n k xs) (hv : 0 ≤ v ∧ v < k) : inR n k (xs.set i v) :=
  ⟨by rw [List.length_set]; exact h.1, fun x hx => by
    rcases List.mem_or_eq_of_mem_set hx with h1 | h1
    · exact h.2 x h1
    · rw [h1]; exact hv⟩
theorem inR_zeros {n k : Nat} (hk : 1 ≤ k) : inR n k (zeros n) := ⟨by unfold zeros; simp, fun x hx => by
  unfold zeros at hx
  rw [List.eq_of_mem_replicate hx]; omega⟩
theorem more_ok {h way : Int} {len : Nat} : 0 ≤ moreG h len way ∧ moreG h len way < ((2 ^ len : Nat) : Int) := by
  have p : (0 : Int) < 2 ^ len := Int.pow_pos (by decide)
  unfold moreG
  exact ⟨Int.emod_nonneg _ (by omega), by rw [Int.natCast_pow]; exact Int.emod_lt_of_pos _ p⟩
theorem cellOk_pos {k : Nat} {c : Cell} (h : CellOk k c) : 1 ≤ c.1.length := by rw [h.l1]; exact h.pos
theorem first_ok : ∀ {g : Gs}, g.Ok → StOf g (firstG g)
  | .same w, h => trivial
  | .table n c, h => by obtain ⟨_, _, k, _, hc⟩ := h; exact inR_zeros (cellOk_pos hc)
  | .mixed n len c, h => by
    obtain ⟨_, _, hl, k, _, hc⟩ := h
    exact ⟨⟨Int.le_refl 0, Int.pow_pos (by decide)⟩, inR_zeros (cellOk_pos hc)⟩
  | .joined n len c, h => by
    obtain ⟨_, _, hl, _, k, _, hc⟩ := h
    exact ⟨⟨Int.le_refl 0, Int.pow_pos (by decide)⟩, inR_zeros (cellOk_pos hc)⟩
  | .own n len c, h => by
    obtain ⟨_, _, hl, k, _, hc⟩ := h
    exact ⟨inR_zeros Nat.one_le_two_pow, inR_zeros (cellOk_pos hc)⟩
  | .either a b n c, h => by
    obtain ⟨ha, hb, _, _, k, _, hc⟩ := h
    exact ⟨first_ok ha, first_ok hb, inR_zeros (cellOk_pos hc)⟩
theorem behind_ok {g : Gs} {s : St} {p way : Int} (h : g.Ok) (ok : StOf g s) (ns : ∀ w, g ≠ .same w) : inR (cellsG s).length g.cell.1.length (behindG g s p way) := by
  obtain ⟨k, _, hc⟩ := Gs.cellOk h ns
  have sp := spot_ok (p := p) h ok ns
  have cl := cells_ok ok ns _ (ga_mem sp.1 sp.2)
  have co := cells_ok ok ns
  unfold behindG
  refine inR_set ⟨rfl, co⟩ ?_
  rw [hc.l1] at cl ⊢
  exact nextC_ok hc cl.1 cl.2
theorem learn_ok : ∀ {g : Gs} {s : St} {p way : Int}, g.Ok → StOf g s → StOf g (learnG g s p way)
  | .same w, s, p, way, h, ok => ok
  | .table n c, .row st, p, way, h, ok => by
    have b := behind_ok (p := p) (way := way) h ok (fun w z => nomatch z)
    rw [show (cellsG (.row st)).length = n from ok.1] at b
    exact b
  | .mixed n len c, .hist h0 st, p, way, h, ok => by
    have b := behind_ok (p := p) (way := way) h ok (fun w z => nomatch z)
    rw [show (cellsG (.hist h0 st)).length = n from ok.2.1] at b
    have m := more_ok (h := h0) (way := way) (len := len)
    rw [Int.natCast_pow] at m
    exact ⟨m, b⟩
  | .joined n len c, .hist h0 st, p, way, h, ok => by
    have b := behind_ok (p := p) (way := way) h ok (fun w z => nomatch z)
    rw [show (cellsG (.hist h0 st)).length = n * 2 ^ len from ok.2.1] at b
    have m := more_ok (h := h0) (way := way) (len := len)
    rw [Int.natCast_pow] at m
    exact ⟨m, b⟩
  | .own n len c, .rows r st, p, way, h, ok => by
    have b := behind_ok (p := p) (way := way) h ok (fun w z => nomatch z)
    rw [show (cellsG (.rows r st)).length = 2 ^ len from ok.2.1] at b
    exact ⟨inR_set ok.1 more_ok, b⟩
  | .either a c0 n c, .two s t st, p, way, h, ok => by
    refine ⟨learn_ok h.1 ok.1, learn_ok h.2.1 ok.2.1, ?_⟩
    split
    · exact ok.2.2
    · have b := behind_ok (p := p) (way := b2i (decide (guessG c0 t p = way))) h ok (fun w z => nomatch z)
      rw [show (cellsG (.two s t st)).length = n from ok.2.2.1] at b
      exact b
  | .table n c, .nil, p, way, h, ok => ok.elim
  | .table n c, .hist _ _, p, way, h, ok => ok.elim
  | .table n c, .rows _ _, p, way, h, ok => ok.elim
  | .table n c, .two _ _ _, p, way, h, ok => ok.elim
  | .mixed n _ c, .nil, p, way, h, ok => ok.elim
  | .mixed n _ c, .row _, p, way, h, ok => ok.elim
  | .mixed n _ c, .rows _ _, p, way, h, ok => ok.elim
  | .mixed n _ c, .two _ _ _, p, way, h, ok => ok.elim
  | .joined n _ c, .nil, p, way, h, ok => ok.elim
  | .joined n _ c, .row _, p, way, h, ok => ok.elim
  | .joined n _ c, .rows _ _, p, way, h, ok => ok.elim
  | .joined n _ c, .two _ _ _, p, way, h, ok => ok.elim
  | .own n _ c, .nil, p, way, h, ok => ok.elim
  | .own n _ c, .row _, p, way, h, ok => ok.elim
  | .own n _ c, .hist _ _, p, way, h, ok => ok.elim
  | .own n _ c, .two _ _ _, p, way, h, ok => ok.elim
  | .either _ _ n c, .nil, p, way, h, ok => ok.elim
  | .either _ _ n c, .row _, p, way, h, ok => ok.elim
  | .either _ _ n c, .hist _ _, p, way, h, ok => ok.elim
  | .either _ _ n c, .rows _ _, p, way, h, ok => ok.elim
/-! runs -/
abbrev Ev := Int × Int
def evW (e : Ev) : W := .tup [.int e.1, .int e.2]
def stepG (g : Gs) (x : Int × St) (e : Ev) : Int × St := (x.1 + b2i (!decide (guessG g x.2 e.1 = e.2)), learnG g x.2 e.1 e.2)
def passG (g : Gs) (run : List Ev) (x : Int × St) : Int × St := run.foldl (stepG g) x
def WaysOk (run : List Ev) : Prop := ∀ e ∈ run, e.2 = 0 ∨ e.2 = 1
theorem passG_take {g : Gs} {run : List Ev} {x : Int × St} {i : Nat} {e : Ev} (h : run[i]? = some e) : passG g (run.take (i + 1)) x = stepG g (passG g (run.take i) x) e := by
  unfold passG
  rw [List.take_succ, h, List.foldl_append]; rfl
theorem passG_ok {g : Gs} (h : g.Ok) : ∀ (run : List Ev) (x : Int × St), StOf g x.2 → StOf g (passG g run x).2
  | [], _, ok => ok
  | e :: run, x, ok => passG_ok h run _ (learn_ok h ok)
end PV
set_option maxHeartbeats 4000000
namespace PV
open PySem PySem.Spec PyProof.Rows L2
local macro_rules | `(tactic| walk_at "pv") => `(tactic| try simp only [↓s_seq, ↓s_next, ↓s_ret, ↓s_retN, ↓s_drop, ↓s_set, ↓s_ifS, ↓s_asg, ↓s_gname, ↓s_gnil, ↓s_gcons, ↓s_gtup, tg1_t, ↓s_gsub, ↓s_par, par2_e, ↓s_aug, ↓s_var, ov_some, ↓s_c, ↓s_op, ↓s_un, ↓s_B, ↓s_chain, ↓s_and, ↓s_or, ↓s_not, ↓s_andV, ↓s_orV, ↓s_notV, ↓s_if, ↓s_nil, ↓s_cons, ↓s_tup, ↓s_lst, ↓s_call, ↓s_fn, ↓s_isi, ↓s_mt, ↓s_mt0, ↓s_sl, ↓s_part, ↓s_nopart, ↓s_newK, ↓s_newN, ↓s_yes, wWipe, ↓s_for, ↓s_seqI, ↓s_rng1, ↓s_rng2, ↓s_lc,
  brn_t, brn_f, gt_some, onB_b, itS_tup, itS_cl, itS_ref, rgO_i, rgT_i, prt_i, mtS_r, mtZ_r,
  isQ_int_non, isQ_int_bl, isQ_int_int, isQ_int_str, isQ_int_tup, isQ_int_l, isQ_int_k, isQ_bool_non, isQ_bool_bl, isQ_bool_int, isQ_bool_str, isQ_bool_tup, isQ_bool_l, isQ_bool_k, isQ_str_non, isQ_str_bl, isQ_str_int, isQ_str_str, isQ_str_tup, isQ_str_l, isQ_str_k, isQ_tuple_non, isQ_tuple_bl, isQ_tuple_int, isQ_tuple_str, isQ_tuple_tup, isQ_tuple_l, isQ_tuple_k, isQ_list_non, isQ_list_bl, isQ_list_int, isQ_list_str, isQ_list_tup, isQ_list_l, isQ_list_k, isQ_dict_non, isQ_dict_bl, isQ_dict_int, isQ_dict_str, isQ_dict_tup, isQ_dict_l, isQ_dict_k,
  add_i, add_s, add_t, add_l, addO_l, sub_i, mul_i, mul_t, mul_l, mulO_l, lt_i, le_i, gt_i, ge_i, is_n, isnot_n, is_b, is_bf, isnot_b, isnot_bf, eq_i, eq_s, eq_b, eq_t, eq_l, eqO_l, eqO_ll, ne_i, ne_s, ne_b, ne_t, ne_l, neO_l, neO_ll, ix_t, ix_c, ix_r, ixO_l, ixO_k, ixO_lk, ixO_n, ixO_ln, in_t, in_r, nin_t, nin_r, inO_l, inO_k, inO_lk, inO_n, inO_ln, wkey_i, wkey_s, sl_t, sl_c, sl_r, slO_l, len_t, len_c, len_s, len_r, lenO_l, abs_i, max_i, min_i, int_i, int_b, tup_t, tup_r, tuO_l, lst_t, lst_c, lst_r, lsO_l, set_r, seO_l, seO_k, seO_n, app_r, apO_l, ext_r, exO_l, pop_z, pop_i, poZ_l, poO_l, neg_i,
  ↓s_dispK, dkS_i, dkS_s, dkF_r, iadd_i, iadd_s, r2I_i, wst1, wst2, wst3, wst4, wst5, obOf, isN, rdl_l, put_same, put_put, Option.isSome_some, true_and, and_true, decide_true, decide_false, Option.bind_some, atI_0, atI_1, atI_2, atI_3, atI_4, atI_m1, atI_m2, atI_m3, atI_m4, atI_m5, cut_1, List.map_cons, List.map_nil, List.cons_append, List.nil_append, List.getElem?_cons_zero, List.getElem?_cons_succ, List.length_cons, List.length_nil, List.length_map, List.isEmpty_cons, List.isEmpty_nil, List.set_cons_zero, List.set_cons_succ, List.replicate, Nat.reduceAdd, Nat.reduceSub, Nat.reduceLeDiff, Int.reduceNeg, le_line, lt_line, Bool.not_true, Bool.not_false])
local macro_rules | `(tactic| walk_at "pvh") => `(tactic| try simp only [↓s_seq, ↓s_next, ↓s_ret, ↓s_retN, ↓s_drop, ↓s_set, ↓s_ifS, ↓s_asg, ↓s_gname, ↓s_gnil, ↓s_gcons, ↓s_gtup, tg1_t, ↓s_gsub, ↓s_par, par2_e, ↓s_aug, ↓s_var, ov_some, ↓s_c, ↓s_op, ↓s_un, ↓s_B, ↓s_chain, ↓s_and, ↓s_or, ↓s_not, ↓s_andV, ↓s_orV, ↓s_notV, ↓s_if, ↓s_nil, ↓s_cons, ↓s_tup, ↓s_lst, ↓s_call, ↓s_fn, ↓s_isi, ↓s_mt, ↓s_mt0, ↓s_sl, ↓s_part, ↓s_nopart, ↓s_newK, ↓s_newN, ↓s_yes, wWipe, ↓s_for, ↓s_seqI, ↓s_rng1, ↓s_rng2, ↓s_lc,
  brn_t, brn_f, gt_some, onB_b, itS_tup, itS_cl, itS_ref, rgO_i, rgT_i, prt_i, mtS_r, mtZ_r,
  isQ_int_non, isQ_int_bl, isQ_int_int, isQ_int_str, isQ_int_tup, isQ_int_l, isQ_int_k, isQ_bool_non, isQ_bool_bl, isQ_bool_int, isQ_bool_str, isQ_bool_tup, isQ_bool_l, isQ_bool_k, isQ_str_non, isQ_str_bl, isQ_str_int, isQ_str_str, isQ_str_tup, isQ_str_l, isQ_str_k, isQ_tuple_non, isQ_tuple_bl, isQ_tuple_int, isQ_tuple_str, isQ_tuple_tup, isQ_tuple_l, isQ_tuple_k, isQ_list_non, isQ_list_bl, isQ_list_int, isQ_list_str, isQ_list_tup, isQ_list_l, isQ_list_k, isQ_dict_non, isQ_dict_bl, isQ_dict_int, isQ_dict_str, isQ_dict_tup, isQ_dict_l, isQ_dict_k,
  add_i, add_s, add_t, add_l, addO_l, sub_i, mul_i, mul_t, mul_l, mulO_l, lt_i, le_i, gt_i, ge_i, is_n, isnot_n, is_b, is_bf, isnot_b, isnot_bf, eq_i, eq_s, eq_b, eq_t, eq_l, eqO_l, eqO_ll, ne_i, ne_s, ne_b, ne_t, ne_l, neO_l, neO_ll, ix_t, ix_c, ix_r, ixO_l, ixO_k, ixO_lk, ixO_n, ixO_ln, in_t, in_r, nin_t, nin_r, inO_l, inO_k, inO_lk, inO_n, inO_ln, wkey_i, wkey_s, sl_t, sl_c, sl_r, slO_l, len_t, len_c, len_s, len_r, lenO_l, abs_i, max_i, min_i, int_i, int_b, tup_t, tup_r, tuO_l, lst_t, lst_c, lst_r, lsO_l, set_r, seO_l, seO_k, seO_n, app_r, apO_l, ext_r, exO_l, pop_z, pop_i, poZ_l, poO_l, neg_i,
  ↓s_dispK, dkS_i, dkS_s, dkF_r, iadd_i, iadd_s, r2I_i, wst1, wst2, wst3, wst4, wst5, obOf, isN, rdl_l, put_same, put_put, Option.isSome_some, true_and, and_true, decide_true, decide_false, Option.bind_some, atI_0, atI_1, atI_2, atI_3, atI_4, atI_m1, atI_m2, atI_m3, atI_m4, atI_m5, cut_1, List.map_cons, List.map_nil, List.cons_append, List.nil_append, List.getElem?_cons_zero, List.getElem?_cons_succ, List.length_cons, List.length_nil, List.length_map, List.isEmpty_cons, List.isEmpty_nil, List.set_cons_zero, List.set_cons_succ, List.replicate, Nat.reduceAdd, Nat.reduceSub, Nat.reduceLeDiff, Int.reduceNeg, le_line, lt_line, Bool.not_true, Bool.not_false, put_ne1, put_ne2, *])
def sp_passed : PSp := fun ws M Q _ => match ws with
  | [gw, sw, .ref a] => ∃ (g : Gs) (s : St) (run : List Ev), gw = g.toW ∧ sw = s.toW ∧ g.Ok ∧ g.depth < 4 ∧ StOf g s ∧ M a = some (.lst (run.map evW)) ∧ WaysOk run ∧ Q (.tup [.int (passG g run (0, s)).1, (passG g run (0, s)).2.toW]) M
  | _ => False
theorem rd_passed (ws M Q E) (h : sp_passed ws M Q E) : t_p_passed (sp_guess 4) (sp_learned 4) (wEnd Q) (wStart ["guesser", "state", "run", "misses", "place", "way"] ws) M := by
  unfold sp_passed at h
  split at h
  · rename_i gw sw a
    obtain ⟨g, s, run, rfl, rfl, gok, gd, ok, e, hw, q⟩ := h
    rw [wst3]
    unfold t_p_passed
    walk_at "pv"
    rw [e]
    walk_at "pv"
    refine for_l (a := a) (ws := run.map evW) (fun i ρ M' => M' = M ∧ ∃ x y, ρ = [some g.toW, some (passG g (run.take i) (0, s)).2.toW, some (.ref a), some (.int (passG g (run.take i) (0, s)).1), x, y]) ⟨rfl, _, _, rfl⟩ (fun i ρ M' h => by rw [h.1]; exact e) ?_ ?_
    · rintro i w ρ M' hi ⟨rfl, x, y, rfl⟩
      rw [List.getElem?_map] at hi
      obtain ⟨ev, hi2, rfl⟩ := Option.map_eq_some_iff.mp hi
      clear hi
      have ok2 := passG_ok gok (run.take i) (0, s) ok
      have nx := passG_take (g := g) (x := (0, s)) hi2
      have hv := hw ev (List.mem_of_getElem? hi2)
      generalize passG g (run.take i) (0, s) = z at ok2 nx
      obtain ⟨m, s2⟩ := z
      obtain ⟨p, way⟩ := ev
      unfold evW
      walk_at "pv"
      refine ⟨g, s2, rfl, rfl, gok, ok2, gd, ?_⟩
      walk_at "pv"
      refine ⟨g, s2, rfl, rfl, gok, ok2, gd, hv, ?_⟩
      walk_at "pv"
      exact ⟨_, Sub.refl _, rfl, _, _, by rw [nx]; rfl⟩
    · rintro ρ M' ⟨rfl, x, y, rfl⟩
      walk_at "pv"
      rw [List.take_length]
      exact ⟨_, Sub.refl _, q⟩
  · exact h.elim
end PV
set_option maxHeartbeats 4000000
namespace PV
open PySem PySem.Spec PyProof.Rows L2
local macro_rules | `(tactic| walk_at "pv") => `(tactic| try simp only [↓s_seq, ↓s_next, ↓s_ret, ↓s_retN, ↓s_drop, ↓s_set, ↓s_ifS, ↓s_asg, ↓s_gname, ↓s_gnil, ↓s_gcons, ↓s_gtup, tg1_t, ↓s_gsub, ↓s_par, par2_e, ↓s_aug, ↓s_var, ov_some, ↓s_c, ↓s_op, ↓s_un, ↓s_B, ↓s_chain, ↓s_and, ↓s_or, ↓s_not, ↓s_andV, ↓s_orV, ↓s_notV, ↓s_if, ↓s_nil, ↓s_cons, ↓s_tup, ↓s_lst, ↓s_call, ↓s_fn, ↓s_isi, ↓s_mt, ↓s_mt0, ↓s_sl, ↓s_part, ↓s_nopart, ↓s_newK, ↓s_newN, ↓s_yes, wWipe, ↓s_for, ↓s_seqI, ↓s_rng1, ↓s_rng2, ↓s_lc,
  brn_t, brn_f, gt_some, onB_b, itS_tup, itS_cl, itS_ref, rgO_i, rgT_i, prt_i, mtS_r, mtZ_r,
  isQ_int_non, isQ_int_bl, isQ_int_int, isQ_int_str, isQ_int_tup, isQ_int_l, isQ_int_k, isQ_bool_non, isQ_bool_bl, isQ_bool_int, isQ_bool_str, isQ_bool_tup, isQ_bool_l, isQ_bool_k, isQ_str_non, isQ_str_bl, isQ_str_int, isQ_str_str, isQ_str_tup, isQ_str_l, isQ_str_k, isQ_tuple_non, isQ_tuple_bl, isQ_tuple_int, isQ_tuple_str, isQ_tuple_tup, isQ_tuple_l, isQ_tuple_k, isQ_list_non, isQ_list_bl, isQ_list_int, isQ_list_str, isQ_list_tup, isQ_list_l, isQ_list_k, isQ_dict_non, isQ_dict_bl, isQ_dict_int, isQ_dict_str, isQ_dict_tup, isQ_dict_l, isQ_dict_k,
  add_i, add_s, add_t, add_l, addO_l, sub_i, mul_i, mul_t, mul_l, mulO_l, lt_i, le_i, gt_i, ge_i, is_n, isnot_n, is_b, is_bf, isnot_b, isnot_bf, eq_i, eq_s, eq_b, eq_t, eq_l, eqO_l, eqO_ll, ne_i, ne_s, ne_b, ne_t, ne_l, neO_l, neO_ll, ix_t, ix_c, ix_r, ixO_l, ixO_k, ixO_lk, ixO_n, ixO_ln, in_t, in_r, nin_t, nin_r, inO_l, inO_k, inO_lk, inO_n, inO_ln, wkey_i, wkey_s, sl_t, sl_c, sl_r, slO_l, len_t, len_c, len_s, len_r, lenO_l, abs_i, max_i, min_i, int_i, int_b, tup_t, tup_r, tuO_l, lst_t, lst_c, lst_r, lsO_l, set_r, seO_l, seO_k, seO_n, app_r, apO_l, ext_r, exO_l, pop_z, pop_i, poZ_l, poO_l, neg_i,
  ↓s_dispK, dkS_i, dkS_s, dkF_r, iadd_i, iadd_s, r2I_i, wst1, wst2, wst3, wst4, wst5, obOf, isN, rdl_l, put_same, put_put, Option.isSome_some, true_and, and_true, decide_true, decide_false, Option.bind_some, atI_0, atI_1, atI_2, atI_3, atI_4, atI_m1, atI_m2, atI_m3, atI_m4, atI_m5, cut_1, List.map_cons, List.map_nil, List.cons_append, List.nil_append, List.getElem?_cons_zero, List.getElem?_cons_succ, List.length_cons, List.length_nil, List.length_map, List.isEmpty_cons, List.isEmpty_nil, List.set_cons_zero, List.set_cons_succ, List.replicate, Nat.reduceAdd, Nat.reduceSub, Nat.reduceLeDiff, Int.reduceNeg, le_line, lt_line, Bool.not_true, Bool.not_false])
local macro_rules | `(tactic| walk_at "pvh") => `(tactic| try simp only [↓s_seq, ↓s_next, ↓s_ret, ↓s_retN, ↓s_drop, ↓s_set, ↓s_ifS, ↓s_asg, ↓s_gname, ↓s_gnil, ↓s_gcons, ↓s_gtup, tg1_t, ↓s_gsub, ↓s_par, par2_e, ↓s_aug, ↓s_var, ov_some, ↓s_c, ↓s_op, ↓s_un, ↓s_B, ↓s_chain, ↓s_and, ↓s_or, ↓s_not, ↓s_andV, ↓s_orV, ↓s_notV, ↓s_if, ↓s_nil, ↓s_cons, ↓s_tup, ↓s_lst, ↓s_call, ↓s_fn, ↓s_isi, ↓s_mt, ↓s_mt0, ↓s_sl, ↓s_part, ↓s_nopart, ↓s_newK, ↓s_newN, ↓s_yes, wWipe, ↓s_for, ↓s_seqI, ↓s_rng1, ↓s_rng2, ↓s_lc,
  brn_t, brn_f, gt_some, onB_b, itS_tup, itS_cl, itS_ref, rgO_i, rgT_i, prt_i, mtS_r, mtZ_r,
  isQ_int_non, isQ_int_bl, isQ_int_int, isQ_int_str, isQ_int_tup, isQ_int_l, isQ_int_k, isQ_bool_non, isQ_bool_bl, isQ_bool_int, isQ_bool_str, isQ_bool_tup, isQ_bool_l, isQ_bool_k, isQ_str_non, isQ_str_bl, isQ_str_int, isQ_str_str, isQ_str_tup, isQ_str_l, isQ_str_k, isQ_tuple_non, isQ_tuple_bl, isQ_tuple_int, isQ_tuple_str, isQ_tuple_tup, isQ_tuple_l, isQ_tuple_k, isQ_list_non, isQ_list_bl, isQ_list_int, isQ_list_str, isQ_list_tup, isQ_list_l, isQ_list_k, isQ_dict_non, isQ_dict_bl, isQ_dict_int, isQ_dict_str, isQ_dict_tup, isQ_dict_l, isQ_dict_k,
  add_i, add_s, add_t, add_l, addO_l, sub_i, mul_i, mul_t, mul_l, mulO_l, lt_i, le_i, gt_i, ge_i, is_n, isnot_n, is_b, is_bf, isnot_b, isnot_bf, eq_i, eq_s, eq_b, eq_t, eq_l, eqO_l, eqO_ll, ne_i, ne_s, ne_b, ne_t, ne_l, neO_l, neO_ll, ix_t, ix_c, ix_r, ixO_l, ixO_k, ixO_lk, ixO_n, ixO_ln, in_t, in_r, nin_t, nin_r, inO_l, inO_k, inO_lk, inO_n, inO_ln, wkey_i, wkey_s, sl_t, sl_c, sl_r, slO_l, len_t, len_c, len_s, len_r, lenO_l, abs_i, max_i, min_i, int_i, int_b, tup_t, tup_r, tuO_l, lst_t, lst_c, lst_r, lsO_l, set_r, seO_l, seO_k, seO_n, app_r, apO_l, ext_r, exO_l, pop_z, pop_i, poZ_l, poO_l, neg_i,
  ↓s_dispK, dkS_i, dkS_s, dkF_r, iadd_i, iadd_s, r2I_i, wst1, wst2, wst3, wst4, wst5, obOf, isN, rdl_l, put_same, put_put, Option.isSome_some, true_and, and_true, decide_true, decide_false, Option.bind_some, atI_0, atI_1, atI_2, atI_3, atI_4, atI_m1, atI_m2, atI_m3, atI_m4, atI_m5, cut_1, List.map_cons, List.map_nil, List.cons_append, List.nil_append, List.getElem?_cons_zero, List.getElem?_cons_succ, List.length_cons, List.length_nil, List.length_map, List.isEmpty_cons, List.isEmpty_nil, List.set_cons_zero, List.set_cons_succ, List.replicate, Nat.reduceAdd, Nat.reduceSub, Nat.reduceLeDiff, Int.reduceNeg, le_line, lt_line, Bool.not_true, Bool.not_false, put_ne1, put_ne2, *])
/-! the deck -/
def sp_cell_at : PSp := fun ws M Q _ => match ws with
  | [.cl xs, .int k] => ∃ ns : List Int, xs = ns.map W.int ∧ 0 ≤ k ∧ Q (.int (ns.getD k.toNat 0)) M
  | _ => False
theorem rd_cell_at (ws M Q E) (h : sp_cell_at ws M Q E) : t_l_cell_at (wEnd Q) (wStart ["script", "k"] ws) M := by
  unfold sp_cell_at at h
  split at h
  · rename_i xs k
    obtain ⟨ns, rfl, hk, q⟩ := h
    rw [wst2]
    unfold t_l_cell_at
    walk_at "pv"
    refine brn_dec (fun h => ?_) (fun h => ?_)
    · walk_at "pv"
      refine gt_of (at_ga hk h) ?_
      exact ⟨_, Sub.refl _, q⟩
    · walk_at "pv"
      rw [List.getD_eq_getElem?_getD, List.getElem?_eq_none (by omega)] at q
      exact ⟨_, Sub.refl _, q⟩
  · exact h.elim
abbrev dkO (a b c : Int) : Ob := .lst [.int a, .int b, .int c]
def sp_dtake : PSp := fun ws M Q _ => match ws with
  | [.ref d, .int m] => ∃ a b c : Int, M d = some (dkO a b c) ∧ 0 ≤ c ∧ c < 1000000 ∧ 0 < m ∧ m < 2 ^ 64 ∧ ∀ r a' c', 0 ≤ r → r < m → 0 ≤ c' → c' ≤ c + 1 → Q (.int r) (put M d (dkO a' b c'))
  | _ => False
theorem rd_dtake (ws M Q E) (h : sp_dtake ws M Q E) : t_l_take (wEnd Q) (wStart ["deck", "many", "come", "number"] ws) M := by
  unfold sp_dtake at h
  split at h
  · rename_i d m
    obtain ⟨a, b, c, e, c0, c1, hm, hm2, q⟩ := h
    rw [wst2]
    unfold t_l_take
    have k := Kp.own e
    walk_at "pv"
    rw [k.g0]
    walk_at "pv"
    refine brn_dec (fun h => ?_) (fun h => ?_)
    · walk_at "pv"
      rw [k.g0]
      walk_at "pv"
      refine mod_go hm ?_
      walk_at "pv"
      rw [k.g0]
      walk_at "pv"
      refine div_go hm hm2 ?_
      walk_at "pv"
      rw [k.g0]
      walk_at "pv"
      refine gt_of (w := 0) rfl ?_
      walk_at "pv"
      exact ⟨_, Sub.refl _, q _ _ _ (Int.emod_nonneg _ (by omega)) (Int.emod_lt_of_pos _ hm) c0 (by omega)⟩
    · walk_at "pv"
      rw [k.g0]
      walk_at "pv"
      rw [k.g0]
      walk_at "pv"
      refine gt_of (w := 2) rfl ?_
      walk_at "pv"
      refine mod_any (by decide) fun r1 h1 l1 => ?_
      walk_at "pv"
      refine ⟨.left (by omega) (by omega), ?_⟩
      refine ⟨.left (by omega) (by omega), ?_⟩
      walk_at "pv"
      refine mod_any (by decide) fun r2 h2 l2 => ?_
      walk_at "pv"
      refine ⟨.left (by omega) (by omega), mod_any (by decide) fun r3 h3 l3 => ?_⟩
      walk_at "pv"
      refine ⟨.right (by decide) (by decide), mod_any (by decide) fun r4 h4 l4 => ?_⟩
      walk_at "pv"
      refine div_any ⟨by decide, by decide⟩ fun r5 => ?_
      walk_at "pv"
      exact mod_go hm ⟨_, Sub.refl _, q _ _ _ (Int.emod_nonneg _ (by omega)) (Int.emod_lt_of_pos _ hm) (by omega) (by omega)⟩
  · exact h.elim
theorem Kp.deck_go {x : Option Addr} {fs : List (Addr × Ob)} {M0 M : Me} {d : Addr} {a b c m : Int} {Q : WK} {tg : Tg Q} (k : Kp x ((d, dkO a b c) :: fs) M0 M) (c0 : 0 ≤ c) (c1 : c < 1000000) (hm : 0 < m) (hm2 : m < 2 ^ 64)
    (f : ∀ r a' c' M', 0 ≤ r → r < m → 0 ≤ c' → c' ≤ c + 1 → Kp x ((d, dkO a' b c') :: fs) M0 M' → Q (.int r) M') : lz (spc sp_dtake [.ref d, .int m] M) Q tg :=
  ⟨a, b, c, k.g0, c0, c1, hm, hm2, fun r a' c' h0 h1 h2 h3 => f r a' c' _ h0 h1 h2 h3 k.set⟩
def sp_deck : PSp := fun ws M Q _ => match ws with
  | [.int _, .int k] => ∀ p (a b : Int) M', M p = none → Sub M M' → M' p = some (dkO a b k) → Q (.ref p) M'
  | _ => False
theorem rd_deck (ws M Q E) (h : sp_deck ws M Q E) : t_l_deck (wEnd Q) (wStart ["cell", "k"] ws) M := by
  unfold sp_deck at h
  split at h
  · rename_i x k
    rw [wst2]
    unfold t_l_deck
    walk_at "pv"
    refine pow_any ⟨by decide, by decide, by decide⟩ fun big => ?_
    walk_at "pv"
    refine brn_dec (fun _ => ?_) (fun _ => ?_)
    · walk_at "pv"
      refine pow_any ⟨by decide, by decide, by decide⟩ fun big => ?_
      walk_at "pv"
      exact fun p hp => ⟨_, Sub.refl _, h p _ _ _ hp (Sub.new hp) put_same⟩
    · walk_at "pv"
      exact fun p hp => ⟨_, Sub.refl _, h p _ _ _ hp (Sub.new hp) put_same⟩
  · exact h.elim
theorem lc_deck {x : Option Addr} {fs : List (Addr × Ob)} {M0 M : Me} {d : Addr} {a b c m many : Int} {g : WG} {te : WE} {vs : List Nat} {ρ : En} {Q : WK} (k : Kp x ((d, dkO a b c) :: fs) M0 M) (c0 : 0 ≤ c) (c1 : c + many < 1000000) (hm : 0 < m) (hm2 : m < 2 ^ 64) (hn : 0 ≤ many) (hn2 : many ≤ 1000)
    (hs : ∀ (w : W) M' (R : WK), lz (spc sp_dtake [.ref d, .int m] M') R .mk → g w (wWipe ρ vs) M' fun ρ2 M2 => te ρ2 M2 R)
    (hd : ∀ (xs : List Int) a' c' q M', xs.length = many.toNat → (∀ x ∈ xs, 0 ≤ x ∧ x < m) → 0 ≤ c' → c' ≤ c + many → Kp x ((q, .lst (xs.map W.int)) :: (d, dkO a' b c') :: fs) M0 M' → Q (.ref q) M') : wLcB (fun _ => some (rngW 0 many)) g wYes te vs ρ M Q := by
  refine lc_c (by rw [rngW_len]; omega) (fun i acc M' => ∃ (xs : List Int) (a' c' : Int), acc = xs.map W.int ∧ xs.length = i ∧ (∀ x ∈ xs, 0 ≤ x ∧ x < m) ∧ 0 ≤ c' ∧ c' ≤ c + i ∧ Kp x ((d, dkO a' b c') :: fs) M0 M') ⟨[], a, c, rfl, rfl, (fun x h => nomatch h), c0, by omega, k⟩ ?_ ?_
  · rintro i acc w M1 hw ⟨xs, a', c', rfl, hl, hx, h0, h1, k⟩
    obtain ⟨rfl, hi⟩ := rngW_get hw
    refine hs _ M1 _ ?_
    refine k.deck_go h0 (by omega) hm hm2 fun r a2 c2 M2 r0 r1 q0 q1 k => ?_
    refine ⟨M2, Sub.refl _, xs ++ [r], a2, c2, map_snoc, by rw [List.length_append, hl]; rfl, fun y hy => ?_, q0, by omega, k⟩
    rcases List.mem_append.mp hy with hy | hy
    · exact hx y hy
    · rw [List.mem_singleton.mp hy]; exact ⟨r0, r1⟩
  · rintro acc M1 ⟨xs, a', c', rfl, hl, hx, h0, h1, k⟩ q hq
    rw [rngW_len] at hl h1
    exact hd xs a' c' q _ (by omega) hx h0 (by omega) (k.new hq)
def sp_dcell : PSp := fun ws M Q _ => match ws with
  | [.ref d, .int most] => ∃ a b c : Int, M d = some (dkO a b c) ∧ 0 ≤ c ∧ c < 900000 ∧ 1 ≤ most ∧ most ≤ 1000 ∧ ∀ (n : Nat) (cell : Cell) a' c', CellOk n cell → n ≤ most → 0 ≤ c' → c' ≤ c + 4000 → Q (cW cell) (put M d (dkO a' b c'))
  | _ => False
theorem rd_dcell (ws M Q E) (h : sp_dcell ws M Q E) : t_l_cell sp_dtake (wEnd Q) (wStart ["deck", "most", "many", "guesses", "straight", "aside", "k"] ws) M := by
  unfold sp_dcell at h
  split at h
  · rename_i d most
    obtain ⟨a, b, c, e, c0, c1, m0, m1, q⟩ := h
    rw [wst2]
    unfold t_l_cell
    have k := Kp.own e
    walk_at "pv"
    refine k.deck_go c0 (by omega) (by omega) (by omega) fun r a1 cc M1 r0 r1 h0 h1 k => ?_
    walk_at "pv"
    refine ⟨rgB_of (by omega) (by omega), lc_deck k h0 (by omega) (m := 2) (by decide) (by decide) (by omega) (by omega) (fun w M' R h => ?_) fun gs a2 c2 q2 M2 l2 hg h2 h3 k => ?_⟩
    · walk_at "pv"
      exact h
    walk_at "pv"
    rw [k.g0]
    have k := k.tail
    walk_at "pv"
    refine ⟨rgB_of (by omega) (by omega), lc_deck k h2 (by omega) (m := 1 + r) (by omega) (by omega) (by omega) (by omega) (fun w M' R h => ?_) fun ss a3 c3 q3 M3 l3 hs h4 h5 k => ?_⟩
    · walk_at "pv"
      exact h
    walk_at "pv"
    rw [k.g0]
    have k := k.tail
    walk_at "pv"
    refine ⟨rgB_of (by omega) (by omega), lc_deck k h4 (by omega) (m := 1 + r) (by omega) (by omega) (by omega) (by omega) (fun w M' R h => ?_) fun as a4 c4 q4 M4 l4 ha h6 h7 k => ?_⟩
    · walk_at "pv"
      exact h
    walk_at "pv"
    rw [k.g0]
    have k := k.tail
    walk_at "pv"
    have hr : ((1 + r).toNat : Int) = 1 + r := by omega
    exact ⟨_, k.back, q (1 + r).toNat (gs, ss, as) a4 c4 ⟨l2, l3, l4, by omega, hg, by rw [hr]; exact hs, by rw [hr]; exact ha⟩ (by omega) h6 (by omega)⟩
  · exact h.elim
end PV
set_option maxHeartbeats 4000000
namespace PV
open PySem PySem.Spec PyProof.Rows L2
local macro_rules | `(tactic| walk_at "pv") => `(tactic| try simp only [↓s_seq, ↓s_next, ↓s_ret, ↓s_retN, ↓s_drop, ↓s_set, ↓s_ifS, ↓s_asg, ↓s_gname, ↓s_gnil, ↓s_gcons, ↓s_gtup, tg1_t, ↓s_gsub, ↓s_par, par2_e, ↓s_aug, ↓s_var, ov_some, ↓s_c, ↓s_op, ↓s_un, ↓s_B, ↓s_chain, ↓s_and, ↓s_or, ↓s_not, ↓s_andV, ↓s_orV, ↓s_notV, ↓s_if, ↓s_nil, ↓s_cons, ↓s_tup, ↓s_lst, ↓s_call, ↓s_fn, ↓s_isi, ↓s_mt, ↓s_mt0, ↓s_sl, ↓s_part, ↓s_nopart, ↓s_newK, ↓s_newN, ↓s_yes, wWipe, ↓s_for, ↓s_seqI, ↓s_rng1, ↓s_rng2, ↓s_lc,
  brn_t, brn_f, gt_some, onB_b, itS_tup, itS_cl, itS_ref, rgO_i, rgT_i, prt_i, mtS_r, mtZ_r,
  isQ_int_non, isQ_int_bl, isQ_int_int, isQ_int_str, isQ_int_tup, isQ_int_l, isQ_int_k, isQ_bool_non, isQ_bool_bl, isQ_bool_int, isQ_bool_str, isQ_bool_tup, isQ_bool_l, isQ_bool_k, isQ_str_non, isQ_str_bl, isQ_str_int, isQ_str_str, isQ_str_tup, isQ_str_l, isQ_str_k, isQ_tuple_non, isQ_tuple_bl, isQ_tuple_int, isQ_tuple_str, isQ_tuple_tup, isQ_tuple_l, isQ_tuple_k, isQ_list_non, isQ_list_bl, isQ_list_int, isQ_list_str, isQ_list_tup, isQ_list_l, isQ_list_k, isQ_dict_non, isQ_dict_bl, isQ_dict_int, isQ_dict_str, isQ_dict_tup, isQ_dict_l, isQ_dict_k,
  add_i, add_s, add_t, add_l, addO_l, sub_i, mul_i, mul_t, mul_l, mulO_l, lt_i, le_i, gt_i, ge_i, is_n, isnot_n, is_b, is_bf, isnot_b, isnot_bf, eq_i, eq_s, eq_b, eq_t, eq_l, eqO_l, eqO_ll, ne_i, ne_s, ne_b, ne_t, ne_l, neO_l, neO_ll, ix_t, ix_c, ix_r, ixO_l, ixO_k, ixO_lk, ixO_n, ixO_ln, in_t, in_r, nin_t, nin_r, inO_l, inO_k, inO_lk, inO_n, inO_ln, wkey_i, wkey_s, sl_t, sl_c, sl_r, slO_l, len_t, len_c, len_s, len_r, lenO_l, abs_i, max_i, min_i, int_i, int_b, tup_t, tup_r, tuO_l, lst_t, lst_c, lst_r, lsO_l, set_r, seO_l, seO_k, seO_n, app_r, apO_l, ext_r, exO_l, pop_z, pop_i, poZ_l, poO_l, neg_i,
  ↓s_dispK, dkS_i, dkS_s, dkF_r, iadd_i, iadd_s, r2I_i, wst1, wst2, wst3, wst4, wst5, obOf, isN, rdl_l, put_same, put_put, Option.isSome_some, true_and, and_true, decide_true, decide_false, Option.bind_some, atI_0, atI_1, atI_2, atI_3, atI_4, atI_m1, atI_m2, atI_m3, atI_m4, atI_m5, cut_1, List.map_cons, List.map_nil, List.cons_append, List.nil_append, List.getElem?_cons_zero, List.getElem?_cons_succ, List.length_cons, List.length_nil, List.length_map, List.isEmpty_cons, List.isEmpty_nil, List.set_cons_zero, List.set_cons_succ, List.replicate, Nat.reduceAdd, Nat.reduceSub, Nat.reduceLeDiff, Int.reduceNeg, le_line, lt_line, Bool.not_true, Bool.not_false])
local macro_rules | `(tactic| walk_at "pvh") => `(tactic| try simp only [↓s_seq, ↓s_next, ↓s_ret, ↓s_retN, ↓s_drop, ↓s_set, ↓s_ifS, ↓s_asg, ↓s_gname, ↓s_gnil, ↓s_gcons, ↓s_gtup, tg1_t, ↓s_gsub, ↓s_par, par2_e, ↓s_aug, ↓s_var, ov_some, ↓s_c, ↓s_op, ↓s_un, ↓s_B, ↓s_chain, ↓s_and, ↓s_or, ↓s_not, ↓s_andV, ↓s_orV, ↓s_notV, ↓s_if, ↓s_nil, ↓s_cons, ↓s_tup, ↓s_lst, ↓s_call, ↓s_fn, ↓s_isi, ↓s_mt, ↓s_mt0, ↓s_sl, ↓s_part, ↓s_nopart, ↓s_newK, ↓s_newN, ↓s_yes, wWipe, ↓s_for, ↓s_seqI, ↓s_rng1, ↓s_rng2, ↓s_lc,
  brn_t, brn_f, gt_some, onB_b, itS_tup, itS_cl, itS_ref, rgO_i, rgT_i, prt_i, mtS_r, mtZ_r,
  isQ_int_non, isQ_int_bl, isQ_int_int, isQ_int_str, isQ_int_tup, isQ_int_l, isQ_int_k, isQ_bool_non, isQ_bool_bl, isQ_bool_int, isQ_bool_str, isQ_bool_tup, isQ_bool_l, isQ_bool_k, isQ_str_non, isQ_str_bl, isQ_str_int, isQ_str_str, isQ_str_tup, isQ_str_l, isQ_str_k, isQ_tuple_non, isQ_tuple_bl, isQ_tuple_int, isQ_tuple_str, isQ_tuple_tup, isQ_tuple_l, isQ_tuple_k, isQ_list_non, isQ_list_bl, isQ_list_int, isQ_list_str, isQ_list_tup, isQ_list_l, isQ_list_k, isQ_dict_non, isQ_dict_bl, isQ_dict_int, isQ_dict_str, isQ_dict_tup, isQ_dict_l, isQ_dict_k,
  add_i, add_s, add_t, add_l, addO_l, sub_i, mul_i, mul_t, mul_l, mulO_l, lt_i, le_i, gt_i, ge_i, is_n, isnot_n, is_b, is_bf, isnot_b, isnot_bf, eq_i, eq_s, eq_b, eq_t, eq_l, eqO_l, eqO_ll, ne_i, ne_s, ne_b, ne_t, ne_l, neO_l, neO_ll, ix_t, ix_c, ix_r, ixO_l, ixO_k, ixO_lk, ixO_n, ixO_ln, in_t, in_r, nin_t, nin_r, inO_l, inO_k, inO_lk, inO_n, inO_ln, wkey_i, wkey_s, sl_t, sl_c, sl_r, slO_l, len_t, len_c, len_s, len_r, lenO_l, abs_i, max_i, min_i, int_i, int_b, tup_t, tup_r, tuO_l, lst_t, lst_c, lst_r, lsO_l, set_r, seO_l, seO_k, seO_n, app_r, apO_l, ext_r, exO_l, pop_z, pop_i, poZ_l, poO_l, neg_i,
  ↓s_dispK, dkS_i, dkS_s, dkF_r, iadd_i, iadd_s, r2I_i, wst1, wst2, wst3, wst4, wst5, obOf, isN, rdl_l, put_same, put_put, Option.isSome_some, true_and, and_true, decide_true, decide_false, Option.bind_some, atI_0, atI_1, atI_2, atI_3, atI_4, atI_m1, atI_m2, atI_m3, atI_m4, atI_m5, cut_1, List.map_cons, List.map_nil, List.cons_append, List.nil_append, List.getElem?_cons_zero, List.getElem?_cons_succ, List.length_cons, List.length_nil, List.length_map, List.isEmpty_cons, List.isEmpty_nil, List.set_cons_zero, List.set_cons_succ, List.replicate, Nat.reduceAdd, Nat.reduceSub, Nat.reduceLeDiff, Int.reduceNeg, le_line, lt_line, Bool.not_true, Bool.not_false, put_ne1, put_ne2, *])
/-- the run of some places -/
def atP (ps : List Int) (run : List Ev) : List Ev := run.filter fun e => decide (e.1 ∈ ps)
def lossG (g : Gs) (run : List Ev) : Int := (passG g run (0, firstG g)).1
theorem inW_ints {x : Int} : ∀ {ps : List Int}, inW (.int x) (ps.map W.int) = decide (x ∈ ps)
  | [] => by simp [inW]
  | y :: ps => by
    have ih := inW_ints (x := x) (ps := ps)
    unfold inW at ih ⊢
    rw [List.map_cons, List.any_cons, ih]
    simp only [eqF, List.mem_cons, Bool.decide_or]
    congr 1
    simp [eq_comm]
theorem flat_ints {ps : List Int} : (ps.map W.int).all flatW = true := by rw [List.all_map]; exact List.all_eq_true.mpr fun _ _ => rfl
theorem ways_at {ps : List Int} {run : List Ev} (h : WaysOk run) : WaysOk (atP ps run) := fun e he => h e (List.mem_filter.mp he).1
theorem at_map {ps : List Int} {run : List Ev} : (run.map evW).filter (fun w => match w with | .tup [.int p, _] => decide (p ∈ ps) | _ => false) = (atP ps run).map evW := by
  unfold atP
  rw [List.filter_map]
  rfl
def sp_misses_at : PSp := fun ws M Q _ => match ws with
  | [gw, .ref a, .ref b] => ∃ (g : Gs) (run : List Ev) (ps : List Int), gw = g.toW ∧ g.Ok ∧ g.depth < 4 ∧ M a = some (.lst (run.map evW)) ∧ M b = some (.lst (ps.map W.int)) ∧ WaysOk run ∧ run.length ≤ 1000 ∧ Q (.int (lossG g (atP ps run))) M
  | _ => False
def evP (ps : List Int) (w : W) : Bool := match w with
  | .tup [.int p, _] => decide (p ∈ ps)
  | _ => false
theorem lc_at {a : Addr} {run : List Ev} {ps : List Int} {M : Me} {ρ : En} {g : WG} {tt : WT} {te : WE} {vs : List Nat} {Q : WK} (ea : M a = some (.lst (run.map evW))) (hl : run.length ≤ 1000)
    (hs : ∀ (p v : Int) (R : WK) (R0 : Me → Prop), (decide (p ∈ ps) = true → ∀ M4, Sub M M4 → R (.tup [.int p, .int v]) M4) → (decide (p ∈ ps) = false → ∀ M3, Sub M M3 → R0 M3) →
      g (.tup [.int p, .int v]) (wWipe ρ vs) M fun ρ2 M2 => tt ρ2 M2 fun b M3 => match b with
      | true => te ρ2 M3 R
      | false => R0 M3) (hd : ∀ q, M q = none → Q (.ref q) (put M q (.lst ((atP ps run).map evW)))) : wLcB (fun M => rdl (M a)) g tt te vs ρ M Q := by
  refine lc_fm (ws := run.map evW) (by show rdl (M a) = _; rw [ea]; rfl) (by rw [List.length_map]; omega) (evP ps) (fun w => w) (fun i w hi R R0 h1 h0 => ?_) (by
    rw [List.map_id']
    have : (run.map evW).filter (evP ps) = (atP ps run).map evW := by unfold atP; rw [List.filter_map]; rfl
    rw [this]; exact hd)
  rw [List.getElem?_map] at hi
  obtain ⟨⟨p, v⟩, hi2, rfl⟩ := Option.map_eq_some_iff.mp hi
  exact hs p v R R0 h1 h0
theorem rd_misses_at (ws M Q E) (h : sp_misses_at ws M Q E) : t_p_misses_at sp_passed (sp_first_state 4) (wEnd Q) (wStart ["guesser", "run", "places", "some", "event"] ws) M := by
  unfold sp_misses_at at h
  split at h
  · rename_i gw a b
    obtain ⟨g, run, ps, rfl, gok, gd, ea, eb, hw, hl, q⟩ := h
    rw [wst3]
    unfold t_p_misses_at
    walk_at "pv"
    refine ⟨by rw [ea]; rfl, lc_at (ps := ps) ea hl (fun p v R R0 h1 h0 => ?_) fun r hr => ?_⟩
    · walk_at "pv"
      rw [eb]
      walk_at "pv"
      refine ⟨by rw [flat_ints]; rfl, ?_⟩
      rw [inW_ints]
      cases hp : decide (p ∈ ps) with
      | true =>
        walk_at "pv"
        exact h1 hp _ (Sub.refl _)
      | false => exact h0 hp _ (Sub.refl _)
    · have k := Kp.start0.new (o := .lst ((atP ps run).map evW)) hr
      generalize put M r _ = M1 at k
      walk_at "pv"
      refine ⟨g, rfl, gok, gd, ?_⟩
      walk_at "pv"
      refine ⟨g, firstG g, _, rfl, rfl, gok, gd, first_ok gok, k.g0, ways_at hw, ?_⟩
      walk_at "pv"
      exact ⟨_, k.sub, q⟩
  · exact h.elim
end PV
set_option maxHeartbeats 4000000
namespace PV
open PySem PySem.Spec PyProof.Rows L2
local macro_rules | `(tactic| walk_at "pv") => `(tactic| try simp only [↓s_seq, ↓s_next, ↓s_ret, ↓s_retN, ↓s_drop, ↓s_set, ↓s_ifS, ↓s_asg, ↓s_gname, ↓s_gnil, ↓s_gcons, ↓s_gtup, tg1_t, ↓s_gsub, ↓s_par, par2_e, ↓s_aug, ↓s_var, ov_some, ↓s_c, ↓s_op, ↓s_un, ↓s_B, ↓s_chain, ↓s_and, ↓s_or, ↓s_not, ↓s_andV, ↓s_orV, ↓s_notV, ↓s_if, ↓s_nil, ↓s_cons, ↓s_tup, ↓s_lst, ↓s_call, ↓s_fn, ↓s_isi, ↓s_mt, ↓s_mt0, ↓s_sl, ↓s_part, ↓s_nopart, ↓s_newK, ↓s_newN, ↓s_yes, wWipe, ↓s_for, ↓s_seqI, ↓s_rng1, ↓s_rng2, ↓s_lc,
  brn_t, brn_f, gt_some, onB_b, itS_tup, itS_cl, itS_ref, rgO_i, rgT_i, prt_i, mtS_r, mtZ_r,
  isQ_int_non, isQ_int_bl, isQ_int_int, isQ_int_str, isQ_int_tup, isQ_int_l, isQ_int_k, isQ_bool_non, isQ_bool_bl, isQ_bool_int, isQ_bool_str, isQ_bool_tup, isQ_bool_l, isQ_bool_k, isQ_str_non, isQ_str_bl, isQ_str_int, isQ_str_str, isQ_str_tup, isQ_str_l, isQ_str_k, isQ_tuple_non, isQ_tuple_bl, isQ_tuple_int, isQ_tuple_str, isQ_tuple_tup, isQ_tuple_l, isQ_tuple_k, isQ_list_non, isQ_list_bl, isQ_list_int, isQ_list_str, isQ_list_tup, isQ_list_l, isQ_list_k, isQ_dict_non, isQ_dict_bl, isQ_dict_int, isQ_dict_str, isQ_dict_tup, isQ_dict_l, isQ_dict_k,
  add_i, add_s, add_t, add_l, addO_l, sub_i, mul_i, mul_t, mul_l, mulO_l, lt_i, le_i, gt_i, ge_i, is_n, isnot_n, is_b, is_bf, isnot_b, isnot_bf, eq_i, eq_s, eq_b, eq_t, eq_l, eqO_l, eqO_ll, ne_i, ne_s, ne_b, ne_t, ne_l, neO_l, neO_ll, ix_t, ix_c, ix_r, ixO_l, ixO_k, ixO_lk, ixO_n, ixO_ln, in_t, in_r, nin_t, nin_r, inO_l, inO_k, inO_lk, inO_n, inO_ln, wkey_i, wkey_s, sl_t, sl_c, sl_r, slO_l, len_t, len_c, len_s, len_r, lenO_l, abs_i, max_i, min_i, int_i, int_b, tup_t, tup_r, tuO_l, lst_t, lst_c, lst_r, lsO_l, set_r, seO_l, seO_k, seO_n, app_r, apO_l, ext_r, exO_l, pop_z, pop_i, poZ_l, poO_l, neg_i,
  ↓s_dispK, dkS_i, dkS_s, dkF_r, iadd_i, iadd_s, r2I_i, wst1, wst2, wst3, wst4, wst5, obOf, isN, rdl_l, put_same, put_put, Option.isSome_some, true_and, and_true, decide_true, decide_false, Option.bind_some, atI_0, atI_1, atI_2, atI_3, atI_4, atI_m1, atI_m2, atI_m3, atI_m4, atI_m5, cut_1, List.map_cons, List.map_nil, List.cons_append, List.nil_append, List.getElem?_cons_zero, List.getElem?_cons_succ, List.length_cons, List.length_nil, List.length_map, List.isEmpty_cons, List.isEmpty_nil, List.set_cons_zero, List.set_cons_succ, List.replicate, Nat.reduceAdd, Nat.reduceSub, Nat.reduceLeDiff, Int.reduceNeg, le_line, lt_line, Bool.not_true, Bool.not_false])
local macro_rules | `(tactic| walk_at "pvh") => `(tactic| try simp only [↓s_seq, ↓s_next, ↓s_ret, ↓s_retN, ↓s_drop, ↓s_set, ↓s_ifS, ↓s_asg, ↓s_gname, ↓s_gnil, ↓s_gcons, ↓s_gtup, tg1_t, ↓s_gsub, ↓s_par, par2_e, ↓s_aug, ↓s_var, ov_some, ↓s_c, ↓s_op, ↓s_un, ↓s_B, ↓s_chain, ↓s_and, ↓s_or, ↓s_not, ↓s_andV, ↓s_orV, ↓s_notV, ↓s_if, ↓s_nil, ↓s_cons, ↓s_tup, ↓s_lst, ↓s_call, ↓s_fn, ↓s_isi, ↓s_mt, ↓s_mt0, ↓s_sl, ↓s_part, ↓s_nopart, ↓s_newK, ↓s_newN, ↓s_yes, wWipe, ↓s_for, ↓s_seqI, ↓s_rng1, ↓s_rng2, ↓s_lc,
  brn_t, brn_f, gt_some, onB_b, itS_tup, itS_cl, itS_ref, rgO_i, rgT_i, prt_i, mtS_r, mtZ_r,
  isQ_int_non, isQ_int_bl, isQ_int_int, isQ_int_str, isQ_int_tup, isQ_int_l, isQ_int_k, isQ_bool_non, isQ_bool_bl, isQ_bool_int, isQ_bool_str, isQ_bool_tup, isQ_bool_l, isQ_bool_k, isQ_str_non, isQ_str_bl, isQ_str_int, isQ_str_str, isQ_str_tup, isQ_str_l, isQ_str_k, isQ_tuple_non, isQ_tuple_bl, isQ_tuple_int, isQ_tuple_str, isQ_tuple_tup, isQ_tuple_l, isQ_tuple_k, isQ_list_non, isQ_list_bl, isQ_list_int, isQ_list_str, isQ_list_tup, isQ_list_l, isQ_list_k, isQ_dict_non, isQ_dict_bl, isQ_dict_int, isQ_dict_str, isQ_dict_tup, isQ_dict_l, isQ_dict_k,
  add_i, add_s, add_t, add_l, addO_l, sub_i, mul_i, mul_t, mul_l, mulO_l, lt_i, le_i, gt_i, ge_i, is_n, isnot_n, is_b, is_bf, isnot_b, isnot_bf, eq_i, eq_s, eq_b, eq_t, eq_l, eqO_l, eqO_ll, ne_i, ne_s, ne_b, ne_t, ne_l, neO_l, neO_ll, ix_t, ix_c, ix_r, ixO_l, ixO_k, ixO_lk, ixO_n, ixO_ln, in_t, in_r, nin_t, nin_r, inO_l, inO_k, inO_lk, inO_n, inO_ln, wkey_i, wkey_s, sl_t, sl_c, sl_r, slO_l, len_t, len_c, len_s, len_r, lenO_l, abs_i, max_i, min_i, int_i, int_b, tup_t, tup_r, tuO_l, lst_t, lst_c, lst_r, lsO_l, set_r, seO_l, seO_k, seO_n, app_r, apO_l, ext_r, exO_l, pop_z, pop_i, poZ_l, poO_l, neg_i,
  ↓s_dispK, dkS_i, dkS_s, dkF_r, iadd_i, iadd_s, r2I_i, wst1, wst2, wst3, wst4, wst5, obOf, isN, rdl_l, put_same, put_put, Option.isSome_some, true_and, and_true, decide_true, decide_false, Option.bind_some, atI_0, atI_1, atI_2, atI_3, atI_4, atI_m1, atI_m2, atI_m3, atI_m4, atI_m5, cut_1, List.map_cons, List.map_nil, List.cons_append, List.nil_append, List.getElem?_cons_zero, List.getElem?_cons_succ, List.length_cons, List.length_nil, List.length_map, List.isEmpty_cons, List.isEmpty_nil, List.set_cons_zero, List.set_cons_succ, List.replicate, Nat.reduceAdd, Nat.reduceSub, Nat.reduceLeDiff, Int.reduceNeg, le_line, lt_line, Bool.not_true, Bool.not_false, put_ne1, put_ne2, *])
/-- places, rising -/
def IsPl (run : List Ev) (ps : List Int) : Prop := ps.Pairwise (· < ·) ∧ ∀ k, k ∈ ps ↔ ∃ e ∈ run, e.1 = k
theorem sorted_uniq : ∀ {xs ys : List Int}, xs.Pairwise (· < ·) → ys.Pairwise (· < ·) → (∀ k, k ∈ xs ↔ k ∈ ys) → xs = ys
  | [], [], _, _, _ => rfl
  | [], y :: ys, _, _, h => by have := (h y).mpr (.head _); cases this
  | x :: xs, [], _, _, h => by have := (h x).mp (.head _); cases this
  | x :: xs, y :: ys, h1, h2, h => by
    have a1 := List.pairwise_cons.mp h1
    have a2 := List.pairwise_cons.mp h2
    have e : x = y := by
      rcases List.mem_cons.mp ((h x).mp (.head _)) with z | z
      · exact z
      · rcases List.mem_cons.mp ((h y).mpr (.head _)) with w | w
        · exact w.symm
        · have := a1.1 y w; have := a2.1 x z; omega
    subst e
    rw [sorted_uniq a1.2 a2.2 fun k => ⟨fun hk => by
      rcases List.mem_cons.mp ((h k).mp (.tail _ hk)) with z | z
      · subst z; have := a1.1 _ hk; omega
      · exact z, fun hk => by
      rcases List.mem_cons.mp ((h k).mpr (.tail _ hk)) with z | z
      · subst z; have := a2.1 _ hk; omega
      · exact z⟩]
def plcs (run : List Ev) : List Int := ((run.map (·.1)).eraseDups).mergeSort (fun a b => decide (a ≤ b))
theorem eraseDups_nd : ∀ (n : Nat) (l : List Int), l.length ≤ n → l.eraseDups.Nodup
  | 0, l, h => by
    have : l = [] := List.eq_nil_of_length_eq_zero (by omega)
    subst this; simp
  | n + 1, [], _ => by simp
  | n + 1, x :: l, h => by
    rw [List.eraseDups_cons, List.nodup_cons]
    refine ⟨fun hm => ?_, eraseDups_nd n _ ?_⟩
    · have := List.mem_eraseDups.mp hm
      rw [List.mem_filter] at this
      simp at this
    · have := List.length_filter_le (fun b => !b == x) l
      rw [List.length_cons] at h
      omega
theorem pw_lt : ∀ {l : List Int}, l.Pairwise (· ≤ ·) → l.Nodup → l.Pairwise (· < ·)
  | [], _, _ => .nil
  | x :: l, h, n => by
    have a := List.pairwise_cons.mp h
    have b := List.nodup_cons.mp n
    refine .cons (fun y hy => ?_) (pw_lt a.2 b.2)
    have := a.1 y hy
    have : x ≠ y := fun e => b.1 (by rw [e]; exact hy)
    omega
theorem plcs_ok {run : List Ev} : IsPl run (plcs run) := by
  have pm := List.mergeSort_perm (run.map (·.1)).eraseDups (fun a b => decide (a ≤ b))
  refine ⟨?_, fun k => ?_⟩
  · have h := List.pairwise_mergeSort (le := fun a b : Int => decide (a ≤ b)) (fun a b c h1 h2 => by simp at h1 h2 ⊢; omega) (fun a b => by simp; omega) (run.map (·.1)).eraseDups
    exact pw_lt (h.imp (fun z => by simpa using z)) (pm.nodup_iff.mpr (eraseDups_nd _ _ (Nat.le_refl _)))
  · unfold plcs
    rw [pm.mem_iff, List.mem_eraseDups, List.mem_map]
theorem IsPl.eq {run : List Ev} {ps : List Int} (h : IsPl run ps) : ps = plcs run := sorted_uniq h.1 plcs_ok.1 fun k => (h.2 k).trans (plcs_ok.2 k).symm
def sp_places_of : PSp := fun ws M Q _ => match ws with
  | [.ref a] => ∃ (run : List Ev), M a = some (.lst (run.map evW)) ∧ run.length ≤ 1000 ∧ (plcs run).length < 64 ∧ ∀ p M', M p = none → Sub M M' → M' p = some (.lst ((plcs run).map W.int)) → Q (.ref p) M'
  | _ => False
/-- the places so far as a dict -/
def plK (ks : List Int) : List (Key × W) := ks.map fun k => (Sum.inl k, W.bl true)
theorem look_plK {ks : List Int} {k : Int} : (look (plK ks) (Sum.inl k)).isSome = decide (k ∈ ks) := by
  induction ks with
  | nil => rfl
  | cons x ks ih =>
    unfold look plK at ih ⊢
    rw [List.map_cons, List.find?_cons]
    by_cases e : x = k
    · subst e; simp
    · have e2 : decide ((Sum.inl x : Key) = Sum.inl k) = false := decide_eq_false fun z => e (Sum.inl.inj z)
      rw [e2]
      have e3 : ¬ k = x := Ne.symm e
      simp only [ih, List.mem_cons, e3, false_or]
def addI (ks : List Int) (k : Int) : List Int := if k ∈ ks then ks else ks ++ [k]
theorem place_plK {ks : List Int} {k : Int} : place (plK ks) (Sum.inl k) (.bl true) = plK (addI ks k) := by
  unfold place addI
  rw [look_plK]
  by_cases h : k ∈ ks
  · rw [if_pos (decide_eq_true h), if_pos h]
    unfold plK
    rw [List.map_map]
    apply List.map_congr_left
    intro x _
    simp only [Function.comp]
    split
    · rename_i e; rw [e]
    · rfl
  · rw [if_neg (by simp [h]), if_neg h]
    unfold plK
    rw [List.map_append]; rfl
def addsI (run : List Ev) : List Int := run.foldl (fun ks e => addI ks e.1) []
theorem addI_mem {ks : List Int} {k j : Int} : j ∈ addI ks k ↔ j ∈ ks ∨ j = k := by
  unfold addI
  split
  · rename_i h
    exact ⟨.inl, fun h2 => h2.elim id (fun e => by rw [e]; exact h)⟩
  · simp
theorem addI_nd {ks : List Int} {k : Int} (h : ks.Nodup) : (addI ks k).Nodup := by
  unfold addI
  split
  · exact h
  · rename_i hn
    rw [List.nodup_append]
    exact ⟨h, by simp, fun a ha b hb e => hn (by rw [List.mem_singleton] at hb; rw [← hb, ← e]; exact ha)⟩
theorem adds_fold : ∀ (run : List Ev) (ks : List Int), ks.Nodup → (run.foldl (fun ks e => addI ks e.1) ks).Nodup ∧ ∀ j, j ∈ run.foldl (fun ks e => addI ks e.1) ks ↔ j ∈ ks ∨ ∃ e ∈ run, e.1 = j
  | [], ks, h => ⟨h, fun j => by simp⟩
  | e :: run, ks, h => by
    obtain ⟨h1, h2⟩ := adds_fold run (addI ks e.1) (addI_nd h)
    refine ⟨h1, fun j => ?_⟩
    rw [List.foldl_cons, h2 j, addI_mem]
    constructor
    · rintro ((h | h) | ⟨e', h3, h4⟩)
      · exact .inl h
      · exact .inr ⟨e, .head _, h.symm⟩
      · exact .inr ⟨e', .tail _ h3, h4⟩
    · rintro (h | ⟨e', h3, h4⟩)
      · exact .inl (.inl h)
      · rcases List.mem_cons.mp h3 with rfl | h3
        · exact .inl (.inr h4.symm)
        · exact .inr ⟨e', h3, h4⟩
theorem adds_ok (run : List Ev) : (addsI run).Nodup ∧ ∀ j, j ∈ addsI run ↔ ∃ e ∈ run, e.1 = j := by
  obtain ⟨h1, h2⟩ := adds_fold run [] .nil
  exact ⟨h1, fun j => (h2 j).trans (by simp)⟩
theorem adds_take {run : List Ev} {i : Nat} {e : Ev} (h : run[i]? = some e) : addsI (run.take (i + 1)) = addI (addsI (run.take i)) e.1 := by
  unfold addsI
  rw [List.take_succ, h, List.foldl_append]; rfl
theorem adds_len (run : List Ev) : (addsI run).length ≤ (plcs run).length := nd_le _ _ (adds_ok run).1 fun a ha => (plcs_ok.2 a).mpr (((adds_ok run).2 a).mp ha)
theorem adds_len2 {run : List Ev} : ∀ i, (addsI (run.take i)).length ≤ (plcs run).length := fun i => nd_le _ _ (adds_ok _).1 fun a ha => (plcs_ok.2 a).mpr (by
  obtain ⟨e, h1, h2⟩ := ((adds_ok _).2 a).mp ha
  exact ⟨e, List.mem_of_mem_take h1, h2⟩)
theorem rd_places_of (ws M Q E) (h : sp_places_of ws M Q E) : t_p_places_of (wEnd Q) (wStart ["run", "found", "place", "way"] ws) M := by
  unfold sp_places_of at h
  split at h
  · rename_i a
    obtain ⟨run, e, hl, h64, q⟩ := h
    rw [wst1]
    unfold t_p_places_of
    walk_at "pv"
    refine Kp.start0.fresh_go fun p M1 k s1 => ?_
    walk_at "pv"
    have e1 := s1 _ _ e
    rw [e1]
    walk_at "pv"
    refine for_l (a := a) (ws := run.map evW) (fun i ρ M' => Kp none [(p, .dK (plK (addsI (run.take i))))] M M' ∧ ∃ x y, ρ = [some (.ref a), some (.ref p), x, y]) ⟨k, _, _, rfl⟩ (fun i ρ M' h => h.1.old0 e) ?_ ?_
    · clear k
      rintro i w ρ M2 hi ⟨k, x, y, rfl⟩
      rw [List.getElem?_map] at hi
      obtain ⟨⟨pl, way⟩, hi2, rfl⟩ := Option.map_eq_some_iff.mp hi
      have nx := adds_take hi2
      have l2 := adds_len2 (run := run) i
      unfold evW
      walk_at "pv"
      rw [k.g0]
      walk_at "pv"
      refine ⟨?_, ?_⟩
      · first | exact small_line (by unfold plK; rw [List.length_map]; omega) | (unfold plK; rw [List.length_map]; exact small_line (by omega)) | skip
      · rw [place_plK, ← nx]
        exact ⟨_, Sub.refl _, k.set, _, _, rfl⟩
    · rintro ρ M2 ⟨k, x, y, rfl⟩
      rw [List.length_map, List.take_length] at k
      walk_at "pv"
      refine .inr ⟨plK (addsI run), addsI run, by rw [k.g0]; rfl, by unfold plK; rw [List.map_map]; rfl, Nat.lt_of_le_of_lt (adds_len run) h64, fun ns' pm srt r hr => ?_⟩
      have ip : IsPl run ns' := ⟨pw_lt srt (pm.nodup_iff.mpr (adds_ok run).1), fun j => pm.mem_iff.trans ((adds_ok run).2 j)⟩
      have k2 := k.new (o := .lst (ns'.map W.int)) hr
      rw [ip.eq] at k2 ⊢
      exact ⟨_, Sub.refl _, q r _ k2.f0 k2.sub k2.g0⟩
  · exact h.elim
end PV
set_option maxHeartbeats 4000000
namespace PV
open PySem PySem.Spec PyProof.Rows L2
local macro_rules | `(tactic| walk_at "pv") => `(tactic| try simp only [↓s_seq, ↓s_next, ↓s_ret, ↓s_retN, ↓s_drop, ↓s_set, ↓s_ifS, ↓s_asg, ↓s_gname, ↓s_gnil, ↓s_gcons, ↓s_gtup, tg1_t, ↓s_gsub, ↓s_par, par2_e, ↓s_aug, ↓s_var, ov_some, ↓s_c, ↓s_op, ↓s_un, ↓s_B, ↓s_chain, ↓s_and, ↓s_or, ↓s_not, ↓s_andV, ↓s_orV, ↓s_notV, ↓s_if, ↓s_nil, ↓s_cons, ↓s_tup, ↓s_lst, ↓s_call, ↓s_fn, ↓s_isi, ↓s_mt, ↓s_mt0, ↓s_sl, ↓s_part, ↓s_nopart, ↓s_newK, ↓s_newN, ↓s_yes, wWipe, ↓s_for, ↓s_seqI, ↓s_rng1, ↓s_rng2, ↓s_lc,
  brn_t, brn_f, gt_some, onB_b, itS_tup, itS_cl, itS_ref, rgO_i, rgT_i, prt_i, mtS_r, mtZ_r,
  isQ_int_non, isQ_int_bl, isQ_int_int, isQ_int_str, isQ_int_tup, isQ_int_l, isQ_int_k, isQ_bool_non, isQ_bool_bl, isQ_bool_int, isQ_bool_str, isQ_bool_tup, isQ_bool_l, isQ_bool_k, isQ_str_non, isQ_str_bl, isQ_str_int, isQ_str_str, isQ_str_tup, isQ_str_l, isQ_str_k, isQ_tuple_non, isQ_tuple_bl, isQ_tuple_int, isQ_tuple_str, isQ_tuple_tup, isQ_tuple_l, isQ_tuple_k, isQ_list_non, isQ_list_bl, isQ_list_int, isQ_list_str, isQ_list_tup, isQ_list_l, isQ_list_k, isQ_dict_non, isQ_dict_bl, isQ_dict_int, isQ_dict_str, isQ_dict_tup, isQ_dict_l, isQ_dict_k,
  add_i, add_s, add_t, add_l, addO_l, sub_i, mul_i, mul_t, mul_l, mulO_l, lt_i, le_i, gt_i, ge_i, is_n, isnot_n, is_b, is_bf, isnot_b, isnot_bf, eq_i, eq_s, eq_b, eq_t, eq_l, eqO_l, eqO_ll, ne_i, ne_s, ne_b, ne_t, ne_l, neO_l, neO_ll, ix_t, ix_c, ix_r, ixO_l, ixO_k, ixO_lk, ixO_n, ixO_ln, in_t, in_r, nin_t, nin_r, inO_l, inO_k, inO_lk, inO_n, inO_ln, wkey_i, wkey_s, sl_t, sl_c, sl_r, slO_l, len_t, len_c, len_s, len_r, lenO_l, abs_i, max_i, min_i, int_i, int_b, tup_t, tup_r, tuO_l, lst_t, lst_c, lst_r, lsO_l, set_r, seO_l, seO_k, seO_n, app_r, apO_l, ext_r, exO_l, pop_z, pop_i, poZ_l, poO_l, neg_i,
  ↓s_dispK, dkS_i, dkS_s, dkF_r, iadd_i, iadd_s, r2I_i, wst1, wst2, wst3, wst4, wst5, obOf, isN, rdl_l, put_same, put_put, Option.isSome_some, true_and, and_true, decide_true, decide_false, Option.bind_some, atI_0, atI_1, atI_2, atI_3, atI_4, atI_m1, atI_m2, atI_m3, atI_m4, atI_m5, cut_1, List.map_cons, List.map_nil, List.cons_append, List.nil_append, List.getElem?_cons_zero, List.getElem?_cons_succ, List.length_cons, List.length_nil, List.length_map, List.isEmpty_cons, List.isEmpty_nil, List.set_cons_zero, List.set_cons_succ, List.replicate, Nat.reduceAdd, Nat.reduceSub, Nat.reduceLeDiff, Int.reduceNeg, le_line, lt_line, Bool.not_true, Bool.not_false])
local macro_rules | `(tactic| walk_at "pvh") => `(tactic| try simp only [↓s_seq, ↓s_next, ↓s_ret, ↓s_retN, ↓s_drop, ↓s_set, ↓s_ifS, ↓s_asg, ↓s_gname, ↓s_gnil, ↓s_gcons, ↓s_gtup, tg1_t, ↓s_gsub, ↓s_par, par2_e, ↓s_aug, ↓s_var, ov_some, ↓s_c, ↓s_op, ↓s_un, ↓s_B, ↓s_chain, ↓s_and, ↓s_or, ↓s_not, ↓s_andV, ↓s_orV, ↓s_notV, ↓s_if, ↓s_nil, ↓s_cons, ↓s_tup, ↓s_lst, ↓s_call, ↓s_fn, ↓s_isi, ↓s_mt, ↓s_mt0, ↓s_sl, ↓s_part, ↓s_nopart, ↓s_newK, ↓s_newN, ↓s_yes, wWipe, ↓s_for, ↓s_seqI, ↓s_rng1, ↓s_rng2, ↓s_lc,
  brn_t, brn_f, gt_some, onB_b, itS_tup, itS_cl, itS_ref, rgO_i, rgT_i, prt_i, mtS_r, mtZ_r,
  isQ_int_non, isQ_int_bl, isQ_int_int, isQ_int_str, isQ_int_tup, isQ_int_l, isQ_int_k, isQ_bool_non, isQ_bool_bl, isQ_bool_int, isQ_bool_str, isQ_bool_tup, isQ_bool_l, isQ_bool_k, isQ_str_non, isQ_str_bl, isQ_str_int, isQ_str_str, isQ_str_tup, isQ_str_l, isQ_str_k, isQ_tuple_non, isQ_tuple_bl, isQ_tuple_int, isQ_tuple_str, isQ_tuple_tup, isQ_tuple_l, isQ_tuple_k, isQ_list_non, isQ_list_bl, isQ_list_int, isQ_list_str, isQ_list_tup, isQ_list_l, isQ_list_k, isQ_dict_non, isQ_dict_bl, isQ_dict_int, isQ_dict_str, isQ_dict_tup, isQ_dict_l, isQ_dict_k,
  add_i, add_s, add_t, add_l, addO_l, sub_i, mul_i, mul_t, mul_l, mulO_l, lt_i, le_i, gt_i, ge_i, is_n, isnot_n, is_b, is_bf, isnot_b, isnot_bf, eq_i, eq_s, eq_b, eq_t, eq_l, eqO_l, eqO_ll, ne_i, ne_s, ne_b, ne_t, ne_l, neO_l, neO_ll, ix_t, ix_c, ix_r, ixO_l, ixO_k, ixO_lk, ixO_n, ixO_ln, in_t, in_r, nin_t, nin_r, inO_l, inO_k, inO_lk, inO_n, inO_ln, wkey_i, wkey_s, sl_t, sl_c, sl_r, slO_l, len_t, len_c, len_s, len_r, lenO_l, abs_i, max_i, min_i, int_i, int_b, tup_t, tup_r, tuO_l, lst_t, lst_c, lst_r, lsO_l, set_r, seO_l, seO_k, seO_n, app_r, apO_l, ext_r, exO_l, pop_z, pop_i, poZ_l, poO_l, neg_i,
  ↓s_dispK, dkS_i, dkS_s, dkF_r, iadd_i, iadd_s, r2I_i, wst1, wst2, wst3, wst4, wst5, obOf, isN, rdl_l, put_same, put_put, Option.isSome_some, true_and, and_true, decide_true, decide_false, Option.bind_some, atI_0, atI_1, atI_2, atI_3, atI_4, atI_m1, atI_m2, atI_m3, atI_m4, atI_m5, cut_1, List.map_cons, List.map_nil, List.cons_append, List.nil_append, List.getElem?_cons_zero, List.getElem?_cons_succ, List.length_cons, List.length_nil, List.length_map, List.isEmpty_cons, List.isEmpty_nil, List.set_cons_zero, List.set_cons_succ, List.replicate, Nat.reduceAdd, Nat.reduceSub, Nat.reduceLeDiff, Int.reduceNeg, le_line, lt_line, Bool.not_true, Bool.not_false, put_ne1, put_ne2, *])
section
variable (g : Gs) (n : Nat) (run : List Ev)
def lsA (ps : List Int) : Int := lossG g (atP ps run)
def lost2 (p o : Int) : Int := lsA g run [p, o] - lsA g run [p] - lsA g run [o]
def rowS (p o : Int) : List (Int × Int × Int) := if p < o ∧ p % n = o % n then (if lost2 g run p o = 0 then [] else [(p, o, lost2 g run p o)]) else []
def trW (t : Int × Int × Int) : W := .tup [.int t.1, .int t.2.1, .int t.2.2]
def inS (ps : List Int) (p : Int) (j : Nat) : List (Int × Int × Int) := (ps.take j).flatMap (rowS g n run p)
def spS (ps : List Int) (i : Nat) : List (Int × Int × Int) := (ps.take i).flatMap fun p => ps.flatMap (rowS g n run p)
def alK (ks : List Int) : List (Key × W) := ks.map fun k => (Sum.inl k, W.int (lsA g run [k]))
end
section
variable {g : Gs} {n : Nat} {run : List Ev}
theorem look_alK {ks : List Int} {k : Int} : look (alK g run ks) (Sum.inl k) = if k ∈ ks then some (.int (lsA g run [k])) else none := by
  induction ks with
  | nil => rfl
  | cons x ks ih =>
    unfold look alK at ih ⊢
    rw [List.map_cons, List.find?_cons]
    by_cases e : x = k
    · subst e; simp
    · have e2 : decide ((Sum.inl x : Key) = Sum.inl k) = false := decide_eq_false fun z => e (Sum.inl.inj z)
      rw [e2]
      have e3 : ¬ k = x := Ne.symm e
      simp only [ih, List.mem_cons, e3, false_or]
theorem alK_len {ks : List Int} : (alK g run ks).length = ks.length := by unfold alK; rw [List.length_map]
theorem alK_snoc {ks : List Int} {k : Int} (h : k ∉ ks) : place (alK g run ks) (Sum.inl k) (.int (lsA g run [k])) = alK g run (ks ++ [k]) := by
  unfold place
  rw [look_alK, if_neg h, if_neg (by simp)]
  unfold alK
  rw [List.map_append]; rfl
theorem take_new {ps : List Int} {i : Nat} {k : Int} (nd : ps.Nodup) (h : ps[i]? = some k) : k ∉ ps.take i ∧ ps.take (i + 1) = ps.take i ++ [k] := by
  have e : ps.take (i + 1) = ps.take i ++ [k] := by rw [List.take_succ, h]; rfl
  refine ⟨fun hm => ?_, e⟩
  have nt : (ps.take (i + 1)).Nodup := (List.take_sublist _ _).nodup nd
  rw [e, List.nodup_append] at nt
  exact nt.2.2 k hm k (List.mem_singleton.mpr rfl) rfl
theorem lt_nd : ∀ {l : List Int}, l.Pairwise (· < ·) → l.Nodup
  | [], _ => .nil
  | x :: l, h => by
    have a := List.pairwise_cons.mp h
    exact List.nodup_cons.mpr ⟨fun hm => absurd (a.1 x hm) (Int.lt_irrefl x), lt_nd a.2⟩
theorem rowS_len {p o : Int} : (rowS g n run p o).length ≤ 1 := by
  unfold rowS
  split
  · split <;> simp
  · simp
theorem fm_len {f : Int → List (Int × Int × Int)} {c : Nat} (h : ∀ x, (f x).length ≤ c) : ∀ l : List Int, (l.flatMap f).length ≤ l.length * c
  | [] => by simp
  | x :: l => by
    rw [List.flatMap_cons, List.length_append, List.length_cons, Nat.add_mul, Nat.one_mul]
    have := h x
    have := fm_len h l
    omega
theorem spS_len {ps : List Int} {i : Nat} (hl : ps.length < 64) : (spS g n run ps i).length ≤ 4096 := by
  unfold spS
  have h1 : ∀ p, (ps.flatMap (rowS g n run p)).length ≤ 64 := fun p => by
    have := fm_len (f := rowS g n run p) (c := 1) (fun _ => rowS_len) ps
    omega
  have := fm_len h1 (ps.take i)
  have l2 : (ps.take i).length ≤ 64 := by rw [List.length_take]; omega
  have : (ps.take i).length * 64 ≤ 64 * 64 := Nat.mul_le_mul_right _ l2
  omega
theorem inS_len {ps : List Int} {p : Int} {j : Nat} (hl : ps.length < 64) : (inS g n run ps p j).length ≤ 64 := by
  unfold inS
  have := fm_len (f := rowS g n run p) (c := 1) (fun _ => rowS_len) (ps.take j)
  rw [List.length_take] at this
  omega
theorem inS_succ {ps : List Int} {p o : Int} {j : Nat} (h : ps[j]? = some o) : inS g n run ps p (j + 1) = inS g n run ps p j ++ rowS g n run p o := by
  unfold inS
  rw [List.take_succ, h, List.flatMap_append]; simp
theorem inS_all {ps : List Int} {p : Int} : inS g n run ps p ps.length = ps.flatMap (rowS g n run p) := by unfold inS; rw [List.take_length]
theorem spS_succ {ps : List Int} {p : Int} {i : Nat} (h : ps[i]? = some p) : spS g n run ps (i + 1) = spS g n run ps i ++ ps.flatMap (rowS g n run p) := by
  unfold spS
  rw [List.take_succ, h, List.flatMap_append]; simp
end
/-- what is told -/
def spoilW (n : Nat) (c : Cell) (run : List Ev) : List W := (spS (.table n c) n run (plcs run) (plcs run).length).map trW
def sp_spoiled : PSp := fun ws M Q _ => match ws with
  | [gw, .ref a] => ∃ (n : Nat) (c : Cell) (run : List Ev), gw = (Gs.table n c).toW ∧ (Gs.table n c).Ok ∧ M a = some (.lst (run.map evW)) ∧ WaysOk run ∧ run.length ≤ 1000 ∧ (plcs run).length < 64 ∧ ∀ p M', M p = none → Sub M M' → M' p = some (.lst (spoilW n c run)) → Q (.ref p) M'
  | _ => False
theorem rd_spoiled (ws M Q E) (h : sp_spoiled ws M Q E) : t_p_spoiled sp_places_of sp_misses_at (wEnd Q) (wStart ["guesser", "run", "places", "alone", "place", "found", "other", "lost"] ws) M := by
  unfold sp_spoiled at h
  split at h
  · rename_i gw a
    obtain ⟨n, c, run, rfl, gok, ea, hw, hl, h64, q⟩ := h
    rw [wst2]
    unfold t_p_spoiled
    have hn := gok.1
    obtain ⟨ps, eps⟩ : ∃ ps, ps = plcs run := ⟨_, rfl⟩
    have nd := lt_nd (plcs_ok (run := run)).1
    walk_at "pv"
    refine ⟨run, ea, hl, h64, fun r M1 hr s1 er => ?_⟩
    unfold spoilW at q
    rw [← eps] at er h64 q nd
    have k : Kp none [(r, .lst (ps.map W.int))] M M1 := Kp.start0.come s1 hr er
    walk_at "pv"
    refine k.fresh_go fun al M2 k _ => ?_
    walk_at "pv"
    rw [k.g1]
    walk_at "pv"
    refine for_l (a := r) (ws := ps.map W.int) (fun i ρ M' => Kp none [(al, .dK (alK (.table n c) run (ps.take i))), (r, .lst (ps.map W.int))] M M' ∧ ∃ x, ρ = [some (Gs.table n c).toW, some (.ref a), some (.ref r), some (.ref al), x, none, none, none]) ⟨k, _, rfl⟩ (fun i ρ M' h => h.1.g1) ?_ ?_
    · clear k s1 er
      rintro i w ρ M3 hi ⟨k, x, rfl⟩
      rw [List.getElem?_map] at hi
      obtain ⟨p, hi2, rfl⟩ := Option.map_eq_some_iff.mp hi
      obtain ⟨hnew, et⟩ := take_new nd hi2
      walk_at "pv"
      refine k.fresh_go fun one M4 k s4 => ?_
      walk_at "pv"
      refine ⟨_, run, [p], rfl, gok, (by show 0 < 4; decide), k.old0 ea, k.g0, hw, hl, ?_⟩
      walk_at "pv"
      have k := k.tail
      rw [k.g0]
      walk_at "pv"
      refine ⟨small_line (by rw [alK_len, List.length_take]; omega), ?_⟩
      rw [show lossG (.table n c) (atP [p] run) = lsA (.table n c) run [p] from rfl, alK_snoc hnew, ← et]
      exact ⟨_, Sub.refl _, k.set, _, rfl⟩
    · clear k s1 er
      rintro ρ M3 ⟨k, x, rfl⟩
      rw [List.length_map, List.take_length] at k
      walk_at "pv"
      refine k.fresh_go fun fd M4 k _ => ?_
      walk_at "pv"
      have m2 := k.g2
      rw [m2]
      walk_at "pv"
      refine for_l (a := r) (ws := ps.map W.int) (fun i ρ M' => Kp none [(fd, .lst ((spS (.table n c) n run ps i).map trW)), (al, .dK (alK (.table n c) run ps)), (r, .lst (ps.map W.int))] M M' ∧ ∃ x y z, ρ = [some (Gs.table n c).toW, some (.ref a), some (.ref r), some (.ref al), x, some (.ref fd), y, z]) ⟨k, _, _, _, rfl⟩ (fun i ρ M' h => h.1.g2) ?_ ?_
      · clear k m2
        rintro i w ρ M5 hi ⟨k, x, y, z, rfl⟩
        rw [List.getElem?_map] at hi
        obtain ⟨p, hi2, rfl⟩ := Option.map_eq_some_iff.mp hi
        have hp : p ∈ ps := List.mem_of_getElem? hi2
        walk_at "pv"
        rw [k.g2]
        walk_at "pv"
        refine for_l (a := r) (ws := ps.map W.int) (fun j ρ M' => Kp none [(fd, .lst ((spS (.table n c) n run ps i ++ inS (.table n c) n run ps p j).map trW)), (al, .dK (alK (.table n c) run ps)), (r, .lst (ps.map W.int))] M M' ∧ ∃ y z, ρ = [some (Gs.table n c).toW, some (.ref a), some (.ref r), some (.ref al), some (.int p), some (.ref fd), y, z]) ⟨by simpa [inS] using k, _, _, rfl⟩ (fun i ρ M' h => h.1.g2) ?_ ?_
        · clear k
          rintro j w ρ M6 hj ⟨k, y, z, rfl⟩
          rw [List.getElem?_map] at hj
          obtain ⟨o, hj2, rfl⟩ := Option.map_eq_some_iff.mp hj
          have ho : o ∈ ps := List.mem_of_getElem? hj2
          have nx := inS_succ (g := .table n c) (n := n) (run := run) (p := p) hj2
          have ls1 := spS_len (g := .table n c) (n := n) (run := run) (i := i) h64
          have ls2 := inS_len (g := .table n c) (n := n) (run := run) (p := p) (j := j) h64
          have eg : (Gs.table n c).toW = .tup [.str "table", .int n, cW c] := rfl
          have skip : rowS (.table n c) n run p o = [] → ∃ M0, Sub M0 M6 ∧ Kp none [(fd, .lst ((spS (.table n c) n run ps i ++ inS (.table n c) n run ps p (j + 1)).map trW)), (al, .dK (alK (.table n c) run ps)), (r, .lst (ps.map W.int))] M M0 := fun e => ⟨M6, Sub.refl _, by rw [nx, e, List.append_nil]; exact k⟩
          rw [eg]
          walk_at "pv"
          refine brn_dec (fun h1 => ?_) (fun h1 => ?_)
          · walk_at "pv"
            refine mod_go (by omega) ?_
            walk_at "pv"
            refine mod_go (by omega) ?_
            walk_at "pv"
            refine brn_dec (fun h2 => ?_) (fun h2 => ?_)
            · walk_at "pv"
              refine k.fresh_go fun two M7 k _ => ?_
              walk_at "pv"
              refine ⟨.table n c, run, [p, o], rfl, gok, (by show 0 < 4; decide), k.old0 ea, k.g0, hw, hl, ?_⟩
              have k := k.tail
              have k2 := k.g1
              walk_at "pv"
              rw [k2]
              walk_at "pv"
              refine gt_of (w := .int (lsA (.table n c) run [p])) (by rw [look_alK, if_pos hp]) ?_
              walk_at "pv"
              rw [k2]
              walk_at "pv"
              refine gt_of (w := .int (lsA (.table n c) run [o])) (by rw [look_alK, if_pos ho]) ?_
              walk_at "pv"
              rw [show lossG (.table n c) (atP [p, o] run) - lsA (.table n c) run [p] - lsA (.table n c) run [o] = lost2 (.table n c) run p o from rfl]
              have er : rowS (.table n c) n run p o = if lost2 (.table n c) run p o = 0 then [] else [(p, o, lost2 (.table n c) run p o)] := by
                unfold rowS; rw [if_pos ⟨h1, h2⟩]
              rw [er] at nx
              generalize lost2 (.table n c) run p o = l at nx er
              refine brn_i (fun h3 => ?_) (fun h3 => ?_)
              · have h4 : ¬ l = 0 := by simpa using h3
                rw [if_neg h4] at nx
                walk_at "pv"
                refine ⟨by rw [k.g0]; rfl, ?_⟩
                rw [k.g0]
                walk_at "pv"
                refine ⟨small_line (by rw [List.length_append]; omega), _, Sub.refl _, ?_, _, _, rfl⟩
                rw [nx, ← List.append_assoc, List.map_append, ← List.map_append, List.map_append (l₁ := _ ++ _)]
                exact k.set
              · have h4 : l = 0 := by simpa using h3
                rw [if_pos h4, List.append_nil] at nx
                walk_at "pv"
                exact ⟨_, Sub.refl _, by rw [nx]; exact k, _, _, rfl⟩
            · obtain ⟨M0, s0, k0⟩ := skip (by unfold rowS; rw [if_neg (fun z => h2 z.2)])
              walk_at "pv"
              exact ⟨M0, s0, k0, _, _, rfl⟩
          · obtain ⟨M0, s0, k0⟩ := skip (by unfold rowS; rw [if_neg (fun z => h1 z.1)])
            walk_at "pv"
            exact ⟨M0, s0, k0, _, _, rfl⟩
        · rintro ρ M6 ⟨k, y, z, rfl⟩
          rw [List.length_map, inS_all, ← spS_succ hi2] at k
          exact ⟨_, Sub.refl _, k, _, _, _, rfl⟩
      · rintro ρ M5 ⟨k, x, y, z, rfl⟩
        rw [List.length_map] at k
        walk_at "pv"
        exact ⟨_, Sub.refl _, q fd _ k.f0 k.sub k.g0⟩
  · exact h.elim
end PV
set_option maxHeartbeats 4000000
namespace PV
open PySem PySem.Spec PyProof.Rows L2
local macro_rules | `(tactic| walk_at "pv") => `(tactic| try simp only [↓s_seq, ↓s_next, ↓s_ret, ↓s_retN, ↓s_drop, ↓s_set, ↓s_ifS, ↓s_asg, ↓s_gname, ↓s_gnil, ↓s_gcons, ↓s_gtup, tg1_t, ↓s_gsub, ↓s_par, par2_e, ↓s_aug, ↓s_var, ov_some, ↓s_c, ↓s_op, ↓s_un, ↓s_B, ↓s_chain, ↓s_and, ↓s_or, ↓s_not, ↓s_andV, ↓s_orV, ↓s_notV, ↓s_if, ↓s_nil, ↓s_cons, ↓s_tup, ↓s_lst, ↓s_call, ↓s_fn, ↓s_isi, ↓s_mt, ↓s_mt0, ↓s_sl, ↓s_part, ↓s_nopart, ↓s_newK, ↓s_newN, ↓s_yes, wWipe, ↓s_for, ↓s_seqI, ↓s_rng1, ↓s_rng2, ↓s_lc,
  brn_t, brn_f, gt_some, onB_b, itS_tup, itS_cl, itS_ref, rgO_i, rgT_i, prt_i, mtS_r, mtZ_r,
  isQ_int_non, isQ_int_bl, isQ_int_int, isQ_int_str, isQ_int_tup, isQ_int_l, isQ_int_k, isQ_bool_non, isQ_bool_bl, isQ_bool_int, isQ_bool_str, isQ_bool_tup, isQ_bool_l, isQ_bool_k, isQ_str_non, isQ_str_bl, isQ_str_int, isQ_str_str, isQ_str_tup, isQ_str_l, isQ_str_k, isQ_tuple_non, isQ_tuple_bl, isQ_tuple_int, isQ_tuple_str, isQ_tuple_tup, isQ_tuple_l, isQ_tuple_k, isQ_list_non, isQ_list_bl, isQ_list_int, isQ_list_str, isQ_list_tup, isQ_list_l, isQ_list_k, isQ_dict_non, isQ_dict_bl, isQ_dict_int, isQ_dict_str, isQ_dict_tup, isQ_dict_l, isQ_dict_k,
  add_i, add_s, add_t, add_l, addO_l, sub_i, mul_i, mul_t, mul_l, mulO_l, lt_i, le_i, gt_i, ge_i, is_n, isnot_n, is_b, is_bf, isnot_b, isnot_bf, eq_i, eq_s, eq_b, eq_t, eq_l, eqO_l, eqO_ll, ne_i, ne_s, ne_b, ne_t, ne_l, neO_l, neO_ll, ix_t, ix_c, ix_r, ixO_l, ixO_k, ixO_lk, ixO_n, ixO_ln, in_t, in_r, nin_t, nin_r, inO_l, inO_k, inO_lk, inO_n, inO_ln, wkey_i, wkey_s, sl_t, sl_c, sl_r, slO_l, len_t, len_c, len_s, len_r, lenO_l, abs_i, max_i, min_i, int_i, int_b, tup_t, tup_r, tuO_l, lst_t, lst_c, lst_r, lsO_l, set_r, seO_l, seO_k, seO_n, app_r, apO_l, ext_r, exO_l, pop_z, pop_i, poZ_l, poO_l, neg_i,
  ↓s_dispK, dkS_i, dkS_s, dkF_r, iadd_i, iadd_s, r2I_i, wst1, wst2, wst3, wst4, wst5, obOf, isN, rdl_l, put_same, put_put, Option.isSome_some, true_and, and_true, decide_true, decide_false, Option.bind_some, atI_0, atI_1, atI_2, atI_3, atI_4, atI_m1, atI_m2, atI_m3, atI_m4, atI_m5, cut_1, List.map_cons, List.map_nil, List.cons_append, List.nil_append, List.getElem?_cons_zero, List.getElem?_cons_succ, List.length_cons, List.length_nil, List.length_map, List.isEmpty_cons, List.isEmpty_nil, List.set_cons_zero, List.set_cons_succ, List.replicate, Nat.reduceAdd, Nat.reduceSub, Nat.reduceLeDiff, Int.reduceNeg, le_line, lt_line, Bool.not_true, Bool.not_false])
local macro_rules | `(tactic| walk_at "pvh") => `(tactic| try simp only [↓s_seq, ↓s_next, ↓s_ret, ↓s_retN, ↓s_drop, ↓s_set, ↓s_ifS, ↓s_asg, ↓s_gname, ↓s_gnil, ↓s_gcons, ↓s_gtup, tg1_t, ↓s_gsub, ↓s_par, par2_e, ↓s_aug, ↓s_var, ov_some, ↓s_c, ↓s_op, ↓s_un, ↓s_B, ↓s_chain, ↓s_and, ↓s_or, ↓s_not, ↓s_andV, ↓s_orV, ↓s_notV, ↓s_if, ↓s_nil, ↓s_cons, ↓s_tup, ↓s_lst, ↓s_call, ↓s_fn, ↓s_isi, ↓s_mt, ↓s_mt0, ↓s_sl, ↓s_part, ↓s_nopart, ↓s_newK, ↓s_newN, ↓s_yes, wWipe, ↓s_for, ↓s_seqI, ↓s_rng1, ↓s_rng2, ↓s_lc,
  brn_t, brn_f, gt_some, onB_b, itS_tup, itS_cl, itS_ref, rgO_i, rgT_i, prt_i, mtS_r, mtZ_r,
  isQ_int_non, isQ_int_bl, isQ_int_int, isQ_int_str, isQ_int_tup, isQ_int_l, isQ_int_k, isQ_bool_non, isQ_bool_bl, isQ_bool_int, isQ_bool_str, isQ_bool_tup, isQ_bool_l, isQ_bool_k, isQ_str_non, isQ_str_bl, isQ_str_int, isQ_str_str, isQ_str_tup, isQ_str_l, isQ_str_k, isQ_tuple_non, isQ_tuple_bl, isQ_tuple_int, isQ_tuple_str, isQ_tuple_tup, isQ_tuple_l, isQ_tuple_k, isQ_list_non, isQ_list_bl, isQ_list_int, isQ_list_str, isQ_list_tup, isQ_list_l, isQ_list_k, isQ_dict_non, isQ_dict_bl, isQ_dict_int, isQ_dict_str, isQ_dict_tup, isQ_dict_l, isQ_dict_k,
  add_i, add_s, add_t, add_l, addO_l, sub_i, mul_i, mul_t, mul_l, mulO_l, lt_i, le_i, gt_i, ge_i, is_n, isnot_n, is_b, is_bf, isnot_b, isnot_bf, eq_i, eq_s, eq_b, eq_t, eq_l, eqO_l, eqO_ll, ne_i, ne_s, ne_b, ne_t, ne_l, neO_l, neO_ll, ix_t, ix_c, ix_r, ixO_l, ixO_k, ixO_lk, ixO_n, ixO_ln, in_t, in_r, nin_t, nin_r, inO_l, inO_k, inO_lk, inO_n, inO_ln, wkey_i, wkey_s, sl_t, sl_c, sl_r, slO_l, len_t, len_c, len_s, len_r, lenO_l, abs_i, max_i, min_i, int_i, int_b, tup_t, tup_r, tuO_l, lst_t, lst_c, lst_r, lsO_l, set_r, seO_l, seO_k, seO_n, app_r, apO_l, ext_r, exO_l, pop_z, pop_i, poZ_l, poO_l, neg_i,
  ↓s_dispK, dkS_i, dkS_s, dkF_r, iadd_i, iadd_s, r2I_i, wst1, wst2, wst3, wst4, wst5, obOf, isN, rdl_l, put_same, put_put, Option.isSome_some, true_and, and_true, decide_true, decide_false, Option.bind_some, atI_0, atI_1, atI_2, atI_3, atI_4, atI_m1, atI_m2, atI_m3, atI_m4, atI_m5, cut_1, List.map_cons, List.map_nil, List.cons_append, List.nil_append, List.getElem?_cons_zero, List.getElem?_cons_succ, List.length_cons, List.length_nil, List.length_map, List.isEmpty_cons, List.isEmpty_nil, List.set_cons_zero, List.set_cons_succ, List.replicate, Nat.reduceAdd, Nat.reduceSub, Nat.reduceLeDiff, Int.reduceNeg, le_line, lt_line, Bool.not_true, Bool.not_false, put_ne1, put_ne2, *])
def shareN (g : Gs) (run : List Ev) (i : Nat) : Int := ((plcs run).take i).foldl (fun x p => x - lsA g run [p]) (lossG g run)
theorem shareN_succ {g : Gs} {run : List Ev} {i : Nat} {p : Int} (h : (plcs run)[i]? = some p) : shareN g run (i + 1) = shareN g run i - lsA g run [p] := by
  unfold shareN
  rw [List.take_succ, h, List.foldl_append]; rfl
def sp_lost : PSp := fun ws M Q _ => match ws with
  | [gw, .ref a] => ∃ (n : Nat) (c : Cell) (run : List Ev), gw = (Gs.table n c).toW ∧ (Gs.table n c).Ok ∧ M a = some (.lst (run.map evW)) ∧ WaysOk run ∧ run.length ≤ 1000 ∧ (plcs run).length < 64 ∧ Q (.int (shareN (.table n c) run (plcs run).length)) M
  | _ => False
theorem rd_lost (ws M Q E) (h : sp_lost ws M Q E) : t_p_lost_by_sharing sp_passed (sp_first_state 4) sp_places_of sp_misses_at (wEnd Q) (wStart ["guesser", "run", "lost", "place"] ws) M := by
  unfold sp_lost at h
  split at h
  · rename_i gw a
    obtain ⟨n, c, run, rfl, gok, ea, hw, hl, h64, q⟩ := h
    rw [wst2]
    unfold t_p_lost_by_sharing
    walk_at "pv"
    refine ⟨.table n c, rfl, gok, (by show 0 < 4; decide), ?_⟩
    walk_at "pv"
    refine ⟨.table n c, firstG (.table n c), run, rfl, rfl, gok, (by show 0 < 4; decide), first_ok gok, ea, hw, ?_⟩
    walk_at "pv"
    refine ⟨run, ea, hl, h64, fun r M1 hr s1 er => ?_⟩
    walk_at "pv"
    rw [er]
    walk_at "pv"
    have k : Kp none [(r, .lst ((plcs run).map W.int))] M M1 := Kp.start0.come s1 hr er
    refine for_l (a := r) (ws := (plcs run).map W.int) (fun i ρ M' => Kp none [(r, .lst ((plcs run).map W.int))] M M' ∧ ∃ x, ρ = [some (Gs.table n c).toW, some (.ref a), some (.int (shareN (.table n c) run i)), x]) ⟨k, _, rfl⟩ (fun i ρ M' h => h.1.g0) ?_ ?_
    · clear k s1 er
      rintro i w ρ M3 hi ⟨k, x, rfl⟩
      rw [List.getElem?_map] at hi
      obtain ⟨p, hi2, rfl⟩ := Option.map_eq_some_iff.mp hi
      walk_at "pv"
      refine k.fresh_go fun one M4 k s4 => ?_
      walk_at "pv"
      refine ⟨_, run, [p], rfl, gok, (by show 0 < 4; decide), k.old0 ea, k.g0, hw, hl, ?_⟩
      walk_at "pv"
      exact ⟨_, Sub.refl _, k.tail, _, by rw [shareN_succ hi2]; rfl⟩
    · rintro ρ M3 ⟨k, x, rfl⟩
      rw [List.length_map]
      walk_at "pv"
      exact ⟨_, k.sub, q⟩
  · exact h.elim
theorem ixN_in {i : Int} {n : Nat} (h0 : 0 ≤ i) (h1 : i < n) : ixN n i = some i.toNat := by
  unfold ixN
  rw [if_pos (by omega), if_pos (by omega)]
def sp_table_misses : PSp := fun ws M Q _ => match ws with
  | [gw, .ref a] => ∃ (n : Nat) (c : Cell) (run : List Ev), gw = (Gs.table n c).toW ∧ (Gs.table n c).Ok ∧ M a = some (.lst (run.map evW)) ∧ WaysOk run ∧ Q (.int (lossG (.table n c) run)) M
  | _ => False
theorem rep1_int : ∀ {n : Nat}, (List.replicate n [W.int 0]).flatten = (zeros n).map W.int
  | 0 => rfl
  | n + 1 => by
    have := rep1_int (n := n)
    unfold zeros at this ⊢
    rw [List.replicate_succ, List.flatten_cons, this, List.replicate_succ]; rfl
/-- the cells' states of a table -/
def rowOf : St → List Int
  | .row st => st
  | _ => []
theorem pass_row {n : Nat} {c : Cell} (h : (Gs.table n c).Ok) {run : List Ev} {i : Nat} : ∃ st, (passG (.table n c) (run.take i) (0, firstG (.table n c))).2 = .row st ∧ inR n c.1.length st := by
  have ok := passG_ok h (run.take i) (0, firstG (.table n c)) (first_ok h)
  cases e : (passG (.table n c) (run.take i) (0, firstG (.table n c))).2 with
  | row st => rw [e] at ok; exact ⟨st, rfl, ok⟩
  | _ => rw [e] at ok; exact ok.elim
theorem rd_table_misses (ws M Q E) (h : sp_table_misses ws M Q E) : t_l_table_misses (wEnd Q) (wStart ["guesser", "run", "size", "cell", "states", "misses", "place", "way", "at"] ws) M := by
  unfold sp_table_misses at h
  split at h
  · rename_i gw a
    obtain ⟨n, c, run, rfl, gok, ea, hw, q⟩ := h
    rw [wst2]
    unfold t_l_table_misses
    have eg : (Gs.table n c).toW = .tup [.str "table", .int n, cW c] := rfl
    have n1 := gok.1
    have n2 := gok.2.1
    obtain ⟨_, _, k0, hk0, hc⟩ := gok
    have gok : (Gs.table n c).Ok := ⟨n1, n2, k0, hk0, hc⟩
    rw [eg]
    walk_at "pv"
    refine Kp.start0.fresh_go fun l0 M1 k s1 => ?_
    walk_at "pv"
    rw [k.g0]
    walk_at "pv"
    refine ⟨⟨by omega, by omega, line_le (by simp; omega)⟩, ?_⟩
    rw [Int.toNat_natCast, rep1_int]
    have k := k.tail
    refine k.fresh_go fun l M2 k s2 => ?_
    walk_at "pv"
    rw [k.old0 ea]
    walk_at "pv"
    refine for_l (a := a) (ws := run.map evW) (fun i ρ M' => ∃ st m, passG (.table n c) (run.take i) (0, firstG (.table n c)) = (m, .row st) ∧ inR n c.1.length st ∧ Kp none [(l, .lst (st.map W.int))] M M' ∧ ∃ x y z, ρ = [some (.tup [.str "table", .int n, cW c]), some (.ref a), some (.int n), some (cW c), some (.ref l), some (.int m), x, y, z]) ⟨zeros n, 0, rfl, inR_zeros (cellOk_pos hc), k, _, _, _, rfl⟩ (fun i ρ M' ⟨_, _, _, _, h, _⟩ => h.old0 ea) ?_ ?_
    · clear k s1 s2
      rintro i w ρ M3 hi ⟨st, m, ep, inr, k, x, y, z, rfl⟩
      rw [List.getElem?_map] at hi
      obtain ⟨⟨p, way⟩, hi2, rfl⟩ := Option.map_eq_some_iff.mp hi
      have hv := hw _ (List.mem_of_getElem? hi2)
      have nx := passG_take (g := .table n c) (x := (0, firstG (.table n c))) hi2
      have ok2 := passG_ok gok (run.take (i + 1)) (0, firstG (.table n c)) (first_ok gok)
      rw [ep] at nx
      have b0 := Int.emod_nonneg p (b := (n : Int)) (by omega)
      have b1 := Int.emod_lt_of_pos p (b := (n : Int)) (by omega)
      have cl := inr.2 _ (ga_mem b0 (by rw [inr.1]; exact b1))
      have lc := hc.l1
      have at1 := at_ga b0 (show p % n < st.length by rw [inr.1]; exact b1)
      have e1 : guessG (.table n c) (.row st) p = ga c.1 (ga st (p % n)) := rfl
      have e2 : learnG (.table n c) (.row st) p way = .row (st.set (p % n).toNat (nextC c (ga st (p % n)) way)) := rfl
      unfold stepG at nx
      dsimp only at nx
      rw [e1, e2] at nx
      have fin : ∀ v, v = nextC c (ga st (p % n)) way → ∃ M0, Sub M0 (put M3 l (.lst ((st.map W.int).set (p % n).toNat (.int v)))) ∧ ∃ st' m', passG (.table n c) (run.take (i + 1)) (0, firstG (.table n c)) = (m', .row st') ∧ inR n c.1.length st' ∧ Kp none [(l, .lst (st'.map W.int))] M M0 ∧ ∃ x y z, [some (W.tup [.str "table", .int n, cW c]), some (.ref a), some (.int n), some (cW c), some (.ref l), some (.int (m + b2i (!decide (ga c.1 (ga st (p % n)) = way)))), some (.int p), some (.int way), some (.int (p % n))] = [some (W.tup [.str "table", .int n, cW c]), some (.ref a), some (.int n), some (cW c), some (.ref l), some (.int m'), x, y, z] := fun v hv => by
        refine ⟨_, Sub.refl _, _, _, nx, ?_, ?_, _, _, _, rfl⟩
        · rw [nx] at ok2; exact ok2
        · rw [map_set_int, hv]; exact k.set
      unfold evW
      walk_at "pv"
      refine mod_go (by omega) ?_
      walk_at "pv"
      refine gix0 ?_
      walk_at "pv"
      rw [k.g0]
      walk_at "pv"
      refine gt_of at1 ?_
      walk_at "pv"
      refine gt_of (at_ga cl.1 cl.2) ?_
      walk_at "pv"
      rcases hv with hv | hv
      · have hv : way = 0 := hv
        subst hv
        rw [show (1 : Int) + 0 = 1 from rfl]
        refine gix1 ?_
        walk_at "pv"
        rw [k.g0]
        walk_at "pv"
        refine gt_of at1 ?_
        walk_at "pv"
        rw [lc] at cl
        refine gt_of (hc.as cl.1 cl.2) ?_
        walk_at "pv"
        rw [k.g0]
        walk_at "pv"
        refine gt_of (w := (p % n).toNat) (ixN_in b0 (by rw [inr.1]; exact b1)) ?_
        exact fin _ rfl
      · have hv : way = 1 := hv
        subst hv
        rw [show (1 : Int) + 1 = 2 from rfl]
        refine gix2 ?_
        walk_at "pv"
        rw [k.g0]
        walk_at "pv"
        refine gt_of at1 ?_
        walk_at "pv"
        rw [lc] at cl
        refine gt_of (hc.aa cl.1 cl.2) ?_
        walk_at "pv"
        rw [k.g0]
        walk_at "pv"
        refine gt_of (w := (p % n).toNat) (ixN_in b0 (by rw [inr.1]; exact b1)) ?_
        exact fin _ rfl
    · rintro ρ M3 ⟨st, m, ep, inr, k, x, y, z, rfl⟩
      rw [List.length_map, List.take_length] at ep
      walk_at "pv"
      refine ⟨_, k.sub, ?_⟩
      rw [show m = lossG (.table n c) run by unfold lossG; rw [ep]]
      exact q
  · exact h.elim
end PV
set_option maxHeartbeats 4000000
namespace PV
open PySem PySem.Spec PyProof.Rows L2
local macro_rules | `(tactic| walk_at "pv") => `(tactic| try simp only [↓s_seq, ↓s_next, ↓s_ret, ↓s_retN, ↓s_drop, ↓s_set, ↓s_ifS, ↓s_asg, ↓s_gname, ↓s_gnil, ↓s_gcons, ↓s_gtup, tg1_t, ↓s_gsub, ↓s_par, par2_e, ↓s_aug, ↓s_var, ov_some, ↓s_c, ↓s_op, ↓s_un, ↓s_B, ↓s_chain, ↓s_and, ↓s_or, ↓s_not, ↓s_andV, ↓s_orV, ↓s_notV, ↓s_if, ↓s_nil, ↓s_cons, ↓s_tup, ↓s_lst, ↓s_call, ↓s_fn, ↓s_isi, ↓s_mt, ↓s_mt0, ↓s_sl, ↓s_part, ↓s_nopart, ↓s_newK, ↓s_newN, ↓s_yes, wWipe, ↓s_for, ↓s_seqI, ↓s_rng1, ↓s_rng2, ↓s_lc,
  brn_t, brn_f, gt_some, onB_b, itS_tup, itS_cl, itS_ref, rgO_i, rgT_i, prt_i, mtS_r, mtZ_r,
  isQ_int_non, isQ_int_bl, isQ_int_int, isQ_int_str, isQ_int_tup, isQ_int_l, isQ_int_k, isQ_bool_non, isQ_bool_bl, isQ_bool_int, isQ_bool_str, isQ_bool_tup, isQ_bool_l, isQ_bool_k, isQ_str_non, isQ_str_bl, isQ_str_int, isQ_str_str, isQ_str_tup, isQ_str_l, isQ_str_k, isQ_tuple_non, isQ_tuple_bl, isQ_tuple_int, isQ_tuple_str, isQ_tuple_tup, isQ_tuple_l, isQ_tuple_k, isQ_list_non, isQ_list_bl, isQ_list_int, isQ_list_str, isQ_list_tup, isQ_list_l, isQ_list_k, isQ_dict_non, isQ_dict_bl, isQ_dict_int, isQ_dict_str, isQ_dict_tup, isQ_dict_l, isQ_dict_k,
  add_i, add_s, add_t, add_l, addO_l, sub_i, mul_i, mul_t, mul_l, mulO_l, lt_i, le_i, gt_i, ge_i, is_n, isnot_n, is_b, is_bf, isnot_b, isnot_bf, eq_i, eq_s, eq_b, eq_t, eq_l, eqO_l, eqO_ll, ne_i, ne_s, ne_b, ne_t, ne_l, neO_l, neO_ll, ix_t, ix_c, ix_r, ixO_l, ixO_k, ixO_lk, ixO_n, ixO_ln, in_t, in_r, nin_t, nin_r, inO_l, inO_k, inO_lk, inO_n, inO_ln, wkey_i, wkey_s, sl_t, sl_c, sl_r, slO_l, len_t, len_c, len_s, len_r, lenO_l, abs_i, max_i, min_i, int_i, int_b, tup_t, tup_r, tuO_l, lst_t, lst_c, lst_r, lsO_l, set_r, seO_l, seO_k, seO_n, app_r, apO_l, ext_r, exO_l, pop_z, pop_i, poZ_l, poO_l, neg_i,
  ↓s_dispK, dkS_i, dkS_s, dkF_r, iadd_i, iadd_s, r2I_i, wst1, wst2, wst3, wst4, wst5, obOf, isN, rdl_l, put_same, put_put, Option.isSome_some, true_and, and_true, decide_true, decide_false, Option.bind_some, atI_0, atI_1, atI_2, atI_3, atI_4, atI_m1, atI_m2, atI_m3, atI_m4, atI_m5, cut_1, List.map_cons, List.map_nil, List.cons_append, List.nil_append, List.getElem?_cons_zero, List.getElem?_cons_succ, List.length_cons, List.length_nil, List.length_map, List.isEmpty_cons, List.isEmpty_nil, List.set_cons_zero, List.set_cons_succ, List.replicate, Nat.reduceAdd, Nat.reduceSub, Nat.reduceLeDiff, Int.reduceNeg, le_line, lt_line, Bool.not_true, Bool.not_false])
local macro_rules | `(tactic| walk_at "pvh") => `(tactic| try simp only [↓s_seq, ↓s_next, ↓s_ret, ↓s_retN, ↓s_drop, ↓s_set, ↓s_ifS, ↓s_asg, ↓s_gname, ↓s_gnil, ↓s_gcons, ↓s_gtup, tg1_t, ↓s_gsub, ↓s_par, par2_e, ↓s_aug, ↓s_var, ov_some, ↓s_c, ↓s_op, ↓s_un, ↓s_B, ↓s_chain, ↓s_and, ↓s_or, ↓s_not, ↓s_andV, ↓s_orV, ↓s_notV, ↓s_if, ↓s_nil, ↓s_cons, ↓s_tup, ↓s_lst, ↓s_call, ↓s_fn, ↓s_isi, ↓s_mt, ↓s_mt0, ↓s_sl, ↓s_part, ↓s_nopart, ↓s_newK, ↓s_newN, ↓s_yes, wWipe, ↓s_for, ↓s_seqI, ↓s_rng1, ↓s_rng2, ↓s_lc,
  brn_t, brn_f, gt_some, onB_b, itS_tup, itS_cl, itS_ref, rgO_i, rgT_i, prt_i, mtS_r, mtZ_r,
  isQ_int_non, isQ_int_bl, isQ_int_int, isQ_int_str, isQ_int_tup, isQ_int_l, isQ_int_k, isQ_bool_non, isQ_bool_bl, isQ_bool_int, isQ_bool_str, isQ_bool_tup, isQ_bool_l, isQ_bool_k, isQ_str_non, isQ_str_bl, isQ_str_int, isQ_str_str, isQ_str_tup, isQ_str_l, isQ_str_k, isQ_tuple_non, isQ_tuple_bl, isQ_tuple_int, isQ_tuple_str, isQ_tuple_tup, isQ_tuple_l, isQ_tuple_k, isQ_list_non, isQ_list_bl, isQ_list_int, isQ_list_str, isQ_list_tup, isQ_list_l, isQ_list_k, isQ_dict_non, isQ_dict_bl, isQ_dict_int, isQ_dict_str, isQ_dict_tup, isQ_dict_l, isQ_dict_k,
  add_i, add_s, add_t, add_l, addO_l, sub_i, mul_i, mul_t, mul_l, mulO_l, lt_i, le_i, gt_i, ge_i, is_n, isnot_n, is_b, is_bf, isnot_b, isnot_bf, eq_i, eq_s, eq_b, eq_t, eq_l, eqO_l, eqO_ll, ne_i, ne_s, ne_b, ne_t, ne_l, neO_l, neO_ll, ix_t, ix_c, ix_r, ixO_l, ixO_k, ixO_lk, ixO_n, ixO_ln, in_t, in_r, nin_t, nin_r, inO_l, inO_k, inO_lk, inO_n, inO_ln, wkey_i, wkey_s, sl_t, sl_c, sl_r, slO_l, len_t, len_c, len_s, len_r, lenO_l, abs_i, max_i, min_i, int_i, int_b, tup_t, tup_r, tuO_l, lst_t, lst_c, lst_r, lsO_l, set_r, seO_l, seO_k, seO_n, app_r, apO_l, ext_r, exO_l, pop_z, pop_i, poZ_l, poO_l, neg_i,
  ↓s_dispK, dkS_i, dkS_s, dkF_r, iadd_i, iadd_s, r2I_i, wst1, wst2, wst3, wst4, wst5, obOf, isN, rdl_l, put_same, put_put, Option.isSome_some, true_and, and_true, decide_true, decide_false, Option.bind_some, atI_0, atI_1, atI_2, atI_3, atI_4, atI_m1, atI_m2, atI_m3, atI_m4, atI_m5, cut_1, List.map_cons, List.map_nil, List.cons_append, List.nil_append, List.getElem?_cons_zero, List.getElem?_cons_succ, List.length_cons, List.length_nil, List.length_map, List.isEmpty_cons, List.isEmpty_nil, List.set_cons_zero, List.set_cons_succ, List.replicate, Nat.reduceAdd, Nat.reduceSub, Nat.reduceLeDiff, Int.reduceNeg, le_line, lt_line, Bool.not_true, Bool.not_false, put_ne1, put_ne2, *])
def sp_run : PSp := fun ws M Q _ => match ws with
  | [.cl xs] => (∃ ns : List Int, xs = ns.map W.int) ∧ ∀ p (run : List Ev) M', M p = none → Sub M M' → M' p = some (.lst (run.map evW)) → WaysOk run → (∀ e ∈ run, 0 ≤ e.1 ∧ e.1 ≤ 1000) → run.length ≤ 360 → (plcs run).length < 64 → Q (.ref p) M'
  | _ => False
theorem plcs_le {run : List Ev} {l : List Int} (h : ∀ e ∈ run, e.1 ∈ l) : (plcs run).length ≤ l.length := nd_le _ _ (lt_nd plcs_ok.1) fun a ha => by
  obtain ⟨e, h1, h2⟩ := (plcs_ok.2 a).mp ha
  rw [← h2]; exact h e h1
theorem cut_int {ns : List Int} {a b : Nat} : ∃ cs : List Int, cutW (ns.map W.int) (some (a : Int)) (some (b : Int)) = cs.map W.int ∧ cs.length ≤ b - a := by
  refine ⟨(ns.drop (min a ns.length)).take (min b ns.length - min a ns.length), ?_, ?_⟩
  · unfold cutW
    rw [sIx_n, sIx_n, List.length_map, List.map_take, List.map_drop]
  · rw [List.length_take]
    omega
theorem rd_run (ws M Q E) (h : sp_run ws M Q E) : t_l_run sp_cell_at sp_deck sp_dtake (wEnd Q) (wStart ["script", "head", "run", "cell", "deck", "place"] ws) M := by
  unfold sp_run at h
  split at h
  · obtain ⟨⟨ns, rfl⟩, q⟩ := h
    rw [wst1]
    unfold t_l_run
    walk_at "pv"
    refine ⟨ns, rfl, by decide, ?_⟩
    generalize ns.getD (Int.toNat 1) 0 = head
    walk_at "pv"
    refine Kp.start0.fresh_go fun r M1 k _ => ?_
    walk_at "pv"
    obtain ⟨cs, ec, lc⟩ := cut_int (ns := ns) (a := 2) (b := 62)
    have ec : cutW (List.map W.int ns) (some 2) (some 62) = cs.map W.int := ec
    rw [ec]
    refine k.fresh_go fun cl M2 k _ => ?_
    walk_at "pv"
    rw [k.g0]
    walk_at "pv"
    refine for_l (a := cl) (ws := cs.map W.int) (fun i ρ M' => ∃ (run : List Ev), run.length = i ∧ WaysOk run ∧ (∀ e ∈ run, 0 ≤ e.1 ∧ e.1 ≤ 1000) ∧ Kp none [(r, .lst (run.map evW)), (cl, .lst (cs.map W.int))] M M' ∧ ∃ x y z, ρ = [some (.cl (ns.map W.int)), some (.int head), some (.ref r), x, y, z]) ⟨[], rfl, (fun e h => nomatch h), (fun e h => nomatch h), k.sw, _, _, _, rfl⟩ (fun i ρ M' ⟨_, _, _, _, h, _⟩ => h.g1) ?_ ?_
    · clear k
      rintro i w ρ M3 hi ⟨run, hl, hw, hb, k, x, y, z, rfl⟩
      rw [List.getElem?_map] at hi
      obtain ⟨cell, hi2, rfl⟩ := Option.map_eq_some_iff.mp hi
      have hil := (List.getElem?_eq_some_iff.mp hi2).1
      walk_at "pv"
      refine fun d a b M4 hd s4 ed => ?_
      have k := k.come s4 hd ed
      walk_at "pv"
      refine k.deck_go (by decide) (by decide) (by decide) (by decide) fun r1 a1 c1 M5 r10 r11 h10 h11 k => ?_
      walk_at "pv"
      refine k.deck_go h10 (by omega) (by decide) (by decide) fun r2 a2 c2 M6 r20 r21 h20 h21 k => ?_
      walk_at "pv"
      refine ⟨.left (by decide) (by decide), ?_⟩
      walk_at "pv"
      refine k.deck_go h20 (by omega) (by decide) (by decide) fun r3 a3 c3 M7 r30 r31 h30 h31 k => ?_
      walk_at "pv"
      refine k.fresh_go fun tr M8 k _ => ?_
      walk_at "pv"
      refine mod_any (by decide) fun hh hh0 hh1 => ?_
      walk_at "pv"
      rw [k.g0]
      walk_at "pv"
      obtain ⟨pl, hpl, ea⟩ := at_int (r := hh) (ks := [r1, 3 * r2 + 4, r3]) (P := fun x => 0 ≤ x ∧ x ≤ 1000) hh0 (by simpa using hh1) (fun x hx => by simp at hx; omega)
      refine gt_of ea ?_
      have k := k.tail
      walk_at "pv"
      refine ⟨by rw [k.g1]; rfl, ?_⟩
      refine k.deck_go h30 (by omega) (by decide) (by decide) fun r4 a4 c4 M9 r40 r41 h40 h41 k => ?_
      have k := k.tail
      walk_at "pv"
      rw [k.g0]
      walk_at "pv"
      refine ⟨small_line (by omega), _, Sub.refl _, run ++ [(pl, r4)], by rw [List.length_append, hl]; rfl, ?_, ?_, ?_, _, _, _, rfl⟩
      · intro e he
        rcases List.mem_append.mp he with he | he
        · exact hw e he
        · rw [List.mem_singleton.mp he]; show r4 = 0 ∨ r4 = 1; omega
      · intro e he
        rcases List.mem_append.mp he with he | he
        · exact hb e he
        · rw [List.mem_singleton.mp he]; exact hpl
      · rw [List.map_append]; exact k.set
    · clear k
      rintro ρ M3 ⟨run, hl, hw, hb, k, x, y, z, rfl⟩
      rw [List.length_map] at hl
      have l62 : run.length ≤ 60 := by omega
      have h64 : (plcs run).length < 64 := Nat.lt_of_le_of_lt (plcs_le (l := run.map (·.1)) (fun e he => List.mem_map.mpr ⟨e, he, rfl⟩)) (by rw [List.length_map]; omega)
      have hs : ∃ M0, Sub M0 M3 ∧ Q (.ref r) M0 := ⟨_, Sub.refl _, q r run M3 k.f0 k.sub k.g0 hw hb (by omega) h64⟩
      walk_at "pv"
      refine div_any ⟨by decide, by decide⟩ fun h3 => ?_
      walk_at "pv"
      refine mod_any (by decide) fun h5 _ _ => ?_
      walk_at "pv"
      refine brn_dec (fun _ => ?_) (fun _ => ?_)
      · walk_at "pv"
        refine mod_any (by decide) fun h6 _ _ => ?_
        walk_at "pv"
        refine brn_dec (fun _ => ?_) (fun _ => ?_)
        · walk_at "pv"
          rw [k.g0]
          walk_at "pv"
          refine ⟨⟨by decide, by decide, line_le (by simp; omega)⟩, ?_⟩
          have e6 : (List.replicate (Int.toNat 6) (run.map evW)).flatten = ((List.replicate 6 run).flatten).map evW := by
            simp [List.replicate]
          rw [e6]
          refine k.tail.none.fresh_go fun r6 M4 k4 _ => ?_
          have hw6 : ∀ e ∈ (List.replicate 6 run).flatten, e ∈ run := fun e he => by
            obtain ⟨l, h1, h2⟩ := List.mem_flatten.mp he
            rw [List.eq_of_mem_replicate h1] at h2; exact h2
          walk_at "pv"
          exact ⟨_, Sub.refl _, q r6 _ M4 k4.f0 k4.sub k4.g0 (fun e he => hw e (hw6 e he)) (fun e he => hb e (hw6 e he)) (by simp; omega) (Nat.lt_of_le_of_lt (plcs_le (l := run.map (·.1)) (fun e he => List.mem_map.mpr ⟨e, hw6 e he, rfl⟩)) (by rw [List.length_map]; omega))⟩
        · walk_at "pv"
          exact hs
      · walk_at "pv"
        exact hs
  · exact h.elim
def sp_at : PSp := fun ws M Q _ => match ws with
  | [.ref a, .ref b] => ∃ (run : List Ev) (ps : List Int), M a = some (.lst (run.map evW)) ∧ M b = some (.lst (ps.map W.int)) ∧ run.length ≤ 1000 ∧ ∀ p M', M p = none → Sub M M' → M' p = some (.lst ((atP ps run).map evW)) → Q (.ref p) M'
  | _ => False
theorem rd_at (ws M Q E) (h : sp_at ws M Q E) : t_l_at (wEnd Q) (wStart ["run", "places", "event"] ws) M := by
  unfold sp_at at h
  split at h
  · rename_i a b
    obtain ⟨run, ps, ea, eb, hl, q⟩ := h
    rw [wst2]
    unfold t_l_at
    walk_at "pv"
    refine ⟨by rw [ea]; rfl, lc_at (ps := ps) ea hl (fun p v R R0 h1 h0 => ?_) fun r hr => ?_⟩
    · walk_at "pv"
      rw [eb]
      walk_at "pv"
      refine ⟨by rw [flat_ints]; rfl, ?_⟩
      rw [inW_ints]
      cases hp : decide (p ∈ ps) with
      | true =>
        walk_at "pv"
        exact h1 hp _ (Sub.refl _)
      | false => exact h0 hp _ (Sub.refl _)
    · have k := Kp.start0.new (o := .lst ((atP ps run).map evW)) hr
      exact ⟨_, Sub.refl _, q r _ k.f0 k.sub k.g0⟩
  · exact h.elim
end PV
set_option maxHeartbeats 4000000
/-! repr of lists of small data -/
namespace PV
open PySem PySem.Spec PyProof.Rows L2
mutual
/-- small whole numbers, truths, None, tuples of such -/
def sh : W → Bool
  | .non => true
  | .bl _ => true
  | .int i => decide (i.natAbs < 10 ^ 12)
  | .tup ws => shs ws
  | .str _ => false
  | .ref _ => false
  | .cl _ => false
def shs : List W → Bool
  | [] => true
  | w :: ws => sh w && shs ws
end
mutual
/-- how much there is in it -/
def bk : W → Nat
  | .tup ws => bks ws
  | _ => 0
def bks : List W → Nat
  | [] => 0
  | w :: ws => bk w + 1 + bks ws
end
mutual
theorem sh_all : ∀ w : W, sh w = true → nr w = true ∧ (pd w).leavesShort 13 = true ∧ (pd w).showable = true ∧ (pd w).hasDict = false ∧ (pd w).bulk = bk w
  | .non, _ => by refine ⟨rfl, ?_, ?_, ?_, ?_⟩ <;> simp [pd, PyData.leavesShort, PyData.showable, PyData.hasDict, PyData.bulk, bk]
  | .bl b, _ => by refine ⟨rfl, ?_, ?_, ?_, ?_⟩ <;> simp [pd, PyData.leavesShort, PyData.showable, PyData.hasDict, PyData.bulk, bk]
  | .int i, h => by
    have hi : i.natAbs < 10 ^ 12 := of_decide_eq_true (by simpa [sh] using h)
    refine ⟨rfl, ?_, ?_, ?_, ?_⟩
    · simp only [pd, PyData.leavesShort, decide_eq_true_eq]
      exact PyData.shown_int_le hi
    · simp only [pd, PyData.showable, decide_eq_true_eq]
      exact log2_small (Nat.lt_of_lt_of_le hi (Nat.le_trans (show 10 ^ 12 ≤ 2 ^ 40 by decide) (Nat.pow_le_pow_right (by decide) (by decide))))
    · simp [pd, PyData.hasDict]
    · simp [pd, PyData.bulk, bk]
  | .tup ws, h => by
    obtain ⟨h1, h2, h3, h4, h5⟩ := shs_all ws (by simpa [sh] using h)
    refine ⟨by simpa [nr] using h1, ?_, ?_, ?_, ?_⟩
    · simpa [pd, PyData.leavesShort] using h2
    · simpa [pd, PyData.showable] using h3
    · simpa [pd, PyData.hasDict] using h4
    · simpa [pd, PyData.bulk, bk] using h5
  | .str _, h => by simp [sh] at h
  | .ref _, h => by simp [sh] at h
  | .cl _, h => by simp [sh] at h
theorem shs_all : ∀ ws : List W, shs ws = true → nrs ws = true ∧ PyData.leavesShortAll 13 (pds ws) = true ∧ PyData.showableAll (pds ws) = true ∧ PyData.hasDictAll (pds ws) = false ∧ PyData.bulkAll (pds ws) = bks ws
  | [], _ => by refine ⟨rfl, ?_, ?_, ?_, ?_⟩ <;> simp [pds, PyData.leavesShortAll, PyData.showableAll, PyData.hasDictAll, PyData.bulkAll, bks]
  | w :: ws, h => by
    have h' : sh w = true ∧ shs ws = true := by simpa [shs] using h
    obtain ⟨a1, a2, a3, a4, a5⟩ := sh_all w h'.1
    obtain ⟨b1, b2, b3, b4, b5⟩ := shs_all ws h'.2
    refine ⟨by simp [nrs, a1, b1], ?_, ?_, ?_, ?_⟩
    · simp [pds, PyData.leavesShortAll, a2, b2]
    · simp [pds, PyData.showableAll, a3, b3]
    · simp [pds, PyData.hasDictAll, a4, b4]
    · simp [pds, PyData.bulkAll, bks, a5, b5]
end
/-- the text of a list -/
def shownL (ws : List W) : Str := (PyData.list (pds ws)).shown
theorem repr_go {M : Me} {a : Addr} {ws : List W} {Q : WK} {tg : Tg Q} (e : M a = some (.lst ws)) (h : shs ws = true) (hd : dps ws ≤ 50) (hb : bks ws ≤ 2 ^ 20) (k : Q (.str (shownL ws)) M) : lz (rRepr [.ref a] M) Q tg := by
  obtain ⟨h1, h2, h3, h4, h5⟩ := shs_all ws h
  refine ⟨.list (pds ws), ?_, by simpa [PyData.showable] using h3, by simpa [PyData.hasDict] using h4, ?_, ?_, k⟩
  · unfold Dw
    exact ⟨a, ws, rfl, by rw [e]; rfl, pds_dw ws h1⟩
  · simp only [PyData.depth]
    rw [dps_depth]
    omega
  · exact PyData.shown_fits_bulk (B := 13) (by decide) (by decide) (by simpa [PyData.leavesShort] using h2) (by simpa [PyData.bulk, h5] using hb)
end PV
set_option maxHeartbeats 4000000
/-! data of whole numbers and tuples alone -/
namespace PV
open PySem PySem.Spec PyProof.Rows L2
mutual
def ik : W → Bool
  | .int _ => true
  | .tup ws => iks ws
  | .non => false
  | .bl _ => false
  | .str _ => false
  | .ref _ => false
  | .cl _ => false
def iks : List W → Bool
  | [] => true
  | w :: ws => ik w && iks ws
end
mutual
theorem ik_nr : ∀ w : W, ik w = true → nr w = true ∧ kr w = true
  | .int _, _ => ⟨rfl, rfl⟩
  | .tup ws, h => by
    have := iks_nr ws (by simpa [ik] using h)
    exact ⟨by simpa [nr] using this.1, by simpa [kr] using this.2⟩
  | .non, h => by simp [ik] at h
  | .bl _, h => by simp [ik] at h
  | .str _, h => by simp [ik] at h
  | .ref _, h => by simp [ik] at h
  | .cl _, h => by simp [ik] at h
theorem iks_nr : ∀ ws : List W, iks ws = true → nrs ws = true ∧ krs ws = true
  | [], _ => ⟨rfl, rfl⟩
  | w :: ws, h => by
    have h' : ik w = true ∧ iks ws = true := by simpa [iks] using h
    have a := ik_nr w h'.1
    have b := iks_nr ws h'.2
    exact ⟨by simp [nrs, a.1, b.1], by simp [krs, a.2, b.2]⟩
end
mutual
theorem nk_inj : ∀ x y : W, ik x = true → ik y = true → nk x = nk y → x = y
  | .int i, .int j, _, _, h => by simp [nk] at h; rw [h]
  | .int i, .tup ys, _, _, h => by simp [nk] at h
  | .tup xs, .int j, _, _, h => by simp [nk] at h
  | .tup xs, .tup ys, hx, hy, h => by
    rw [nks_inj xs ys (by simpa [ik] using hx) (by simpa [ik] using hy) (by simpa [nk] using h)]
  | .non, _, h, _, _ => by simp [ik] at h
  | .bl _, _, h, _, _ => by simp [ik] at h
  | .str _, _, h, _, _ => by simp [ik] at h
  | .ref _, _, h, _, _ => by simp [ik] at h
  | .cl _, _, h, _, _ => by simp [ik] at h
  | .int _, .non, _, h, _ => by simp [ik] at h
  | .int _, .bl _, _, h, _ => by simp [ik] at h
  | .int _, .str _, _, h, _ => by simp [ik] at h
  | .int _, .ref _, _, h, _ => by simp [ik] at h
  | .int _, .cl _, _, h, _ => by simp [ik] at h
  | .tup _, .non, _, h, _ => by simp [ik] at h
  | .tup _, .bl _, _, h, _ => by simp [ik] at h
  | .tup _, .str _, _, h, _ => by simp [ik] at h
  | .tup _, .ref _, _, h, _ => by simp [ik] at h
  | .tup _, .cl _, _, h, _ => by simp [ik] at h
theorem nks_inj : ∀ xs ys : List W, iks xs = true → iks ys = true → nks xs = nks ys → xs = ys
  | [], [], _, _, _ => rfl
  | [], y :: ys, _, _, h => by simp [nks] at h
  | x :: xs, [], _, _, h => by simp [nks] at h
  | x :: xs, y :: ys, hx, hy, h => by
    have hx' : ik x = true ∧ iks xs = true := by simpa [iks] using hx
    have hy' : ik y = true ∧ iks ys = true := by simpa [iks] using hy
    have h' : nk x = nk y ∧ nks xs = nks ys := by simpa [nks] using h
    rw [nk_inj x y hx'.1 hy'.1 h'.1, nks_inj xs ys hx'.2 hy'.2 h'.2]
end
mutual
theorem weq_ik : ∀ x y : W, ik x = true → ik y = true → weq x y = true → x = y
  | .int i, .int j, _, _, h => by simp [weq, pd, PyData.eqv] at h; rw [h]
  | .int i, .tup ys, _, _, h => by simp [weq, pd, PyData.eqv] at h
  | .tup xs, .int j, _, _, h => by simp [weq, pd, PyData.eqv] at h
  | .tup xs, .tup ys, hx, hy, h => by
    rw [weqs_ik xs ys (by simpa [ik] using hx) (by simpa [ik] using hy) (by simpa [weq, pd, PyData.eqv, weqs] using h)]
  | .non, _, h, _, _ => by simp [ik] at h
  | .bl _, _, h, _, _ => by simp [ik] at h
  | .str _, _, h, _, _ => by simp [ik] at h
  | .ref _, _, h, _, _ => by simp [ik] at h
  | .cl _, _, h, _, _ => by simp [ik] at h
  | .int _, .non, _, h, _ => by simp [ik] at h
  | .int _, .bl _, _, h, _ => by simp [ik] at h
  | .int _, .str _, _, h, _ => by simp [ik] at h
  | .int _, .ref _, _, h, _ => by simp [ik] at h
  | .int _, .cl _, _, h, _ => by simp [ik] at h
  | .tup _, .non, _, h, _ => by simp [ik] at h
  | .tup _, .bl _, _, h, _ => by simp [ik] at h
  | .tup _, .str _, _, h, _ => by simp [ik] at h
  | .tup _, .ref _, _, h, _ => by simp [ik] at h
  | .tup _, .cl _, _, h, _ => by simp [ik] at h
theorem weqs_ik : ∀ xs ys : List W, iks xs = true → iks ys = true → weqs xs ys = true → xs = ys
  | [], [], _, _, _ => rfl
  | [], y :: ys, _, _, h => by simp [weqs, pds, PyData.eqvAll] at h
  | x :: xs, [], _, _, h => by simp [weqs, pds, PyData.eqvAll] at h
  | x :: xs, y :: ys, hx, hy, h => by
    have hx' : ik x = true ∧ iks xs = true := by simpa [iks] using hx
    have hy' : ik y = true ∧ iks ys = true := by simpa [iks] using hy
    have h' : weq x y = true ∧ weqs xs ys = true := by simpa [weqs, weq, pds, PyData.eqvAll] using h
    rw [weq_ik x y hx'.1 hy'.1 h'.1, weqs_ik xs ys hx'.2 hy'.2 h'.2]
end
theorem weq_refl {x : W} (h : nr x = true) : weq x x = true := SeqAt.eqv_refl _ (nr_lay x h)
theorem weqs_refl {xs : List W} (h : nrs xs = true) : weqs xs xs = true := by
  have := SeqAt.eqv_refl (.list (pds xs)) (by simpa [PyData.canLay0] using nrs_lay xs h)
  simpa [PyData.eqv, weqs] using this
theorem weq_dec {x y : W} (hx : ik x = true) (hy : ik y = true) : (weq x y = true) = (x = y) := propext ⟨weq_ik x y hx hy, fun e => by rw [e]; exact weq_refl (ik_nr y hy).1⟩
theorem weqs_dec {xs ys : List W} (hx : iks xs = true) (hy : iks ys = true) : (weqs xs ys = true) = (xs = ys) := propext ⟨weqs_ik xs ys hx hy, fun e => by rw [e]; exact weqs_refl (iks_nr ys hy).1⟩
theorem iks_ints : ∀ xs : List Int, iks (xs.map W.int) = true
  | [] => rfl
  | x :: xs => by simp [iks, ik, iks_ints xs]
theorem iks_all {ws : List W} (h : ∀ w ∈ ws, ik w = true) : iks ws = true := by
  induction ws with
  | nil => rfl
  | cons w ws ih => simp [iks, h w (.head _), ih fun x hx => h x (.tail _ hx)]
theorem iks_app {xs ys : List W} (h1 : iks xs = true) (h2 : iks ys = true) : iks (xs ++ ys) = true := by
  induction xs with
  | nil => exact h2
  | cons w ws ih =>
    have h' : ik w = true ∧ iks ws = true := by simpa [iks] using h1
    simp [iks, h'.1, ih h'.2]
theorem dps_all {ws : List W} {n : Nat} (h : ∀ w ∈ ws, dp w ≤ n) : dps ws ≤ n := by
  induction ws with
  | nil => simp [dps]
  | cons w ws ih =>
    have := h w (.head _)
    have := ih fun x hx => h x (.tail _ hx)
    simp only [dps]; omega
theorem shs_of {ws : List W} (h : ∀ w ∈ ws, sh w = true) : shs ws = true := by
  induction ws with
  | nil => rfl
  | cons w ws ih => simp [shs, h w (.head _), ih fun x hx => h x (.tail _ hx)]
theorem bks_le {ws : List W} {n : Nat} (h : ∀ w ∈ ws, bk w ≤ n) : bks ws ≤ ws.length * (n + 1) := by
  induction ws with
  | nil => simp [bks]
  | cons w ws ih =>
    have := h w (.head _)
    have := ih fun x hx => h x (.tail _ hx)
    simp only [bks, List.length_cons, Nat.add_mul]; omega
/-! == of lists that are the same -/
section
variable {M : Me} {Q : WK} {tg : Tg Q} {a b : Addr} {xs ys : List W}
theorem eqO_dec (ea : M a = some (.lst xs)) (eb : M b = some (.lst ys)) (hx : iks xs = true) (hy : iks ys = true) (dx : dps xs ≤ 60) (dy : dps ys ≤ 60) (k : Q (.bl (weqs xs ys)) M) : lz (eqO (M a) (M b) M) Q tg := by
  rw [ea, eb]
  cases ys with
  | nil =>
    rw [eqO_l]
    rw [show weqs xs [] = xs.isEmpty by cases xs <;> simp [weqs, pds, PyData.eqvAll]] at k
    exact k
  | cons y ys =>
    rw [eqO_ll]
    exact ⟨by simp [flts, (iks_nr _ hx).1, (iks_nr _ hy).1, dx, dy], k⟩
theorem neO_dec (ea : M a = some (.lst xs)) (eb : M b = some (.lst ys)) (hx : iks xs = true) (hy : iks ys = true) (dx : dps xs ≤ 60) (dy : dps ys ≤ 60) (k : Q (.bl (!weqs xs ys)) M) : lz (neO (M a) (M b) M) Q tg := by
  rw [ea, eb]
  cases ys with
  | nil =>
    rw [neO_l]
    rw [show weqs xs [] = xs.isEmpty by cases xs <;> simp [weqs, pds, PyData.eqvAll]] at k
    exact k
  | cons y ys =>
    rw [neO_ll]
    exact ⟨by simp [flts, (iks_nr _ hx).1, (iks_nr _ hy).1, dx, dy], k⟩
theorem eqO_same (ea : M a = some (.lst xs)) (eb : M b = some (.lst xs)) (hx : iks xs = true) (dx : dps xs ≤ 60) (k : Q (.bl true) M) : lz (eqO (M a) (M b) M) Q tg := eqO_dec ea eb hx hx dx dx (by rw [weqs_refl (iks_nr _ hx).1]; exact k)
theorem neO_same (ea : M a = some (.lst xs)) (eb : M b = some (.lst xs)) (hx : iks xs = true) (dx : dps xs ≤ 60) (k : Q (.bl false) M) : lz (neO (M a) (M b) M) Q tg := neO_dec ea eb hx hx dx dx (by rw [weqs_refl (iks_nr _ hx).1]; exact k)
end
end PV
set_option maxHeartbeats 4000000
namespace PV
open PySem PySem.Spec PyProof.Rows L2
local macro_rules | `(tactic| walk_at "pv") => `(tactic| try simp only [↓s_seq, ↓s_next, ↓s_ret, ↓s_retN, ↓s_drop, ↓s_set, ↓s_ifS, ↓s_asg, ↓s_gname, ↓s_gnil, ↓s_gcons, ↓s_gtup, tg1_t, ↓s_gsub, ↓s_par, par2_e, ↓s_aug, ↓s_var, ov_some, ↓s_c, ↓s_op, ↓s_un, ↓s_B, ↓s_chain, ↓s_and, ↓s_or, ↓s_not, ↓s_andV, ↓s_orV, ↓s_notV, ↓s_if, ↓s_nil, ↓s_cons, ↓s_tup, ↓s_lst, ↓s_call, ↓s_fn, ↓s_isi, ↓s_mt, ↓s_mt0, ↓s_sl, ↓s_part, ↓s_nopart, ↓s_newK, ↓s_newN, ↓s_yes, wWipe, ↓s_for, ↓s_seqI, ↓s_rng1, ↓s_rng2, ↓s_lc,
  brn_t, brn_f, gt_some, onB_b, itS_tup, itS_cl, itS_ref, rgO_i, rgT_i, prt_i, mtS_r, mtZ_r,
  isQ_int_non, isQ_int_bl, isQ_int_int, isQ_int_str, isQ_int_tup, isQ_int_l, isQ_int_k, isQ_bool_non, isQ_bool_bl, isQ_bool_int, isQ_bool_str, isQ_bool_tup, isQ_bool_l, isQ_bool_k, isQ_str_non, isQ_str_bl, isQ_str_int, isQ_str_str, isQ_str_tup, isQ_str_l, isQ_str_k, isQ_tuple_non, isQ_tuple_bl, isQ_tuple_int, isQ_tuple_str, isQ_tuple_tup, isQ_tuple_l, isQ_tuple_k, isQ_list_non, isQ_list_bl, isQ_list_int, isQ_list_str, isQ_list_tup, isQ_list_l, isQ_list_k, isQ_dict_non, isQ_dict_bl, isQ_dict_int, isQ_dict_str, isQ_dict_tup, isQ_dict_l, isQ_dict_k,
  add_i, add_s, add_t, add_l, addO_l, sub_i, mul_i, mul_t, mul_l, mulO_l, lt_i, le_i, gt_i, ge_i, is_n, isnot_n, is_b, is_bf, isnot_b, isnot_bf, eq_i, eq_s, eq_b, eq_t, eq_l, eqO_l, eqO_ll, ne_i, ne_s, ne_b, ne_t, ne_l, neO_l, neO_ll, ix_t, ix_c, ix_r, ixO_l, ixO_k, ixO_lk, ixO_n, ixO_ln, in_t, in_r, nin_t, nin_r, inO_l, inO_k, inO_lk, inO_n, inO_ln, wkey_i, wkey_s, sl_t, sl_c, sl_r, slO_l, len_t, len_c, len_s, len_r, lenO_l, abs_i, max_i, min_i, int_i, int_b, tup_t, tup_r, tuO_l, lst_t, lst_c, lst_r, lsO_l, set_r, seO_l, seO_k, seO_n, app_r, apO_l, ext_r, exO_l, pop_z, pop_i, poZ_l, poO_l, neg_i,
  ↓s_dispK, dkS_i, dkS_s, dkF_r, iadd_i, iadd_s, r2I_i, wst1, wst2, wst3, wst4, wst5, obOf, isN, rdl_l, put_same, put_put, Option.isSome_some, true_and, and_true, decide_true, decide_false, Option.bind_some, atI_0, atI_1, atI_2, atI_3, atI_4, atI_m1, atI_m2, atI_m3, atI_m4, atI_m5, cut_1, List.map_cons, List.map_nil, List.cons_append, List.nil_append, List.getElem?_cons_zero, List.getElem?_cons_succ, List.length_cons, List.length_nil, List.length_map, List.isEmpty_cons, List.isEmpty_nil, List.set_cons_zero, List.set_cons_succ, List.replicate, Nat.reduceAdd, Nat.reduceSub, Nat.reduceLeDiff, Int.reduceNeg, le_line, lt_line, Bool.not_true, Bool.not_false])
local macro_rules | `(tactic| walk_at "pvh") => `(tactic| try simp only [↓s_seq, ↓s_next, ↓s_ret, ↓s_retN, ↓s_drop, ↓s_set, ↓s_ifS, ↓s_asg, ↓s_gname, ↓s_gnil, ↓s_gcons, ↓s_gtup, tg1_t, ↓s_gsub, ↓s_par, par2_e, ↓s_aug, ↓s_var, ov_some, ↓s_c, ↓s_op, ↓s_un, ↓s_B, ↓s_chain, ↓s_and, ↓s_or, ↓s_not, ↓s_andV, ↓s_orV, ↓s_notV, ↓s_if, ↓s_nil, ↓s_cons, ↓s_tup, ↓s_lst, ↓s_call, ↓s_fn, ↓s_isi, ↓s_mt, ↓s_mt0, ↓s_sl, ↓s_part, ↓s_nopart, ↓s_newK, ↓s_newN, ↓s_yes, wWipe, ↓s_for, ↓s_seqI, ↓s_rng1, ↓s_rng2, ↓s_lc,
  brn_t, brn_f, gt_some, onB_b, itS_tup, itS_cl, itS_ref, rgO_i, rgT_i, prt_i, mtS_r, mtZ_r,
  isQ_int_non, isQ_int_bl, isQ_int_int, isQ_int_str, isQ_int_tup, isQ_int_l, isQ_int_k, isQ_bool_non, isQ_bool_bl, isQ_bool_int, isQ_bool_str, isQ_bool_tup, isQ_bool_l, isQ_bool_k, isQ_str_non, isQ_str_bl, isQ_str_int, isQ_str_str, isQ_str_tup, isQ_str_l, isQ_str_k, isQ_tuple_non, isQ_tuple_bl, isQ_tuple_int, isQ_tuple_str, isQ_tuple_tup, isQ_tuple_l, isQ_tuple_k, isQ_list_non, isQ_list_bl, isQ_list_int, isQ_list_str, isQ_list_tup, isQ_list_l, isQ_list_k, isQ_dict_non, isQ_dict_bl, isQ_dict_int, isQ_dict_str, isQ_dict_tup, isQ_dict_l, isQ_dict_k,
  add_i, add_s, add_t, add_l, addO_l, sub_i, mul_i, mul_t, mul_l, mulO_l, lt_i, le_i, gt_i, ge_i, is_n, isnot_n, is_b, is_bf, isnot_b, isnot_bf, eq_i, eq_s, eq_b, eq_t, eq_l, eqO_l, eqO_ll, ne_i, ne_s, ne_b, ne_t, ne_l, neO_l, neO_ll, ix_t, ix_c, ix_r, ixO_l, ixO_k, ixO_lk, ixO_n, ixO_ln, in_t, in_r, nin_t, nin_r, inO_l, inO_k, inO_lk, inO_n, inO_ln, wkey_i, wkey_s, sl_t, sl_c, sl_r, slO_l, len_t, len_c, len_s, len_r, lenO_l, abs_i, max_i, min_i, int_i, int_b, tup_t, tup_r, tuO_l, lst_t, lst_c, lst_r, lsO_l, set_r, seO_l, seO_k, seO_n, app_r, apO_l, ext_r, exO_l, pop_z, pop_i, poZ_l, poO_l, neg_i,
  ↓s_dispK, dkS_i, dkS_s, dkF_r, iadd_i, iadd_s, r2I_i, wst1, wst2, wst3, wst4, wst5, obOf, isN, rdl_l, put_same, put_put, Option.isSome_some, true_and, and_true, decide_true, decide_false, Option.bind_some, atI_0, atI_1, atI_2, atI_3, atI_4, atI_m1, atI_m2, atI_m3, atI_m4, atI_m5, cut_1, List.map_cons, List.map_nil, List.cons_append, List.nil_append, List.getElem?_cons_zero, List.getElem?_cons_succ, List.length_cons, List.length_nil, List.length_map, List.isEmpty_cons, List.isEmpty_nil, List.set_cons_zero, List.set_cons_succ, List.replicate, Nat.reduceAdd, Nat.reduceSub, Nat.reduceLeDiff, Int.reduceNeg, le_line, lt_line, Bool.not_true, Bool.not_false, put_ne1, put_ne2, *])
def sp_due : PSp := fun ws M Q _ => match ws with
  | [gw, .ref a] => ∃ (n : Nat) (c : Cell) (run : List Ev), gw = (Gs.table n c).toW ∧ (Gs.table n c).Ok ∧ M a = some (.lst (run.map evW)) ∧ WaysOk run ∧ run.length ≤ 1000 ∧ (plcs run).length < 64 ∧ ∀ p M', M p = none → Sub M M' → M' p = some (.lst (spoilW n c run)) → Q (.ref p) M'
  | _ => False
theorem sub_mod {n : Nat} {p o : Int} : ((o - p) % n = 0) ↔ (p % n = o % n) := by
  rw [← Int.emod_eq_emod_iff_emod_sub_eq_zero]
  exact eq_comm
theorem map_fst {run : List Ev} : (run.map evW).map (fun w => match w with | .tup [.int p, _] => W.int p | _ => .non) = (run.map (·.1)).map W.int := by
  rw [List.map_map, List.map_map]; rfl
theorem plcs_set {run : List Ev} {ns : List Int} (h : ns.Pairwise (· < ·)) (hm : ∀ k, k ∈ ns ↔ k ∈ run.map (·.1)) : ns = plcs run :=
  IsPl.eq ⟨h, fun k => (hm k).trans (by rw [List.mem_map])⟩
def pl1 (w : W) : W := match w with
  | .tup [.int p, _] => .int p
  | _ => .non
/-- [place for place, way in run] -/
theorem lc_fst {a : Addr} {run : List Ev} {M : Me} {ρ : En} {g : WG} {te : WE} {vs : List Nat} {Q : WK} (ea : M a = some (.lst (run.map evW))) (hl : run.length ≤ 1000)
    (hs : ∀ (p v : Int) (R : WK), (∀ M4, Sub M M4 → R (.int p) M4) → g (.tup [.int p, .int v]) (wWipe ρ vs) M fun ρ2 M2 => te ρ2 M2 R)
    (hd : ∀ q, M q = none → Q (.ref q) (put M q (.lst ((run.map (·.1)).map W.int)))) : wLcB (fun M => rdl (M a)) g wYes te vs ρ M Q := by
  refine lc_m (ws := run.map evW) (by show rdl (M a) = _; rw [ea]; rfl) (by rw [List.length_map]; omega) pl1 (fun i w hi R h1 => ?_) (by
    rw [show (run.map evW).map pl1 = (run.map (·.1)).map W.int by rw [List.map_map, List.map_map]; rfl]
    exact hd)
  rw [List.getElem?_map] at hi
  obtain ⟨⟨p, v⟩, hi2, rfl⟩ := Option.map_eq_some_iff.mp hi
  exact hs p v R h1
theorem rd_due (ws M Q E) (h : sp_due ws M Q E) : t_l_due sp_table_misses sp_at (wEnd Q) (wStart ["guesser", "run", "place", "places", "alone", "found", "one", "other", "both", "lost", "way"] ws) M := by
  unfold sp_due at h
  split at h
  · rename_i gw a
    obtain ⟨n, c, run, rfl, gok, ea, hw, hl, h64, q⟩ := h
    rw [wst2]
    unfold t_l_due
    have hn := gok.1
    obtain ⟨ps, eps⟩ : ∃ ps, ps = plcs run := ⟨_, rfl⟩
    have nd := lt_nd (plcs_ok (run := run)).1
    walk_at "pv"
    unfold wSortedSet
    walk_at "pv"
    refine ⟨by rw [ea]; rfl, lc_fst ea hl (fun p v R h1 => ?_) fun r0 hr0 => ?_⟩
    · walk_at "pv"
      exact h1 _ (Sub.refl _)
    have k := Kp.start0.new (o := .lst ((run.map (·.1)).map W.int)) hr0
    generalize put M r0 _ = M0 at k
    refine ⟨run.map (·.1), by rw [k.g0]; rfl, ⟨by rw [List.length_map]; omega, plcs run, h64, fun j hj => (plcs_ok.2 j).mpr (List.mem_map.mp hj)⟩, fun ns' pw mem r hr => ?_⟩
    have er := plcs_set pw mem
    subst er
    have k := k.none.new (o := .lst ((plcs run).map W.int)) hr
    generalize put M0 r _ = M1 at k
    unfold spoilW at q
    rw [← eps] at k h64 q nd
    walk_at "pv"
    refine k.fresh_go fun al M2 k _ => ?_
    walk_at "pv"
    rw [k.g1]
    walk_at "pv"
    refine for_l (a := r) (ws := ps.map W.int) (fun i ρ M' => Kp none [(al, .dK (alK (.table n c) run (ps.take i))), (r, .lst (ps.map W.int))] M M' ∧ ∃ x, ρ = [some (Gs.table n c).toW, some (.ref a), x, some (.ref r), some (.ref al), none, none, none, none, none, none]) ⟨k, _, rfl⟩ (fun i ρ M' h => h.1.g1) ?_ ?_
    · clear k
      rintro i w ρ M3 hi ⟨k, x, rfl⟩
      rw [List.getElem?_map] at hi
      obtain ⟨p, hi2, rfl⟩ := Option.map_eq_some_iff.mp hi
      obtain ⟨hnew, et⟩ := take_new nd hi2
      walk_at "pv"
      refine k.fresh_go fun one M4 k s4 => ?_
      walk_at "pv"
      refine ⟨run, [p], k.old0 ea, k.g0, hl, fun rr M5 hr5 s5 er5 => ?_⟩
      have k := k.come s5 hr5 er5
      walk_at "pv"
      refine ⟨n, c, atP [p] run, rfl, gok, k.g0, ways_at hw, ?_⟩
      walk_at "pv"
      have k := k.tail.tail
      rw [k.g0]
      walk_at "pv"
      refine ⟨small_line (by rw [alK_len, List.length_take]; omega), ?_⟩
      rw [show lossG (.table n c) (atP [p] run) = lsA (.table n c) run [p] from rfl, alK_snoc hnew, ← et]
      exact ⟨_, Sub.refl _, k.set, _, rfl⟩
    · clear k
      rintro ρ M3 ⟨k, x, rfl⟩
      rw [List.length_map, List.take_length] at k
      walk_at "pv"
      refine k.fresh_go fun fd M4 k _ => ?_
      walk_at "pv"
      have m2 := k.g2
      rw [m2]
      walk_at "pv"
      refine for_l (a := r) (ws := ps.map W.int) (fun i ρ M' => Kp none [(fd, .lst ((spS (.table n c) n run ps i).map trW)), (al, .dK (alK (.table n c) run ps)), (r, .lst (ps.map W.int))] M M' ∧ ∃ u v y z, ρ = [some (Gs.table n c).toW, some (.ref a), x, some (.ref r), some (.ref al), some (.ref fd), u, v, y, z, none]) ⟨k, _, _, _, _, rfl⟩ (fun i ρ M' h => h.1.g2) ?_ ?_
      · clear k m2
        rintro i w ρ M5 hi ⟨k, u, v, y, z, rfl⟩
        rw [List.getElem?_map] at hi
        obtain ⟨p, hi2, rfl⟩ := Option.map_eq_some_iff.mp hi
        have hp : p ∈ ps := List.mem_of_getElem? hi2
        walk_at "pv"
        rw [k.g2]
        walk_at "pv"
        refine for_l (a := r) (ws := ps.map W.int) (fun j ρ M' => Kp none [(fd, .lst ((spS (.table n c) n run ps i ++ inS (.table n c) n run ps p j).map trW)), (al, .dK (alK (.table n c) run ps)), (r, .lst (ps.map W.int))] M M' ∧ ∃ v y z, ρ = [some (Gs.table n c).toW, some (.ref a), x, some (.ref r), some (.ref al), some (.ref fd), some (.int p), v, y, z, none]) ⟨by simpa [inS] using k, _, _, _, rfl⟩ (fun i ρ M' h => h.1.g2) ?_ ?_
        · clear k
          rintro j w ρ M6 hj ⟨k, v, y, z, rfl⟩
          rw [List.getElem?_map] at hj
          obtain ⟨o, hj2, rfl⟩ := Option.map_eq_some_iff.mp hj
          have ho : o ∈ ps := List.mem_of_getElem? hj2
          have nx := inS_succ (g := .table n c) (n := n) (run := run) (p := p) hj2
          have ls1 := spS_len (g := .table n c) (n := n) (run := run) (i := i) h64
          have ls2 := inS_len (g := .table n c) (n := n) (run := run) (p := p) (j := j) h64
          have eg : (Gs.table n c).toW = .tup [.str "table", .int n, cW c] := rfl
          have skip : rowS (.table n c) n run p o = [] → ∃ M0, Sub M0 M6 ∧ Kp none [(fd, .lst ((spS (.table n c) n run ps i ++ inS (.table n c) n run ps p (j + 1)).map trW)), (al, .dK (alK (.table n c) run ps)), (r, .lst (ps.map W.int))] M M0 := fun e => ⟨M6, Sub.refl _, by rw [nx, e, List.append_nil]; exact k⟩
          rw [eg]
          walk_at "pv"
          refine brn_dec (fun h1 => ?_) (fun h1 => ?_)
          · walk_at "pv"
            refine mod_go (by omega) ?_
            walk_at "pv"
            refine brn_dec (fun h2 => ?_) (fun h2 => ?_)
            · have h2 := sub_mod.mp h2
              walk_at "pv"
              refine k.fresh_go fun two M7 k _ => ?_
              walk_at "pv"
              refine ⟨run, [p, o], k.old0 ea, k.g0, hl, fun rr M8 hr8 s8 er8 => ?_⟩
              have k := k.come s8 hr8 er8
              walk_at "pv"
              refine ⟨n, c, atP [p, o] run, rfl, gok, k.g0, ways_at hw, ?_⟩
              have k := k.tail.tail
              have k2 := k.g1
              walk_at "pv"
              rw [k2]
              walk_at "pv"
              refine gt_of (w := .int (lsA (.table n c) run [p])) (by rw [look_alK, if_pos hp]) ?_
              walk_at "pv"
              rw [k2]
              walk_at "pv"
              refine gt_of (w := .int (lsA (.table n c) run [o])) (by rw [look_alK, if_pos ho]) ?_
              walk_at "pv"
              rw [show lossG (.table n c) (atP [p, o] run) - lsA (.table n c) run [p] - lsA (.table n c) run [o] = lost2 (.table n c) run p o from rfl]
              have er : rowS (.table n c) n run p o = if lost2 (.table n c) run p o = 0 then [] else [(p, o, lost2 (.table n c) run p o)] := by
                unfold rowS; rw [if_pos ⟨h1, h2⟩]
              rw [er] at nx
              generalize lost2 (.table n c) run p o = l at nx er
              refine brn_i (fun h3 => ?_) (fun h3 => ?_)
              · have h4 : ¬ l = 0 := by simpa using h3
                rw [if_neg h4] at nx
                walk_at "pv"
                refine ⟨by rw [k.g0]; rfl, ?_⟩
                rw [k.g0]
                walk_at "pv"
                refine ⟨small_line (by rw [List.length_append]; omega), _, Sub.refl _, ?_, _, _, _, rfl⟩
                rw [nx, ← List.append_assoc, List.map_append, ← List.map_append, List.map_append (l₁ := _ ++ _)]
                exact k.set
              · have h4 : l = 0 := by simpa using h3
                rw [if_pos h4, List.append_nil] at nx
                walk_at "pv"
                exact ⟨_, Sub.refl _, by rw [nx]; exact k, _, _, _, rfl⟩
            · obtain ⟨M0, s0, k0⟩ := skip (by unfold rowS; rw [if_neg (fun z => h2 (sub_mod.mpr z.2))])
              walk_at "pv"
              exact ⟨M0, s0, k0, _, _, _, rfl⟩
          · obtain ⟨M0, s0, k0⟩ := skip (by unfold rowS; rw [if_neg (fun z => h1 z.1)])
            walk_at "pv"
            exact ⟨M0, s0, k0, _, _, _, rfl⟩
        · rintro ρ M6 ⟨k, v, y, z, rfl⟩
          rw [List.length_map, inS_all, ← spS_succ hi2] at k
          exact ⟨_, Sub.refl _, k, _, _, _, _, rfl⟩
      · rintro ρ M5 ⟨k, u, v, y, z, rfl⟩
        rw [List.length_map] at k
        walk_at "pv"
        exact ⟨_, Sub.refl _, q fd _ k.f0 k.sub k.g0⟩
  · exact h.elim
end PV
set_option maxHeartbeats 4000000
namespace PV
open PySem PySem.Spec PyProof.Rows L2
local macro_rules | `(tactic| walk_at "pv") => `(tactic| try simp only [↓s_seq, ↓s_next, ↓s_ret, ↓s_retN, ↓s_drop, ↓s_set, ↓s_ifS, ↓s_asg, ↓s_gname, ↓s_gnil, ↓s_gcons, ↓s_gtup, tg1_t, ↓s_gsub, ↓s_par, par2_e, ↓s_aug, ↓s_var, ov_some, ↓s_c, ↓s_op, ↓s_un, ↓s_B, ↓s_chain, ↓s_and, ↓s_or, ↓s_not, ↓s_andV, ↓s_orV, ↓s_notV, ↓s_if, ↓s_nil, ↓s_cons, ↓s_tup, ↓s_lst, ↓s_call, ↓s_fn, ↓s_isi, ↓s_mt, ↓s_mt0, ↓s_sl, ↓s_part, ↓s_nopart, ↓s_newK, ↓s_newN, ↓s_yes, wWipe, ↓s_for, ↓s_seqI, ↓s_rng1, ↓s_rng2, ↓s_lc,
  brn_t, brn_f, gt_some, onB_b, itS_tup, itS_cl, itS_ref, rgO_i, rgT_i, prt_i, mtS_r, mtZ_r,
  isQ_int_non, isQ_int_bl, isQ_int_int, isQ_int_str, isQ_int_tup, isQ_int_l, isQ_int_k, isQ_bool_non, isQ_bool_bl, isQ_bool_int, isQ_bool_str, isQ_bool_tup, isQ_bool_l, isQ_bool_k, isQ_str_non, isQ_str_bl, isQ_str_int, isQ_str_str, isQ_str_tup, isQ_str_l, isQ_str_k, isQ_tuple_non, isQ_tuple_bl, isQ_tuple_int, isQ_tuple_str, isQ_tuple_tup, isQ_tuple_l, isQ_tuple_k, isQ_list_non, isQ_list_bl, isQ_list_int, isQ_list_str, isQ_list_tup, isQ_list_l, isQ_list_k, isQ_dict_non, isQ_dict_bl, isQ_dict_int, isQ_dict_str, isQ_dict_tup, isQ_dict_l, isQ_dict_k,
  add_i, add_s, add_t, add_l, addO_l, sub_i, mul_i, mul_t, mul_l, mulO_l, lt_i, le_i, gt_i, ge_i, is_n, isnot_n, is_b, is_bf, isnot_b, isnot_bf, eq_i, eq_s, eq_b, eq_t, eq_l, eqO_l, eqO_ll, ne_i, ne_s, ne_b, ne_t, ne_l, neO_l, neO_ll, ix_t, ix_c, ix_r, ixO_l, ixO_k, ixO_lk, ixO_n, ixO_ln, in_t, in_r, nin_t, nin_r, inO_l, inO_k, inO_lk, inO_n, inO_ln, wkey_i, wkey_s, sl_t, sl_c, sl_r, slO_l, len_t, len_c, len_s, len_r, lenO_l, abs_i, max_i, min_i, int_i, int_b, tup_t, tup_r, tuO_l, lst_t, lst_c, lst_r, lsO_l, set_r, seO_l, seO_k, seO_n, app_r, apO_l, ext_r, exO_l, pop_z, pop_i, poZ_l, poO_l, neg_i,
  ↓s_dispK, dkS_i, dkS_s, dkF_r, iadd_i, iadd_s, r2I_i, wst1, wst2, wst3, wst4, wst5, obOf, isN, rdl_l, put_same, put_put, Option.isSome_some, true_and, and_true, decide_true, decide_false, Option.bind_some, atI_0, atI_1, atI_2, atI_3, atI_4, atI_m1, atI_m2, atI_m3, atI_m4, atI_m5, cut_1, List.map_cons, List.map_nil, List.cons_append, List.nil_append, List.getElem?_cons_zero, List.getElem?_cons_succ, List.length_cons, List.length_nil, List.length_map, List.isEmpty_cons, List.isEmpty_nil, List.set_cons_zero, List.set_cons_succ, List.replicate, Nat.reduceAdd, Nat.reduceSub, Nat.reduceLeDiff, Int.reduceNeg, le_line, lt_line, Bool.not_true, Bool.not_false])
local macro_rules | `(tactic| walk_at "pvh") => `(tactic| try simp only [↓s_seq, ↓s_next, ↓s_ret, ↓s_retN, ↓s_drop, ↓s_set, ↓s_ifS, ↓s_asg, ↓s_gname, ↓s_gnil, ↓s_gcons, ↓s_gtup, tg1_t, ↓s_gsub, ↓s_par, par2_e, ↓s_aug, ↓s_var, ov_some, ↓s_c, ↓s_op, ↓s_un, ↓s_B, ↓s_chain, ↓s_and, ↓s_or, ↓s_not, ↓s_andV, ↓s_orV, ↓s_notV, ↓s_if, ↓s_nil, ↓s_cons, ↓s_tup, ↓s_lst, ↓s_call, ↓s_fn, ↓s_isi, ↓s_mt, ↓s_mt0, ↓s_sl, ↓s_part, ↓s_nopart, ↓s_newK, ↓s_newN, ↓s_yes, wWipe, ↓s_for, ↓s_seqI, ↓s_rng1, ↓s_rng2, ↓s_lc,
  brn_t, brn_f, gt_some, onB_b, itS_tup, itS_cl, itS_ref, rgO_i, rgT_i, prt_i, mtS_r, mtZ_r,
  isQ_int_non, isQ_int_bl, isQ_int_int, isQ_int_str, isQ_int_tup, isQ_int_l, isQ_int_k, isQ_bool_non, isQ_bool_bl, isQ_bool_int, isQ_bool_str, isQ_bool_tup, isQ_bool_l, isQ_bool_k, isQ_str_non, isQ_str_bl, isQ_str_int, isQ_str_str, isQ_str_tup, isQ_str_l, isQ_str_k, isQ_tuple_non, isQ_tuple_bl, isQ_tuple_int, isQ_tuple_str, isQ_tuple_tup, isQ_tuple_l, isQ_tuple_k, isQ_list_non, isQ_list_bl, isQ_list_int, isQ_list_str, isQ_list_tup, isQ_list_l, isQ_list_k, isQ_dict_non, isQ_dict_bl, isQ_dict_int, isQ_dict_str, isQ_dict_tup, isQ_dict_l, isQ_dict_k,
  add_i, add_s, add_t, add_l, addO_l, sub_i, mul_i, mul_t, mul_l, mulO_l, lt_i, le_i, gt_i, ge_i, is_n, isnot_n, is_b, is_bf, isnot_b, isnot_bf, eq_i, eq_s, eq_b, eq_t, eq_l, eqO_l, eqO_ll, ne_i, ne_s, ne_b, ne_t, ne_l, neO_l, neO_ll, ix_t, ix_c, ix_r, ixO_l, ixO_k, ixO_lk, ixO_n, ixO_ln, in_t, in_r, nin_t, nin_r, inO_l, inO_k, inO_lk, inO_n, inO_ln, wkey_i, wkey_s, sl_t, sl_c, sl_r, slO_l, len_t, len_c, len_s, len_r, lenO_l, abs_i, max_i, min_i, int_i, int_b, tup_t, tup_r, tuO_l, lst_t, lst_c, lst_r, lsO_l, set_r, seO_l, seO_k, seO_n, app_r, apO_l, ext_r, exO_l, pop_z, pop_i, poZ_l, poO_l, neg_i,
  ↓s_dispK, dkS_i, dkS_s, dkF_r, iadd_i, iadd_s, r2I_i, wst1, wst2, wst3, wst4, wst5, obOf, isN, rdl_l, put_same, put_put, Option.isSome_some, true_and, and_true, decide_true, decide_false, Option.bind_some, atI_0, atI_1, atI_2, atI_3, atI_4, atI_m1, atI_m2, atI_m3, atI_m4, atI_m5, cut_1, List.map_cons, List.map_nil, List.cons_append, List.nil_append, List.getElem?_cons_zero, List.getElem?_cons_succ, List.length_cons, List.length_nil, List.length_map, List.isEmpty_cons, List.isEmpty_nil, List.set_cons_zero, List.set_cons_succ, List.replicate, Nat.reduceAdd, Nat.reduceSub, Nat.reduceLeDiff, Int.reduceNeg, le_line, lt_line, Bool.not_true, Bool.not_false, put_ne1, put_ne2, *])
theorem passG_bd {g : Gs} : ∀ (run : List Ev) (x : Int × St), x.1 ≤ (passG g run x).1 ∧ (passG g run x).1 ≤ x.1 + run.length
  | [], x => ⟨Int.le_refl _, by simp [passG]⟩
  | e :: run, x => by
    have h := passG_bd (g := g) run (stepG g x e)
    have h0 := @b2i_0 (!decide (guessG g x.2 e.1 = e.2))
    have h2 := @b2i_2 (!decide (guessG g x.2 e.1 = e.2))
    have e1 : (stepG g x e).1 = x.1 + b2i (!decide (guessG g x.2 e.1 = e.2)) := rfl
    rw [e1] at h
    have e2 : passG g (e :: run) x = passG g run (stepG g x e) := rfl
    rw [e2, List.length_cons]
    omega
theorem loss_bd {g : Gs} {run : List Ev} : 0 ≤ lossG g run ∧ lossG g run ≤ run.length := by
  have := passG_bd (g := g) run (0, firstG g)
  unfold lossG
  exact ⟨this.1, by have := this.2; simpa using this⟩
theorem at_len {ps : List Int} {run : List Ev} : (atP ps run).length ≤ run.length := List.length_filter_le _ _
theorem lost2_bd {g : Gs} {run : List Ev} {p o : Int} (h : run.length ≤ 1000) : (lost2 g run p o).natAbs ≤ 3000 := by
  unfold lost2 lsA
  have a := loss_bd (g := g) (run := atP [p, o] run)
  have b := loss_bd (g := g) (run := atP [p] run)
  have c := loss_bd (g := g) (run := atP [o] run)
  have a2 := at_len (ps := [p, o]) (run := run)
  have b2 := at_len (ps := [p]) (run := run)
  have c2 := at_len (ps := [o]) (run := run)
  omega
theorem spoil_mem {n : Nat} {c : Cell} {run : List Ev} (hl : run.length ≤ 1000) (hb : ∀ e ∈ run, 0 ≤ e.1 ∧ e.1 ≤ 1000) : ∀ w ∈ spoilW n c run, sh w = true ∧ ik w = true ∧ dp w ≤ 1 ∧ bk w ≤ 3 := fun w hw => by
  unfold spoilW at hw
  obtain ⟨t, ht, rfl⟩ := List.mem_map.mp hw
  unfold spS at ht
  obtain ⟨p, hp, h2⟩ := List.mem_flatMap.mp ht
  obtain ⟨o, ho, h3⟩ := List.mem_flatMap.mp h2
  have pb : ∀ j ∈ plcs run, 0 ≤ j ∧ j ≤ 1000 := fun j hj => by
    obtain ⟨e, he, e2⟩ := (plcs_ok.2 j).mp hj
    rw [← e2]; exact hb e he
  have p1 := pb p (List.mem_of_mem_take hp)
  have o1 := pb o ho
  have l1 := lost2_bd (g := .table n c) (run := run) (p := p) (o := o) hl
  unfold rowS at h3
  split at h3
  · split at h3
    · cases h3
    · rw [List.mem_singleton.mp h3]
      refine ⟨?_, ?_, ?_, ?_⟩
      · simp [trW, sh, shs]; omega
      · simp [trW, ik, iks]
      · simp [trW, dp, dps]
      · simp [trW, bk, bks]
  · cases h3
theorem spoil_len {n : Nat} {c : Cell} {run : List Ev} (h : (plcs run).length < 64) : (spoilW n c run).length ≤ 4096 := by
  unfold spoilW
  rw [List.length_map]
  exact spS_len h
theorem ev_mem {run : List Ev} : ∀ w ∈ run.map evW, ik w = true ∧ dp w ≤ 1 := fun w hw => by
  obtain ⟨e, _, rfl⟩ := List.mem_map.mp hw
  exact ⟨by simp [evW, ik, iks], by simp [evW, dp, dps]⟩
theorem rd_law (ws M Q E) (h : spLaw ws M Q E) : t_lawm sp_deck sp_cell_at sp_dtake sp_dcell sp_run sp_due sp_spoiled sp_table_misses sp_at sp_lost (wEnd Q) (wStart ["script", "deck", "guesser", "run", "handed", "due", "told", "held", "lost", "place", "found", "way"] ws) M := by
  obtain ⟨ns, rfl, hl, hbits, q⟩ := h
  rw [wst1]
  unfold t_lawm
  walk_at "pv"
  refine ⟨ns, rfl, by decide, ?_⟩
  generalize ns.getD (Int.toNat 0) 0 = head
  walk_at "pv"
  refine fun d a b M1 hd s1 ed => ?_
  have k : Kp none [(d, dkO a b 1)] M M1 := Kp.start0.come s1 hd ed
  walk_at "pv"
  refine k.deck_go (by decide) (by decide) (by decide) (by decide) fun r1 a1 c1 M2 r10 r11 h10 h11 k => ?_
  walk_at "pv"
  refine ⟨a1, b, c1, k.g0, h10, by omega, by decide, by decide, fun m cell a2 c2 hc hm h20 h21 => ?_⟩
  have k := k.set (o' := dkO a2 b c2)
  generalize put M2 d (dkO a2 b c2) = M3 at k
  walk_at "pv"
  obtain ⟨n, hn⟩ : ∃ n : Nat, 1 + r1 = n := ⟨(1 + r1).toNat, by omega⟩
  rw [hn]
  have gok : (Gs.table n cell).Ok := ⟨by omega, by omega, m, by omega, hc⟩
  have eg : W.tup [.str "table", .int n, cW cell] = (Gs.table n cell).toW := rfl
  rw [eg]
  refine ⟨⟨ns, rfl⟩, fun r run M4 hr s4 er hw hb hlen h64 => ?_⟩
  have k := k.come s4 hr er
  have hl10 : run.length ≤ 1000 := by omega
  walk_at "pv"
  rw [k.g0]
  walk_at "pv"
  refine k.fresh_go fun hd2 M5 k _ => ?_
  walk_at "pv"
  refine ⟨n, cell, run, rfl, gok, k.g1, hw, hl10, h64, fun du M6 hdu s6 edu => ?_⟩
  have k := k.come s6 hdu edu
  walk_at "pv"
  refine ⟨n, cell, run, rfl, gok, k.g1, hw, hl10, h64, fun tl M7 htl s7 etl => ?_⟩
  have k := k.come s7 htl etl
  have sm := spoil_mem (n := n) (c := cell) hl10 hb
  have sl := spoil_len (n := n) (c := cell) (run := run) h64
  have shS : shs (spoilW n cell run) = true := shs_of fun w hw => (sm w hw).1
  have ikS : iks (spoilW n cell run) = true := iks_all fun w hw => (sm w hw).2.1
  have dpS : dps (spoilW n cell run) ≤ 1 := dps_all fun w hw => (sm w hw).2.2.1
  have bkS : bks (spoilW n cell run) ≤ 2 ^ 20 := Nat.le_trans (bks_le fun w hw => (sm w hw).2.2.2) (Nat.le_trans (Nat.mul_le_mul_right _ sl) (by decide))
  have ikR : iks (run.map evW) = true := iks_all fun w hw => (ev_mem w hw).1
  have dpR : dps (run.map evW) ≤ 1 := dps_all fun w hw => (ev_mem w hw).2
  generalize ews : spoilW n cell run = ws at *
  walk_at "pv"
  rw [k.g0]
  walk_at "pv"
  refine repr_go k.g0 shS (by omega) bkS ?_
  walk_at "pv"
  refine repr_go k.g1 shS (by omega) bkS ?_
  walk_at "pv"
  refine neO_same k.g2 k.g3 ikR (by omega) ?_
  walk_at "pv"
  rw [k.g0]
  walk_at "pv"
  refine k.fresh_go fun hl2 M8 k _ => ?_
  have k := k.sw
  walk_at "pv"
  refine ⟨by rw [k.g0]; rfl, ?_⟩
  refine k.app_go (by omega) fun M9 k => ?_
  have k := k.tail
  walk_at "pv"
  refine ⟨n, cell, run, rfl, gok, k.g2, hw, hl10, h64, fun tl2 M10 htl2 s10 etl2 => ?_⟩
  have k := k.come s10 htl2 etl2
  rw [ews] at etl2 k
  walk_at "pv"
  refine neO_same k.g0 k.g1 ikS (by omega) ?_
  walk_at "pv"
  have k := k.tail.tail
  refine ⟨n, cell, run, rfl, gok, k.g2, hw, ?_⟩
  walk_at "pv"
  unfold wSortedSet
  walk_at "pv"
  refine ⟨by rw [k.g2]; rfl, lc_fst k.g2 hl10 (fun p v R h1 => ?_) fun r0 hr0 => ?_⟩
  · walk_at "pv"
    exact h1 _ (Sub.refl _)
  have k := k.new (o := .lst ((run.map (·.1)).map W.int)) hr0
  generalize put M10 r0 _ = M11 at k
  refine ⟨run.map (·.1), by rw [k.g0]; rfl, ⟨by rw [List.length_map]; omega, plcs run, h64, fun j hj => (plcs_ok.2 j).mpr (List.mem_map.mp hj)⟩, fun ns' pw mem pl hpl => ?_⟩
  have er := plcs_set pw mem
  subst er
  have k := k.tail.new (o := .lst ((plcs run).map W.int)) hpl
  generalize put M11 pl _ = M12 at k
  walk_at "pv"
  rw [k.g0]
  walk_at "pv"
  refine for_l (a := pl) (ws := (plcs run).map W.int) (fun i ρ M' => Kp none [(pl, .lst ((plcs run).map W.int)), (du, .lst ws), (hd2, .lst (run.map evW)), (r, .lst (run.map evW)), (d, dkO a2 b c2)] M M' ∧ ∃ x, ρ = [some (.cl (ns.map W.int)), some (.ref d), some (Gs.table n cell).toW, some (.ref r), some (.ref hd2), some (.ref du), some (.ref tl), some (.ref hl2), some (.int (shareN (.table n cell) run i)), x, none, none]) ⟨k, _, rfl⟩ (fun i ρ M' h => h.1.g0) ?_ ?_
  · clear k
    rintro i w ρ M13 hi ⟨k, x, rfl⟩
    rw [List.getElem?_map] at hi
    obtain ⟨p, hi2, rfl⟩ := Option.map_eq_some_iff.mp hi
    walk_at "pv"
    refine k.fresh_go fun one M14 k s14 => ?_
    walk_at "pv"
    refine ⟨run, [p], k.g4, k.g0, hl10, fun rr M15 hr15 s15 er15 => ?_⟩
    have k := k.come s15 hr15 er15
    walk_at "pv"
    refine ⟨n, cell, atP [p] run, rfl, gok, k.g0, ways_at hw, ?_⟩
    walk_at "pv"
    exact ⟨_, Sub.refl _, k.tail.tail, _, by rw [shareN_succ hi2]; rfl⟩
  · clear k
    rintro ρ M13 ⟨k, x, rfl⟩
    rw [List.length_map]
    walk_at "pv"
    refine ⟨n, cell, run, rfl, gok, k.g2, hw, hl10, h64, ?_⟩
    walk_at "pv"
    refine eqO_same k.g2 k.g3 ikR (by omega) ?_
    exact ⟨_, Sub.refl _, q _⟩
end PV
set_option maxHeartbeats 4000000
namespace PV
open PySem PySem.Spec PyProof.Rows L2
theorem len_sp_cells_alone (ws M Q E) (h : sp_cells_alone ws M Q E) : ws.length = 1 := by
  unfold sp_cells_alone at h
  split at h <;> first | rfl | exact h.elim
theorem len_sp_first_state (d : Nat) (ws M Q E) (h : sp_first_state d ws M Q E) : ws.length = 1 := by
  unfold sp_first_state at h
  split at h <;> first | rfl | exact h.elim
theorem len_sp_cells_in (ws M Q E) (h : sp_cells_in ws M Q E) : ws.length = 2 := by
  unfold sp_cells_in at h
  split at h <;> first | rfl | exact h.elim
theorem len_sp_cell_place (ws M Q E) (h : sp_cell_place ws M Q E) : ws.length = 3 := by
  unfold sp_cell_place at h
  split at h <;> first | rfl | exact h.elim
theorem len_sp_guess (d : Nat) (ws M Q E) (h : sp_guess d ws M Q E) : ws.length = 3 := by
  unfold sp_guess at h
  split at h <;> first | rfl | exact h.elim
theorem len_sp_replaced (ws M Q E) (h : sp_replaced ws M Q E) : ws.length = 3 := by
  unfold sp_replaced at h
  split at h <;> first | rfl | exact h.elim
theorem len_sp_cells_behind (ws M Q E) (h : sp_cells_behind ws M Q E) : ws.length = 4 := by
  unfold sp_cells_behind at h
  split at h <;> first | rfl | exact h.elim
theorem len_sp_one_more (ws M Q E) (h : sp_one_more ws M Q E) : ws.length = 3 := by
  unfold sp_one_more at h
  split at h <;> first | rfl | exact h.elim
theorem len_sp_learned_either (d : Nat) (ws M Q E) (h : sp_learned_either d ws M Q E) : ws.length = 4 := by
  unfold sp_learned_either at h
  split at h <;> first | rfl | exact h.elim
theorem len_sp_learned (d : Nat) (ws M Q E) (h : sp_learned d ws M Q E) : ws.length = 4 := by
  unfold sp_learned at h
  split at h <;> first | rfl | exact h.elim
theorem len_sp_passed (ws M Q E) (h : sp_passed ws M Q E) : ws.length = 3 := by
  unfold sp_passed at h
  split at h <;> first | rfl | exact h.elim
theorem len_sp_misses_at (ws M Q E) (h : sp_misses_at ws M Q E) : ws.length = 3 := by
  unfold sp_misses_at at h
  split at h <;> first | rfl | exact h.elim
theorem len_sp_places_of (ws M Q E) (h : sp_places_of ws M Q E) : ws.length = 1 := by
  unfold sp_places_of at h
  split at h <;> first | rfl | exact h.elim
theorem len_sp_spoiled (ws M Q E) (h : sp_spoiled ws M Q E) : ws.length = 2 := by
  unfold sp_spoiled at h
  split at h <;> first | rfl | exact h.elim
theorem len_sp_lost (ws M Q E) (h : sp_lost ws M Q E) : ws.length = 2 := by
  unfold sp_lost at h
  split at h <;> first | rfl | exact h.elim
theorem len_sp_cell_at (ws M Q E) (h : sp_cell_at ws M Q E) : ws.length = 2 := by
  unfold sp_cell_at at h
  split at h <;> first | rfl | exact h.elim
theorem len_sp_dtake (ws M Q E) (h : sp_dtake ws M Q E) : ws.length = 2 := by
  unfold sp_dtake at h
  split at h <;> first | rfl | exact h.elim
theorem len_sp_deck (ws M Q E) (h : sp_deck ws M Q E) : ws.length = 2 := by
  unfold sp_deck at h
  split at h <;> first | rfl | exact h.elim
theorem len_sp_dcell (ws M Q E) (h : sp_dcell ws M Q E) : ws.length = 2 := by
  unfold sp_dcell at h
  split at h <;> first | rfl | exact h.elim
theorem len_sp_table_misses (ws M Q E) (h : sp_table_misses ws M Q E) : ws.length = 2 := by
  unfold sp_table_misses at h
  split at h <;> first | rfl | exact h.elim
theorem len_sp_run (ws M Q E) (h : sp_run ws M Q E) : ws.length = 1 := by
  unfold sp_run at h
  split at h <;> first | rfl | exact h.elim
theorem len_sp_at (ws M Q E) (h : sp_at ws M Q E) : ws.length = 2 := by
  unfold sp_at at h
  split at h <;> first | rfl | exact h.elim
theorem len_sp_due (ws M Q E) (h : sp_due ws M Q E) : ws.length = 2 := by
  unfold sp_due at h
  split at h <;> first | rfl | exact h.elim
theorem len_spLaw (ws M Q E) (h : spLaw ws M Q E) : ws.length = 1 := by
  obtain ⟨ns, rfl, _⟩ := h
  rfl
theorem all_mk {P : Program} {w : World} {K : PySem.W.Frag} {h : Heap} {mg : Str → Option Value} {fa f0 f1 f2 f3 f4 f5 f6 f7 f8 f9 f10 f11 f12 f13 f14 f15 f16 f17 f18 f19 f20 f21 f22 f23 : Addr} (X : K.In h) (G : h.Ns mainGlobals mg) (hfa : mg "law" = some (.ref fa))
    {od0 an0 od1 an1 od2 an2 od3 an3 od4 an4 od5 an5 od6 an6 od7 an7 od8 an8 od9 an9 od10 an10 od11 an11 od12 an12 od13 an13 od14 an14 od15 an15 od16 an16 od17 an17 od18 an18 od19 an19 od20 an20 od21 an21 od22 an22 od23 an23 : Option Addr} {sl0 sl1 sl2 sl3 sl4 sl5 sl6 sl7 sl8 sl9 sl10 sl11 sl12 sl13 sl14 sl15 sl16 sl17 sl18 sl19 sl20 sl21 sl22 sl23 : Array (Option Value)} {oc0 kV0 dc0 pm0 cd0 ct0 oc1 kV1 dc1 pm1 cd1 ct1 oc2 kV2 dc2 pm2 cd2 ct2 oc3 kV3 dc3 pm3 cd3 ct3 oc4 kV4 dc4 pm4 cd4 ct4 oc5 kV5 dc5 pm5 cd5 ct5 oc6 kV6 dc6 pm6 cd6 ct6 oc7 kV7 dc7 pm7 cd7 ct7 oc8 kV8 dc8 pm8 cd8 ct8 oc9 kV9 dc9 pm9 cd9 ct9 oc10 kV10 dc10 pm10 cd10 ct10 oc11 kV11 dc11 pm11 cd11 ct11 oc12 kV12 dc12 pm12 cd12 ct12 oc13 kV13 dc13 pm13 cd13 ct13 oc14 kV14 dc14 pm14 cd14 ct14 oc15 kV15 dc15 pm15 cd15 ct15 oc16 kV16 dc16 pm16 cd16 ct16 oc17 kV17 dc17 pm17 cd17 ct17 oc18 kV18 dc18 pm18 cd18 ct18 oc19 kV19 dc19 pm19 cd19 ct19 oc20 kV20 dc20 pm20 cd20 ct20 oc21 kV21 dc21 pm21 cd21 ct21 oc22 kV22 dc22 pm22 cd22 ct22 oc23 kV23 dc23 pm23 cd23 ct23 : Value}
    (a0 : PySem.W.nsIn K mainGlobals "cells_alone" = some (some (.ref f0))) (l0 : K.lookup f0 = some ⟨oc0, od0, .func (PySem.W.fnOf "cells_alone" "cells_alone" (defArgs s_p_cells_alone) (defBody s_p_cells_alone) (defScope s_p_cells_alone) .none kV0 dc0 pm0 an0 cd0 ct0), sl0⟩) (c0 : PySem.W.codeIn K cd0 "cells_alone" = true) (k0 : PySem.W.keepIn K (.ref f0) = true)
    (a1 : PySem.W.nsIn K mainGlobals "first_state" = some (some (.ref f1))) (l1 : K.lookup f1 = some ⟨oc1, od1, .func (PySem.W.fnOf "first_state" "first_state" (defArgs s_p_first_state) (defBody s_p_first_state) (defScope s_p_first_state) .none kV1 dc1 pm1 an1 cd1 ct1), sl1⟩) (c1 : PySem.W.codeIn K cd1 "first_state" = true) (k1 : PySem.W.keepIn K (.ref f1) = true)
    (a2 : PySem.W.nsIn K mainGlobals "cells_in" = some (some (.ref f2))) (l2 : K.lookup f2 = some ⟨oc2, od2, .func (PySem.W.fnOf "cells_in" "cells_in" (defArgs s_p_cells_in) (defBody s_p_cells_in) (defScope s_p_cells_in) .none kV2 dc2 pm2 an2 cd2 ct2), sl2⟩) (c2 : PySem.W.codeIn K cd2 "cells_in" = true) (k2 : PySem.W.keepIn K (.ref f2) = true)
    (a3 : PySem.W.nsIn K mainGlobals "cell_place" = some (some (.ref f3))) (l3 : K.lookup f3 = some ⟨oc3, od3, .func (PySem.W.fnOf "cell_place" "cell_place" (defArgs s_p_cell_place) (defBody s_p_cell_place) (defScope s_p_cell_place) .none kV3 dc3 pm3 an3 cd3 ct3), sl3⟩) (c3 : PySem.W.codeIn K cd3 "cell_place" = true) (k3 : PySem.W.keepIn K (.ref f3) = true)
    (a4 : PySem.W.nsIn K mainGlobals "guess" = some (some (.ref f4))) (l4 : K.lookup f4 = some ⟨oc4, od4, .func (PySem.W.fnOf "guess" "guess" (defArgs s_p_guess) (defBody s_p_guess) (defScope s_p_guess) .none kV4 dc4 pm4 an4 cd4 ct4), sl4⟩) (c4 : PySem.W.codeIn K cd4 "guess" = true) (k4 : PySem.W.keepIn K (.ref f4) = true)
    (a5 : PySem.W.nsIn K mainGlobals "replaced" = some (some (.ref f5))) (l5 : K.lookup f5 = some ⟨oc5, od5, .func (PySem.W.fnOf "replaced" "replaced" (defArgs s_p_replaced) (defBody s_p_replaced) (defScope s_p_replaced) .none kV5 dc5 pm5 an5 cd5 ct5), sl5⟩) (c5 : PySem.W.codeIn K cd5 "replaced" = true) (k5 : PySem.W.keepIn K (.ref f5) = true)
    (a6 : PySem.W.nsIn K mainGlobals "cells_behind" = some (some (.ref f6))) (l6 : K.lookup f6 = some ⟨oc6, od6, .func (PySem.W.fnOf "cells_behind" "cells_behind" (defArgs s_p_cells_behind) (defBody s_p_cells_behind) (defScope s_p_cells_behind) .none kV6 dc6 pm6 an6 cd6 ct6), sl6⟩) (c6 : PySem.W.codeIn K cd6 "cells_behind" = true) (k6 : PySem.W.keepIn K (.ref f6) = true)
    (a7 : PySem.W.nsIn K mainGlobals "one_more" = some (some (.ref f7))) (l7 : K.lookup f7 = some ⟨oc7, od7, .func (PySem.W.fnOf "one_more" "one_more" (defArgs s_p_one_more) (defBody s_p_one_more) (defScope s_p_one_more) .none kV7 dc7 pm7 an7 cd7 ct7), sl7⟩) (c7 : PySem.W.codeIn K cd7 "one_more" = true) (k7 : PySem.W.keepIn K (.ref f7) = true)
    (a8 : PySem.W.nsIn K mainGlobals "learned_either" = some (some (.ref f8))) (l8 : K.lookup f8 = some ⟨oc8, od8, .func (PySem.W.fnOf "learned_either" "learned_either" (defArgs s_p_learned_either) (defBody s_p_learned_either) (defScope s_p_learned_either) .none kV8 dc8 pm8 an8 cd8 ct8), sl8⟩) (c8 : PySem.W.codeIn K cd8 "learned_either" = true) (k8 : PySem.W.keepIn K (.ref f8) = true)
    (a9 : PySem.W.nsIn K mainGlobals "learned" = some (some (.ref f9))) (l9 : K.lookup f9 = some ⟨oc9, od9, .func (PySem.W.fnOf "learned" "learned" (defArgs s_p_learned) (defBody s_p_learned) (defScope s_p_learned) .none kV9 dc9 pm9 an9 cd9 ct9), sl9⟩) (c9 : PySem.W.codeIn K cd9 "learned" = true) (k9 : PySem.W.keepIn K (.ref f9) = true)
    (a10 : PySem.W.nsIn K mainGlobals "passed" = some (some (.ref f10))) (l10 : K.lookup f10 = some ⟨oc10, od10, .func (PySem.W.fnOf "passed" "passed" (defArgs s_p_passed) (defBody s_p_passed) (defScope s_p_passed) .none kV10 dc10 pm10 an10 cd10 ct10), sl10⟩) (c10 : PySem.W.codeIn K cd10 "passed" = true) (k10 : PySem.W.keepIn K (.ref f10) = true)
    (a11 : PySem.W.nsIn K mainGlobals "misses_at" = some (some (.ref f11))) (l11 : K.lookup f11 = some ⟨oc11, od11, .func (PySem.W.fnOf "misses_at" "misses_at" (defArgs s_p_misses_at) (defBody s_p_misses_at) (defScope s_p_misses_at) .none kV11 dc11 pm11 an11 cd11 ct11), sl11⟩) (c11 : PySem.W.codeIn K cd11 "misses_at" = true) (k11 : PySem.W.keepIn K (.ref f11) = true)
    (a12 : PySem.W.nsIn K mainGlobals "places_of" = some (some (.ref f12))) (l12 : K.lookup f12 = some ⟨oc12, od12, .func (PySem.W.fnOf "places_of" "places_of" (defArgs s_p_places_of) (defBody s_p_places_of) (defScope s_p_places_of) .none kV12 dc12 pm12 an12 cd12 ct12), sl12⟩) (c12 : PySem.W.codeIn K cd12 "places_of" = true) (k12 : PySem.W.keepIn K (.ref f12) = true)
    (a13 : PySem.W.nsIn K mainGlobals "spoiled" = some (some (.ref f13))) (l13 : K.lookup f13 = some ⟨oc13, od13, .func (PySem.W.fnOf "spoiled" "spoiled" (defArgs s_p_spoiled) (defBody s_p_spoiled) (defScope s_p_spoiled) .none kV13 dc13 pm13 an13 cd13 ct13), sl13⟩) (c13 : PySem.W.codeIn K cd13 "spoiled" = true) (k13 : PySem.W.keepIn K (.ref f13) = true)
    (a14 : PySem.W.nsIn K mainGlobals "lost_by_sharing" = some (some (.ref f14))) (l14 : K.lookup f14 = some ⟨oc14, od14, .func (PySem.W.fnOf "lost_by_sharing" "lost_by_sharing" (defArgs s_p_lost_by_sharing) (defBody s_p_lost_by_sharing) (defScope s_p_lost_by_sharing) .none kV14 dc14 pm14 an14 cd14 ct14), sl14⟩) (c14 : PySem.W.codeIn K cd14 "lost_by_sharing" = true) (k14 : PySem.W.keepIn K (.ref f14) = true)
    (a15 : PySem.W.nsIn K mainGlobals "_law_cell_at" = some (some (.ref f15))) (l15 : K.lookup f15 = some ⟨oc15, od15, .func (PySem.W.fnOf "_law_cell_at" "_law_cell_at" (defArgs s_l_cell_at) (defBody s_l_cell_at) (defScope s_l_cell_at) .none kV15 dc15 pm15 an15 cd15 ct15), sl15⟩) (c15 : PySem.W.codeIn K cd15 "_law_cell_at" = true) (k15 : PySem.W.keepIn K (.ref f15) = true)
    (a16 : PySem.W.nsIn K mainGlobals "_law_take" = some (some (.ref f16))) (l16 : K.lookup f16 = some ⟨oc16, od16, .func (PySem.W.fnOf "_law_take" "_law_take" (defArgs s_l_take) (defBody s_l_take) (defScope s_l_take) .none kV16 dc16 pm16 an16 cd16 ct16), sl16⟩) (c16 : PySem.W.codeIn K cd16 "_law_take" = true) (k16 : PySem.W.keepIn K (.ref f16) = true)
    (a17 : PySem.W.nsIn K mainGlobals "_law_deck" = some (some (.ref f17))) (l17 : K.lookup f17 = some ⟨oc17, od17, .func (PySem.W.fnOf "_law_deck" "_law_deck" (defArgs s_l_deck) (defBody s_l_deck) (defScope s_l_deck) .none kV17 dc17 pm17 an17 cd17 ct17), sl17⟩) (c17 : PySem.W.codeIn K cd17 "_law_deck" = true) (k17 : PySem.W.keepIn K (.ref f17) = true)
    (a18 : PySem.W.nsIn K mainGlobals "_law_cell" = some (some (.ref f18))) (l18 : K.lookup f18 = some ⟨oc18, od18, .func (PySem.W.fnOf "_law_cell" "_law_cell" (defArgs s_l_cell) (defBody s_l_cell) (defScope s_l_cell) .none kV18 dc18 pm18 an18 cd18 ct18), sl18⟩) (c18 : PySem.W.codeIn K cd18 "_law_cell" = true) (k18 : PySem.W.keepIn K (.ref f18) = true)
    (a19 : PySem.W.nsIn K mainGlobals "_law_table_misses" = some (some (.ref f19))) (l19 : K.lookup f19 = some ⟨oc19, od19, .func (PySem.W.fnOf "_law_table_misses" "_law_table_misses" (defArgs s_l_table_misses) (defBody s_l_table_misses) (defScope s_l_table_misses) .none kV19 dc19 pm19 an19 cd19 ct19), sl19⟩) (c19 : PySem.W.codeIn K cd19 "_law_table_misses" = true) (k19 : PySem.W.keepIn K (.ref f19) = true)
    (a20 : PySem.W.nsIn K mainGlobals "_law_run" = some (some (.ref f20))) (l20 : K.lookup f20 = some ⟨oc20, od20, .func (PySem.W.fnOf "_law_run" "_law_run" (defArgs s_l_run) (defBody s_l_run) (defScope s_l_run) .none kV20 dc20 pm20 an20 cd20 ct20), sl20⟩) (c20 : PySem.W.codeIn K cd20 "_law_run" = true) (k20 : PySem.W.keepIn K (.ref f20) = true)
    (a21 : PySem.W.nsIn K mainGlobals "_law_at" = some (some (.ref f21))) (l21 : K.lookup f21 = some ⟨oc21, od21, .func (PySem.W.fnOf "_law_at" "_law_at" (defArgs s_l_at) (defBody s_l_at) (defScope s_l_at) .none kV21 dc21 pm21 an21 cd21 ct21), sl21⟩) (c21 : PySem.W.codeIn K cd21 "_law_at" = true) (k21 : PySem.W.keepIn K (.ref f21) = true)
    (a22 : PySem.W.nsIn K mainGlobals "_law_due" = some (some (.ref f22))) (l22 : K.lookup f22 = some ⟨oc22, od22, .func (PySem.W.fnOf "_law_due" "_law_due" (defArgs s_l_due) (defBody s_l_due) (defScope s_l_due) .none kV22 dc22 pm22 an22 cd22 ct22), sl22⟩) (c22 : PySem.W.codeIn K cd22 "_law_due" = true) (k22 : PySem.W.keepIn K (.ref f22) = true)
    (a23 : PySem.W.nsIn K mainGlobals "law" = some (some (.ref f23))) (l23 : K.lookup f23 = some ⟨oc23, od23, .func (PySem.W.fnOf "law" "law" (defArgs s_lawm) (defBody s_lawm) (defScope s_lawm) .none kV23 dc23 pm23 an23 cd23 ct23), sl23⟩) (c23 : PySem.W.codeIn K cd23 "law" = true) (k23 : PySem.W.keepIn K (.ref f23) = true)
    (z_bool : PySem.W.nsIn K mainGlobals "bool" = some none)
    (z_int : PySem.W.nsIn K mainGlobals "int" = some none)
    (z_isinstance : PySem.W.nsIn K mainGlobals "isinstance" = some none)
    (z_len : PySem.W.nsIn K mainGlobals "len" = some none)
    (z_list : PySem.W.nsIn K mainGlobals "list" = some none)
    (z_range : PySem.W.nsIn K mainGlobals "range" = some none)
    (z_repr : PySem.W.nsIn K mainGlobals "repr" = some none)
    (z_set : PySem.W.nsIn K mainGlobals "set" = some none)
    (z_sorted : PySem.W.nsIn K mainGlobals "sorted" = some none)
    (z_tuple : PySem.W.nsIn K mainGlobals "tuple" = some none)
    : ∃ fd : FuncData, (∀ (s : Shared) (v : Value), BindsTo s fd ⟨[v], []⟩ [("script", v)]) ∧ ∀ base : Heap, K.In base → base.Ns mainGlobals mg → FnG ⟨P, w, K⟩ mg base 14 fa fd ["script"] (upSp ⟨P, w, K⟩ spLaw) := by
  have e := hfa.symm.trans (PySem.W.mg_of X G a23)
  cases e
  have T : Fx mg := ⟨PySem.W.mg_none_of X G z_bool, PySem.W.mg_none_of X G z_int, PySem.W.mg_none_of X G z_isinstance, PySem.W.mg_none_of X G z_len, PySem.W.mg_none_of X G z_list, PySem.W.mg_none_of X G z_range, PySem.W.mg_none_of X G z_repr, PySem.W.mg_none_of X G z_set, PySem.W.mg_none_of X G z_sorted, PySem.W.mg_none_of X G z_tuple⟩
  have F0 := fun_mk (st := s_p_cells_alone) l0 c0 k0
  have F1 := fun_mk (st := s_p_first_state) l1 c1 k1
  have F2 := fun_mk (st := s_p_cells_in) l2 c2 k2
  have F3 := fun_mk (st := s_p_cell_place) l3 c3 k3
  have F4 := fun_mk (st := s_p_guess) l4 c4 k4
  have F5 := fun_mk (st := s_p_replaced) l5 c5 k5
  have F6 := fun_mk (st := s_p_cells_behind) l6 c6 k6
  have F7 := fun_mk (st := s_p_one_more) l7 c7 k7
  have F8 := fun_mk (st := s_p_learned_either) l8 c8 k8
  have F9 := fun_mk (st := s_p_learned) l9 c9 k9
  have F10 := fun_mk (st := s_p_passed) l10 c10 k10
  have F11 := fun_mk (st := s_p_misses_at) l11 c11 k11
  have F12 := fun_mk (st := s_p_places_of) l12 c12 k12
  have F13 := fun_mk (st := s_p_spoiled) l13 c13 k13
  have F14 := fun_mk (st := s_p_lost_by_sharing) l14 c14 k14
  have F15 := fun_mk (st := s_l_cell_at) l15 c15 k15
  have F16 := fun_mk (st := s_l_take) l16 c16 k16
  have F17 := fun_mk (st := s_l_deck) l17 c17 k17
  have F18 := fun_mk (st := s_l_cell) l18 c18 k18
  have F19 := fun_mk (st := s_l_table_misses) l19 c19 k19
  have F20 := fun_mk (st := s_l_run) l20 c20 k20
  have F21 := fun_mk (st := s_l_at) l21 c21 k21
  have F22 := fun_mk (st := s_l_due) l22 c22 k22
  have F23 := fun_mk (st := s_lawm) l23 c23 k23
  refine ⟨PySem.W.fnOf "law" "law" (defArgs s_lawm) (defBody s_lawm) (defScope s_lawm) .none kV23 dc23 pm23 an23 cd23 ct23, fun s v => .of_eq rfl, fun base _ _ => ?_⟩
  have D_l_deck : Dk ⟨P, w, K⟩ mg base 1 "_law_deck" ["cell", "k"] sp_deck := ⟨_, _, PySem.W.mg_of X G a17, k17, F17.binds (fun _ _ _ _ _ _ us hl => match us, hl with | [_, _], _ => rfl), fn_ok (k := 0) (sp := sp_deck) F17 sc_l_deck len_sp_deck (fun cdv A outer s H E M hr => tr_l_deck T hr) rd_deck⟩
  have D_l_cell_at : Dk ⟨P, w, K⟩ mg base 1 "_law_cell_at" ["script", "k"] sp_cell_at := ⟨_, _, PySem.W.mg_of X G a15, k15, F15.binds (fun _ _ _ _ _ _ us hl => match us, hl with | [_, _], _ => rfl), fn_ok (k := 0) (sp := sp_cell_at) F15 sc_l_cell_at len_sp_cell_at (fun cdv A outer s H E M hr => tr_l_cell_at T hr) rd_cell_at⟩
  have D_l_take : Dk ⟨P, w, K⟩ mg base 1 "_law_take" ["deck", "many"] sp_dtake := ⟨_, _, PySem.W.mg_of X G a16, k16, F16.binds (fun _ _ _ _ _ _ us hl => match us, hl with | [_, _], _ => rfl), fn_ok (k := 0) (sp := sp_dtake) F16 sc_l_take len_sp_dtake (fun cdv A outer s H E M hr => tr_l_take T hr) rd_dtake⟩
  have D_l_cell : Dk ⟨P, w, K⟩ mg base 2 "_law_cell" ["deck", "most"] sp_dcell := ⟨_, _, PySem.W.mg_of X G a18, k18, F18.binds (fun _ _ _ _ _ _ us hl => match us, hl with | [_, _], _ => rfl), fn_ok (k := 1) (sp := sp_dcell) F18 sc_l_cell len_sp_dcell (fun cdv A outer s H E M hr => tr_l_cell T (D_l_take.mono (by decide)) hr) rd_dcell⟩
  have D_l_run : Dk ⟨P, w, K⟩ mg base 2 "_law_run" ["script"] sp_run := ⟨_, _, PySem.W.mg_of X G a20, k20, F20.binds (fun _ _ _ _ _ _ us hl => match us, hl with | [_], _ => rfl), fn_ok (k := 1) (sp := sp_run) F20 sc_l_run len_sp_run (fun cdv A outer s H E M hr => tr_l_run T (D_l_cell_at.mono (by decide)) (D_l_deck.mono (by decide)) (D_l_take.mono (by decide)) hr) rd_run⟩
  have D_l_table_misses : Dk ⟨P, w, K⟩ mg base 1 "_law_table_misses" ["guesser", "run"] sp_table_misses := ⟨_, _, PySem.W.mg_of X G a19, k19, F19.binds (fun _ _ _ _ _ _ us hl => match us, hl with | [_, _], _ => rfl), fn_ok (k := 0) (sp := sp_table_misses) F19 sc_l_table_misses len_sp_table_misses (fun cdv A outer s H E M hr => tr_l_table_misses T hr) rd_table_misses⟩
  have D_l_at : Dk ⟨P, w, K⟩ mg base 1 "_law_at" ["run", "places"] sp_at := ⟨_, _, PySem.W.mg_of X G a21, k21, F21.binds (fun _ _ _ _ _ _ us hl => match us, hl with | [_, _], _ => rfl), fn_ok (k := 0) (sp := sp_at) F21 sc_l_at len_sp_at (fun cdv A outer s H E M hr => tr_l_at T hr) rd_at⟩
  have D_l_due : Dk ⟨P, w, K⟩ mg base 2 "_law_due" ["guesser", "run"] sp_due := ⟨_, _, PySem.W.mg_of X G a22, k22, F22.binds (fun _ _ _ _ _ _ us hl => match us, hl with | [_, _], _ => rfl), fn_ok (k := 1) (sp := sp_due) F22 sc_l_due len_sp_due (fun cdv A outer s H E M hr => tr_l_due T (D_l_table_misses.mono (by decide)) (D_l_at.mono (by decide)) hr) rd_due⟩
  have D_p_places_of : Dk ⟨P, w, K⟩ mg base 1 "places_of" ["run"] sp_places_of := ⟨_, _, PySem.W.mg_of X G a12, k12, F12.binds (fun _ _ _ _ _ _ us hl => match us, hl with | [_], _ => rfl), fn_ok (k := 0) (sp := sp_places_of) F12 sc_p_places_of len_sp_places_of (fun cdv A outer s H E M hr => tr_p_places_of T hr) rd_places_of⟩
  have D_p_cells_in : Dk ⟨P, w, K⟩ mg base 1 "cells_in" ["guesser", "state"] sp_cells_in := ⟨_, _, PySem.W.mg_of X G a2, k2, F2.binds (fun _ _ _ _ _ _ us hl => match us, hl with | [_, _], _ => rfl), fn_ok (k := 0) (sp := sp_cells_in) F2 sc_p_cells_in len_sp_cells_in (fun cdv A outer s H E M hr => tr_p_cells_in T hr) rd_cells_in⟩
  have D_p_cell_place : Dk ⟨P, w, K⟩ mg base 1 "cell_place" ["guesser", "state", "place"] sp_cell_place := ⟨_, _, PySem.W.mg_of X G a3, k3, F3.binds (fun _ _ _ _ _ _ us hl => match us, hl with | [_, _, _], _ => rfl), fn_ok (k := 0) (sp := sp_cell_place) F3 sc_p_cell_place len_sp_cell_place (fun cdv A outer s H E M hr => tr_p_cell_place T hr) rd_cell_place⟩
  have D_p_guess_0 : Dk ⟨P, w, K⟩ mg base 0 "guess" ["guesser", "state", "place"] (sp_guess 0) := dk_vac (PySem.W.mg_of X G a4) k4 (F4.binds (fun _ _ _ _ _ _ us hl => match us, hl with | [_, _, _], _ => rfl)) vac_guess
  have D_p_guess_1 : Dk ⟨P, w, K⟩ mg base 2 "guess" ["guesser", "state", "place"] (sp_guess 1) := ⟨_, _, PySem.W.mg_of X G a4, k4, F4.binds (fun _ _ _ _ _ _ us hl => match us, hl with | [_, _, _], _ => rfl), fn_ok (k := 1) (sp := (sp_guess 1)) F4 sc_p_guess (len_sp_guess 1) (fun cdv A outer s H E M hr => tr_p_guess T (D_p_cells_in.mono (by decide)) (D_p_cell_place.mono (by decide)) (D_p_guess_0.mono (by decide)) hr) (rd_guess 0)⟩
  have D_p_guess_2 : Dk ⟨P, w, K⟩ mg base 3 "guess" ["guesser", "state", "place"] (sp_guess 2) := ⟨_, _, PySem.W.mg_of X G a4, k4, F4.binds (fun _ _ _ _ _ _ us hl => match us, hl with | [_, _, _], _ => rfl), fn_ok (k := 2) (sp := (sp_guess 2)) F4 sc_p_guess (len_sp_guess 2) (fun cdv A outer s H E M hr => tr_p_guess T (D_p_cells_in.mono (by decide)) (D_p_cell_place.mono (by decide)) (D_p_guess_1.mono (by decide)) hr) (rd_guess 1)⟩
  have D_p_guess_3 : Dk ⟨P, w, K⟩ mg base 4 "guess" ["guesser", "state", "place"] (sp_guess 3) := ⟨_, _, PySem.W.mg_of X G a4, k4, F4.binds (fun _ _ _ _ _ _ us hl => match us, hl with | [_, _, _], _ => rfl), fn_ok (k := 3) (sp := (sp_guess 3)) F4 sc_p_guess (len_sp_guess 3) (fun cdv A outer s H E M hr => tr_p_guess T (D_p_cells_in.mono (by decide)) (D_p_cell_place.mono (by decide)) (D_p_guess_2.mono (by decide)) hr) (rd_guess 2)⟩
  have D_p_guess_4 : Dk ⟨P, w, K⟩ mg base 5 "guess" ["guesser", "state", "place"] (sp_guess 4) := ⟨_, _, PySem.W.mg_of X G a4, k4, F4.binds (fun _ _ _ _ _ _ us hl => match us, hl with | [_, _, _], _ => rfl), fn_ok (k := 4) (sp := (sp_guess 4)) F4 sc_p_guess (len_sp_guess 4) (fun cdv A outer s H E M hr => tr_p_guess T (D_p_cells_in.mono (by decide)) (D_p_cell_place.mono (by decide)) (D_p_guess_3.mono (by decide)) hr) (rd_guess 3)⟩
  have D_p_replaced : Dk ⟨P, w, K⟩ mg base 1 "replaced" ["row", "at", "thing"] sp_replaced := ⟨_, _, PySem.W.mg_of X G a5, k5, F5.binds (fun _ _ _ _ _ _ us hl => match us, hl with | [_, _, _], _ => rfl), fn_ok (k := 0) (sp := sp_replaced) F5 sc_p_replaced len_sp_replaced (fun cdv A outer s H E M hr => tr_p_replaced T hr) rd_replaced⟩
  have D_p_cells_behind : Dk ⟨P, w, K⟩ mg base 2 "cells_behind" ["guesser", "state", "place", "way"] sp_cells_behind := ⟨_, _, PySem.W.mg_of X G a6, k6, F6.binds (fun _ _ _ _ _ _ us hl => match us, hl with | [_, _, _, _], _ => rfl), fn_ok (k := 1) (sp := sp_cells_behind) F6 sc_p_cells_behind len_sp_cells_behind (fun cdv A outer s H E M hr => tr_p_cells_behind T (D_p_cells_in.mono (by decide)) (D_p_cell_place.mono (by decide)) (D_p_replaced.mono (by decide)) hr) rd_cells_behind⟩
  have D_p_learned_0 : Dk ⟨P, w, K⟩ mg base 0 "learned" ["guesser", "state", "place", "way"] (sp_learned 0) := dk_vac (PySem.W.mg_of X G a9) k9 (F9.binds (fun _ _ _ _ _ _ us hl => match us, hl with | [_, _, _, _], _ => rfl)) vac_learned
  have D_p_learned_either_0 : Dk ⟨P, w, K⟩ mg base 3 "learned_either" ["guesser", "state", "place", "way"] (sp_learned_either 0) := ⟨_, _, PySem.W.mg_of X G a8, k8, F8.binds (fun _ _ _ _ _ _ us hl => match us, hl with | [_, _, _, _], _ => rfl), fn_ok (k := 2) (sp := (sp_learned_either 0)) F8 sc_p_learned_either (len_sp_learned_either 0) (fun cdv A outer s H E M hr => tr_p_learned_either T (D_p_guess_0.mono (by decide)) (D_p_cells_behind.mono (by decide)) (D_p_learned_0.mono (by decide)) hr) (rd_learned_either 0)⟩
  have D_p_one_more : Dk ⟨P, w, K⟩ mg base 1 "one_more" ["number", "length", "way"] sp_one_more := ⟨_, _, PySem.W.mg_of X G a7, k7, F7.binds (fun _ _ _ _ _ _ us hl => match us, hl with | [_, _, _], _ => rfl), fn_ok (k := 0) (sp := sp_one_more) F7 sc_p_one_more len_sp_one_more (fun cdv A outer s H E M hr => tr_p_one_more T hr) rd_one_more⟩
  have D_p_learned_1 : Dk ⟨P, w, K⟩ mg base 4 "learned" ["guesser", "state", "place", "way"] (sp_learned 1) := ⟨_, _, PySem.W.mg_of X G a9, k9, F9.binds (fun _ _ _ _ _ _ us hl => match us, hl with | [_, _, _, _], _ => rfl), fn_ok (k := 3) (sp := (sp_learned 1)) F9 sc_p_learned (len_sp_learned 1) (fun cdv A outer s H E M hr => tr_p_learned T (D_p_learned_either_0.mono (by decide)) (D_p_cells_behind.mono (by decide)) (D_p_replaced.mono (by decide)) (D_p_one_more.mono (by decide)) hr) (rd_learned 0)⟩
  have D_p_learned_either_1 : Dk ⟨P, w, K⟩ mg base 5 "learned_either" ["guesser", "state", "place", "way"] (sp_learned_either 1) := ⟨_, _, PySem.W.mg_of X G a8, k8, F8.binds (fun _ _ _ _ _ _ us hl => match us, hl with | [_, _, _, _], _ => rfl), fn_ok (k := 4) (sp := (sp_learned_either 1)) F8 sc_p_learned_either (len_sp_learned_either 1) (fun cdv A outer s H E M hr => tr_p_learned_either T (D_p_guess_1.mono (by decide)) (D_p_cells_behind.mono (by decide)) (D_p_learned_1.mono (by decide)) hr) (rd_learned_either 1)⟩
  have D_p_learned_2 : Dk ⟨P, w, K⟩ mg base 6 "learned" ["guesser", "state", "place", "way"] (sp_learned 2) := ⟨_, _, PySem.W.mg_of X G a9, k9, F9.binds (fun _ _ _ _ _ _ us hl => match us, hl with | [_, _, _, _], _ => rfl), fn_ok (k := 5) (sp := (sp_learned 2)) F9 sc_p_learned (len_sp_learned 2) (fun cdv A outer s H E M hr => tr_p_learned T (D_p_learned_either_1.mono (by decide)) (D_p_cells_behind.mono (by decide)) (D_p_replaced.mono (by decide)) (D_p_one_more.mono (by decide)) hr) (rd_learned 1)⟩
  have D_p_learned_either_2 : Dk ⟨P, w, K⟩ mg base 7 "learned_either" ["guesser", "state", "place", "way"] (sp_learned_either 2) := ⟨_, _, PySem.W.mg_of X G a8, k8, F8.binds (fun _ _ _ _ _ _ us hl => match us, hl with | [_, _, _, _], _ => rfl), fn_ok (k := 6) (sp := (sp_learned_either 2)) F8 sc_p_learned_either (len_sp_learned_either 2) (fun cdv A outer s H E M hr => tr_p_learned_either T (D_p_guess_2.mono (by decide)) (D_p_cells_behind.mono (by decide)) (D_p_learned_2.mono (by decide)) hr) (rd_learned_either 2)⟩
  have D_p_learned_3 : Dk ⟨P, w, K⟩ mg base 8 "learned" ["guesser", "state", "place", "way"] (sp_learned 3) := ⟨_, _, PySem.W.mg_of X G a9, k9, F9.binds (fun _ _ _ _ _ _ us hl => match us, hl with | [_, _, _, _], _ => rfl), fn_ok (k := 7) (sp := (sp_learned 3)) F9 sc_p_learned (len_sp_learned 3) (fun cdv A outer s H E M hr => tr_p_learned T (D_p_learned_either_2.mono (by decide)) (D_p_cells_behind.mono (by decide)) (D_p_replaced.mono (by decide)) (D_p_one_more.mono (by decide)) hr) (rd_learned 2)⟩
  have D_p_learned_either_3 : Dk ⟨P, w, K⟩ mg base 9 "learned_either" ["guesser", "state", "place", "way"] (sp_learned_either 3) := ⟨_, _, PySem.W.mg_of X G a8, k8, F8.binds (fun _ _ _ _ _ _ us hl => match us, hl with | [_, _, _, _], _ => rfl), fn_ok (k := 8) (sp := (sp_learned_either 3)) F8 sc_p_learned_either (len_sp_learned_either 3) (fun cdv A outer s H E M hr => tr_p_learned_either T (D_p_guess_3.mono (by decide)) (D_p_cells_behind.mono (by decide)) (D_p_learned_3.mono (by decide)) hr) (rd_learned_either 3)⟩
  have D_p_learned_4 : Dk ⟨P, w, K⟩ mg base 10 "learned" ["guesser", "state", "place", "way"] (sp_learned 4) := ⟨_, _, PySem.W.mg_of X G a9, k9, F9.binds (fun _ _ _ _ _ _ us hl => match us, hl with | [_, _, _, _], _ => rfl), fn_ok (k := 9) (sp := (sp_learned 4)) F9 sc_p_learned (len_sp_learned 4) (fun cdv A outer s H E M hr => tr_p_learned T (D_p_learned_either_3.mono (by decide)) (D_p_cells_behind.mono (by decide)) (D_p_replaced.mono (by decide)) (D_p_one_more.mono (by decide)) hr) (rd_learned 3)⟩
  have D_p_passed : Dk ⟨P, w, K⟩ mg base 11 "passed" ["guesser", "state", "run"] sp_passed := ⟨_, _, PySem.W.mg_of X G a10, k10, F10.binds (fun _ _ _ _ _ _ us hl => match us, hl with | [_, _, _], _ => rfl), fn_ok (k := 10) (sp := sp_passed) F10 sc_p_passed len_sp_passed (fun cdv A outer s H E M hr => tr_p_passed T (D_p_guess_4.mono (by decide)) (D_p_learned_4.mono (by decide)) hr) rd_passed⟩
  have D_p_cells_alone : Dk ⟨P, w, K⟩ mg base 1 "cells_alone" ["guesser"] sp_cells_alone := ⟨_, _, PySem.W.mg_of X G a0, k0, F0.binds (fun _ _ _ _ _ _ us hl => match us, hl with | [_], _ => rfl), fn_ok (k := 0) (sp := sp_cells_alone) F0 sc_p_cells_alone len_sp_cells_alone (fun cdv A outer s H E M hr => tr_p_cells_alone T hr) rd_cells_alone⟩
  have D_p_first_state_0 : Dk ⟨P, w, K⟩ mg base 0 "first_state" ["guesser"] (sp_first_state 0) := dk_vac (PySem.W.mg_of X G a1) k1 (F1.binds (fun _ _ _ _ _ _ us hl => match us, hl with | [_], _ => rfl)) vac_first_state
  have D_p_first_state_1 : Dk ⟨P, w, K⟩ mg base 2 "first_state" ["guesser"] (sp_first_state 1) := ⟨_, _, PySem.W.mg_of X G a1, k1, F1.binds (fun _ _ _ _ _ _ us hl => match us, hl with | [_], _ => rfl), fn_ok (k := 1) (sp := (sp_first_state 1)) F1 sc_p_first_state (len_sp_first_state 1) (fun cdv A outer s H E M hr => tr_p_first_state T (D_p_cells_alone.mono (by decide)) (D_p_first_state_0.mono (by decide)) hr) (rd_first_state 0)⟩
  have D_p_first_state_2 : Dk ⟨P, w, K⟩ mg base 3 "first_state" ["guesser"] (sp_first_state 2) := ⟨_, _, PySem.W.mg_of X G a1, k1, F1.binds (fun _ _ _ _ _ _ us hl => match us, hl with | [_], _ => rfl), fn_ok (k := 2) (sp := (sp_first_state 2)) F1 sc_p_first_state (len_sp_first_state 2) (fun cdv A outer s H E M hr => tr_p_first_state T (D_p_cells_alone.mono (by decide)) (D_p_first_state_1.mono (by decide)) hr) (rd_first_state 1)⟩
  have D_p_first_state_3 : Dk ⟨P, w, K⟩ mg base 4 "first_state" ["guesser"] (sp_first_state 3) := ⟨_, _, PySem.W.mg_of X G a1, k1, F1.binds (fun _ _ _ _ _ _ us hl => match us, hl with | [_], _ => rfl), fn_ok (k := 3) (sp := (sp_first_state 3)) F1 sc_p_first_state (len_sp_first_state 3) (fun cdv A outer s H E M hr => tr_p_first_state T (D_p_cells_alone.mono (by decide)) (D_p_first_state_2.mono (by decide)) hr) (rd_first_state 2)⟩
  have D_p_first_state_4 : Dk ⟨P, w, K⟩ mg base 5 "first_state" ["guesser"] (sp_first_state 4) := ⟨_, _, PySem.W.mg_of X G a1, k1, F1.binds (fun _ _ _ _ _ _ us hl => match us, hl with | [_], _ => rfl), fn_ok (k := 4) (sp := (sp_first_state 4)) F1 sc_p_first_state (len_sp_first_state 4) (fun cdv A outer s H E M hr => tr_p_first_state T (D_p_cells_alone.mono (by decide)) (D_p_first_state_3.mono (by decide)) hr) (rd_first_state 3)⟩
  have D_p_misses_at : Dk ⟨P, w, K⟩ mg base 12 "misses_at" ["guesser", "run", "places"] sp_misses_at := ⟨_, _, PySem.W.mg_of X G a11, k11, F11.binds (fun _ _ _ _ _ _ us hl => match us, hl with | [_, _, _], _ => rfl), fn_ok (k := 11) (sp := sp_misses_at) F11 sc_p_misses_at len_sp_misses_at (fun cdv A outer s H E M hr => tr_p_misses_at T (D_p_passed.mono (by decide)) (D_p_first_state_4.mono (by decide)) hr) rd_misses_at⟩
  have D_p_spoiled : Dk ⟨P, w, K⟩ mg base 13 "spoiled" ["guesser", "run"] sp_spoiled := ⟨_, _, PySem.W.mg_of X G a13, k13, F13.binds (fun _ _ _ _ _ _ us hl => match us, hl with | [_, _], _ => rfl), fn_ok (k := 12) (sp := sp_spoiled) F13 sc_p_spoiled len_sp_spoiled (fun cdv A outer s H E M hr => tr_p_spoiled T (D_p_places_of.mono (by decide)) (D_p_misses_at.mono (by decide)) hr) rd_spoiled⟩
  have D_p_lost_by_sharing : Dk ⟨P, w, K⟩ mg base 13 "lost_by_sharing" ["guesser", "run"] sp_lost := ⟨_, _, PySem.W.mg_of X G a14, k14, F14.binds (fun _ _ _ _ _ _ us hl => match us, hl with | [_, _], _ => rfl), fn_ok (k := 12) (sp := sp_lost) F14 sc_p_lost_by_sharing len_sp_lost (fun cdv A outer s H E M hr => tr_p_lost_by_sharing T (D_p_passed.mono (by decide)) (D_p_first_state_4.mono (by decide)) (D_p_places_of.mono (by decide)) (D_p_misses_at.mono (by decide)) hr) rd_lost⟩
  exact fn_okG (k := 13) (sp := spLaw) F23 sc_lawm len_spLaw (fun cdv A outer s H E M gd hr => tr_lawm T (D_l_deck.mono (by decide)) (D_l_cell_at.mono (by decide)) (D_l_take.mono (by decide)) (D_l_cell.mono (by decide)) (D_l_run.mono (by decide)) (D_l_due.mono (by decide)) (D_p_spoiled.mono (by decide)) (D_l_table_misses.mono (by decide)) (D_l_at.mono (by decide)) (D_p_lost_by_sharing.mono (by decide)) gd hr) rd_law
end PV

open PySem PySem.W PyProof.Rows in
set_option maxHeartbeats 0 in
theorem PySem.Challenge.cw_wayguess_k62_what_places_spoil_holds : PySem.Challenge.rw_wayguess_k62_what_places_spoil.Holds := by
  w_on; o_law; k_head; (case hw => w_witness2)
  k_fill
  refine PV.walkG (l := PySem.Challenge.rw_wayguess_k62_what_places_spoil) (k := 14) rfl rfl ⟨rfl, by decide, by decide⟩ (fun w h Y => PySem.W.kIn_of Y) ?F
  case F =>
    intro w mg fa h KX G hmg
    refine' PV.all_mk KX G hmg ?a0 ?l0 ?c0 ?k0 ?a1 ?l1 ?c1 ?k1 ?a2 ?l2 ?c2 ?k2 ?a3 ?l3 ?c3 ?k3 ?a4 ?l4 ?c4 ?k4 ?a5 ?l5 ?c5 ?k5 ?a6 ?l6 ?c6 ?k6 ?a7 ?l7 ?c7 ?k7 ?a8 ?l8 ?c8 ?k8 ?a9 ?l9 ?c9 ?k9 ?a10 ?l10 ?c10 ?k10 ?a11 ?l11 ?c11 ?k11 ?a12 ?l12 ?c12 ?k12 ?a13 ?l13 ?c13 ?k13 ?a14 ?l14 ?c14 ?k14 ?a15 ?l15 ?c15 ?k15 ?a16 ?l16 ?c16 ?k16 ?a17 ?l17 ?c17 ?k17 ?a18 ?l18 ?c18 ?k18 ?a19 ?l19 ?c19 ?k19 ?a20 ?l20 ?c20 ?k20 ?a21 ?l21 ?c21 ?k21 ?a22 ?l22 ?c22 ?k22 ?a23 ?l23 ?c23 ?k23 ?z_bool ?z_int ?z_isinstance ?z_len ?z_list ?z_range ?z_repr ?z_set ?z_sorted ?z_tuple
    (case a0 => k_is)
    (case l0 => k_is)
    (case c0 => k_is)
    (case k0 => k_is)
    (case a1 => k_is)
    (case l1 => k_is)
    (case c1 => k_is)
    (case k1 => k_is)
    (case a2 => k_is)
    (case l2 => k_is)
    (case c2 => k_is)
    (case k2 => k_is)
    (case a3 => k_is)
    (case l3 => k_is)
    (case c3 => k_is)
    (case k3 => k_is)
    (case a4 => k_is)
    (case l4 => k_is)
    (case c4 => k_is)
    (case k4 => k_is)
    (case a5 => k_is)
    (case l5 => k_is)
    (case c5 => k_is)
    (case k5 => k_is)
    (case a6 => k_is)
    (case l6 => k_is)
    (case c6 => k_is)
    (case k6 => k_is)
    (case a7 => k_is)
    (case l7 => k_is)
    (case c7 => k_is)
    (case k7 => k_is)
    (case a8 => k_is)
    (case l8 => k_is)
    (case c8 => k_is)
    (case k8 => k_is)
    (case a9 => k_is)
    (case l9 => k_is)
    (case c9 => k_is)
    (case k9 => k_is)
    (case a10 => k_is)
    (case l10 => k_is)
    (case c10 => k_is)
    (case k10 => k_is)
    (case a11 => k_is)
    (case l11 => k_is)
    (case c11 => k_is)
    (case k11 => k_is)
    (case a12 => k_is)
    (case l12 => k_is)
    (case c12 => k_is)
    (case k12 => k_is)
    (case a13 => k_is)
    (case l13 => k_is)
    (case c13 => k_is)
    (case k13 => k_is)
    (case a14 => k_is)
    (case l14 => k_is)
    (case c14 => k_is)
    (case k14 => k_is)
    (case a15 => k_is)
    (case l15 => k_is)
    (case c15 => k_is)
    (case k15 => k_is)
    (case a16 => k_is)
    (case l16 => k_is)
    (case c16 => k_is)
    (case k16 => k_is)
    (case a17 => k_is)
    (case l17 => k_is)
    (case c17 => k_is)
    (case k17 => k_is)
    (case a18 => k_is)
    (case l18 => k_is)
    (case c18 => k_is)
    (case k18 => k_is)
    (case a19 => k_is)
    (case l19 => k_is)
    (case c19 => k_is)
    (case k19 => k_is)
    (case a20 => k_is)
    (case l20 => k_is)
    (case c20 => k_is)
    (case k20 => k_is)
    (case a21 => k_is)
    (case l21 => k_is)
    (case c21 => k_is)
    (case k21 => k_is)
    (case a22 => k_is)
    (case l22 => k_is)
    (case c22 => k_is)
    (case k22 => k_is)
    (case a23 => k_is)
    (case l23 => k_is)
    (case c23 => k_is)
    (case k23 => k_is)
    (case z_bool => k_is)
    (case z_int => k_is)
    (case z_isinstance => k_is)
    (case z_len => k_is)
    (case z_list => k_is)
    (case z_range => k_is)
    (case z_repr => k_is)
    (case z_set => k_is)
    (case z_sorted => k_is)
    (case z_tuple => k_is)
