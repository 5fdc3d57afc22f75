import PyProof.Rows.All
import Wide.All
import OpenK.AllK
import Wide.FinOn
import HandS.ForMost
import HandS.Wide
import HandS.TupAny
import HandS.TupMul
import HandS.IsInst
import HandS.Style
import HandS.Conv
import KE.KDictKeyed
import KE.KDictWalk
import KE.GoesDict
import KE.SortData
import HandS.WideBits
import HandS.Flow
import HandS.More
import HandS.SortInts
import HandS.EndBits
import PySem.Challenge.RW_wayguess_k50_what_is_a_flow
set_option Elab.async false
set_option linter.all false
set_option maxRecDepth 100000
set_option maxHeartbeats 1000000
/-! PV: tuples by value. -/
namespace PV
open PySem PySem.Spec PyProof.Rows L2

/-- a value: tuples by value, mutable things by address -/
inductive W where
  | non | bl (b : Bool) | int (i : Int) | str (x : Str) | tup (xs : List W) | ref (a : Addr)
  | cl (xs : List W)
/-- what stands at a live address -/
inductive Ob where
  | lst (xs : List W)
  | dK (kvs : List (Key × W))
  | dN (kvs : List (W × W))
  | lkK (kvs : List (Key × W))
  | lkN (kvs : List (W × W))
  | ins (C : Addr) (fs : List (Str × W))
  | set (S : Int → Bool) (n : Nat)
abbrev Me := Addr → Option Ob
abbrev En := List (Option W)
def put (M : Me) (a : Addr) (o : Ob) : Me := fun b => if b = a then some o else M b
theorem put_same {M : Me} {a : Addr} {o : Ob} : put M a o a = some o := by unfold put; rw [if_pos rfl]
theorem put_ne {M : Me} {a b : Addr} {o : Ob} (h : b ≠ a) : put M a o b = M b := by unfold put; rw [if_neg h]
theorem put_old {M : Me} {a b : Addr} {o u : Ob} (h : M b = some u) (n : M a = none) : put M a o b = some u := by
  rw [put_ne (fun e => by rw [e, n] at h; cases h)]; exact h
theorem put_put {M : Me} {a : Addr} {o u : Ob} : put (put M a o) a u = put M a u := by
  funext b; unfold put; split <;> rfl
theorem put_comm {M : Me} {a b : Addr} {o u : Ob} (h : a ≠ b) : put (put M a o) b u = put (put M b u) a o := by
  funext c; unfold put
  by_cases h1 : c = b
  · rw [if_pos h1, if_neg (by rw [h1]; exact Ne.symm h), if_pos h1]
  · rw [if_neg h1, if_neg h1]
theorem put_self {M : Me} {a : Addr} {o : Ob} (h : M a = some o) : put M a o = M := by
  funext b; unfold put; split
  · rename_i e; rw [e, h]
  · rfl
/-- fewer live things -/
def Sub (M M' : Me) : Prop := ∀ a o, M a = some o → M' a = some o
theorem Sub.refl (M : Me) : Sub M M := fun _ _ h => h
theorem Sub.trans {M M1 M2 : Me} (a : Sub M M1) (b : Sub M1 M2) : Sub M M2 := fun c o h => b c o (a c o h)
theorem Sub.put {M M' : Me} {a : Addr} {o : Ob} (s : Sub M M') (h : M a = none) : Sub M (PV.put M' a o) := fun b u e => by
  rw [put_ne (fun z => by rw [z, h] at e; cases e)]; exact s b u e
theorem Sub.new {M : Me} {a : Addr} {o : Ob} (h : M a = none) : Sub M (PV.put M a o) := (Sub.refl M).put h
theorem Sub.both {M M' : Me} {a : Addr} {o : Ob} (s : Sub M M') : Sub (PV.put M a o) (PV.put M' a o) := fun b u e => by
  by_cases z : b = a
  · subst z; rw [put_same] at e ⊢; exact e
  · rw [put_ne z] at e ⊢; exact s b u e

/-! ### what a value is at an abstract heap -/
/-- a list that nobody can change -/
def Cl (K : PySem.W.Frag) (H : Hp) (a : Addr) (vs : List V) : Prop := (∃ o, H a = some (.frz o (.lst vs))) ∨
  ∃ (o : Obj) (its : Array Value) (n : Nat), K.lookup a = some o ∧ o.cls = .type "list" ∧ o.dict = none ∧ o.data = .seq its n ∧ its.size ≤ sizeLine ∧ Vals vs its.toList
theorem Cl.sq {K : PySem.W.Frag} {H : Hp} {a : Addr} {vs : List V} (h : Cl K H a vs) : SqL K H a vs := h.elim (fun h => .inl (.inr h)) .inr
mutual
def Rep (K : PySem.W.Frag) (H : Hp) : W → V → Prop
  | .non, v => v = .non
  | .bl b, v => v = .bl b
  | .int i, v => v = .int i
  | .str x, v => v = .str x
  | .ref a, v => v = .ref a
  | .tup ws, v => ∃ a vs, v = .ref a ∧ SqT K H a vs ∧ Reps K H ws vs
  | .cl ws, v => ∃ a vs, v = .ref a ∧ Cl K H a vs ∧ Reps K H ws vs
def Reps (K : PySem.W.Frag) (H : Hp) : List W → List V → Prop
  | [], vs => vs = []
  | w :: ws, vs => ∃ v r, vs = v :: r ∧ Rep K H w v ∧ Reps K H ws r
end
/-- the abstract heap goes on: tuples and locked things stay -/
structure GoH (H H' : Hp) : Prop where
  tup : ∀ a xs, H a = some (.tup xs) → H' a = some (.tup xs)
  frz : ∀ a o u, H a = some (.frz o u) → H' a = some (.frz o u)
  dom : ∀ a, H a ≠ none → H' a ≠ none
theorem GoH.refl (H : Hp) : GoH H H := ⟨fun _ _ h => h, fun _ _ _ h => h, fun _ h => h⟩
theorem GoH.trans {H H1 H2 : Hp} (a : GoH H H1) (b : GoH H1 H2) : GoH H H2 := ⟨fun c x h => b.tup c x (a.tup c x h), fun c o u h => b.frz c o u (a.frz c o u h), fun c h => b.dom c (a.dom c h)⟩
theorem GoH.new {H : Hp} {p : Addr} {o : HO} (h : H p = none) : GoH H (upd H p o) :=
  ⟨fun a xs e => by rw [upd_ne (ne_of_none e h)]; exact e, fun a ob u e => by rw [upd_ne (ne_of_none e h)]; exact e, fun a e => by
    by_cases z : a = p
    · subst z; exact absurd h e
    · rw [upd_ne z]; exact e⟩
/-- a thing that is no tuple and not locked is written -/
theorem GoH.write {H : Hp} {p : Addr} {o o' : HO} (h : H p = some o) (h1 : ∀ xs, o ≠ .tup xs) (h2 : ∀ ob u, o ≠ .frz ob u) : GoH H (upd H p o') :=
  ⟨fun a xs e => by rw [upd_ne (ne_of e h (Ne.symm (h1 xs)))]; exact e, fun a ob u e => by rw [upd_ne (ne_of e h (Ne.symm (h2 ob u)))]; exact e, fun a e => by
    by_cases z : a = p
    · subst z; rw [upd_same]; intro q; cases q
    · rw [upd_ne z]; exact e⟩
theorem GoH.sqT {K : PySem.W.Frag} {H H' : Hp} {a : Addr} {xs : List V} (g : GoH H H') (h : SqT K H a xs) : SqT K H' a xs := by
  rcases h with (h | ⟨o, h⟩) | h
  · exact .inl (.inl (g.tup _ _ h))
  · exact .inl (.inr ⟨o, g.frz _ _ _ h⟩)
  · exact .inr h
theorem GoH.cl {K : PySem.W.Frag} {H H' : Hp} {a : Addr} {xs : List V} (g : GoH H H') (h : Cl K H a xs) : Cl K H' a xs := h.elim (fun ⟨o, h⟩ => .inl ⟨o, g.frz _ _ _ h⟩) .inr
mutual
theorem Rep.go {K : PySem.W.Frag} {H H' : Hp} (g : GoH H H') : ∀ {w : W} {v : V}, Rep K H w v → Rep K H' w v
  | .non, _, h => h
  | .bl _, _, h => h
  | .int _, _, h => h
  | .str _, _, h => h
  | .ref _, _, h => h
  | .tup _, _, ⟨a, vs, e, s, r⟩ => ⟨a, vs, e, g.sqT s, Reps.go g r⟩
  | .cl _, _, ⟨a, vs, e, s, r⟩ => ⟨a, vs, e, g.cl s, Reps.go g r⟩
theorem Reps.go {K : PySem.W.Frag} {H H' : Hp} (g : GoH H H') : ∀ {ws : List W} {vs : List V}, Reps K H ws vs → Reps K H' ws vs
  | [], _, h => h
  | _ :: _, _, ⟨v, r, e, h, t⟩ => ⟨v, r, e, Rep.go g h, Reps.go g t⟩
end
section
variable {K : PySem.W.Frag} {H : Hp}
theorem Reps.nil : Reps K H [] [] := by unfold Reps; rfl
theorem Reps.cons {w : W} {ws : List W} {v : V} {vs : List V} (h : Rep K H w v) (t : Reps K H ws vs) : Reps K H (w :: ws) (v :: vs) := by unfold Reps; exact ⟨v, vs, rfl, h, t⟩
theorem Reps.uncons {w : W} {ws : List W} {vs : List V} (h : Reps K H (w :: ws) vs) : ∃ v r, vs = v :: r ∧ Rep K H w v ∧ Reps K H ws r := by unfold Reps at h; exact h
theorem Reps.unnil {vs : List V} (h : Reps K H [] vs) : vs = [] := by unfold Reps at h; exact h
theorem Reps.length : ∀ {ws : List W} {vs : List V}, Reps K H ws vs → vs.length = ws.length
  | [], _, h => by rw [h.unnil]; rfl
  | w :: ws, vs, h => by
    obtain ⟨v, r, e, _, t⟩ := h.uncons
    rw [e, List.length_cons, List.length_cons, Reps.length t]
theorem Reps.get : ∀ {ws : List W} {vs : List V} {i : Nat} {w : W}, Reps K H ws vs → ws[i]? = some w → ∃ v, vs[i]? = some v ∧ Rep K H w v
  | [], _, _, _, _, e => by simp at e
  | w :: ws, vs, 0, x, h, e => by
    obtain ⟨v, r, e1, h1, _⟩ := h.uncons
    have e2 : w = x := by simpa using e
    subst e1 e2
    exact ⟨v, rfl, h1⟩
  | w :: ws, vs, i + 1, x, h, e => by
    obtain ⟨v, r, e1, _, t⟩ := h.uncons
    subst e1
    obtain ⟨u, h1, h2⟩ := Reps.get (i := i) (w := x) t (by simpa using e)
    exact ⟨u, by simpa using h1, h2⟩
theorem Reps.append : ∀ {ws us : List W} {vs zs : List V}, Reps K H ws vs → Reps K H us zs → Reps K H (ws ++ us) (vs ++ zs)
  | [], _, _, _, h, t => by rw [h.unnil]; exact t
  | w :: ws, us, vs, zs, h, t => by
    obtain ⟨v, r, e, h1, h2⟩ := h.uncons
    subst e
    exact .cons h1 (Reps.append h2 t)
theorem Reps.take : ∀ {ws : List W} {vs : List V} (n : Nat), Reps K H ws vs → Reps K H (ws.take n) (vs.take n)
  | [], _, n, h => by rw [h.unnil]; simpa using Reps.nil
  | w :: ws, vs, 0, h => by simpa using Reps.nil
  | w :: ws, vs, n + 1, h => by
    obtain ⟨v, r, e, h1, h2⟩ := h.uncons
    subst e
    exact .cons h1 (Reps.take n h2)
theorem Reps.drop : ∀ {ws : List W} {vs : List V} (n : Nat), Reps K H ws vs → Reps K H (ws.drop n) (vs.drop n)
  | [], _, n, h => by rw [h.unnil]; simpa using Reps.nil
  | w :: ws, vs, 0, h => h
  | w :: ws, vs, n + 1, h => by
    obtain ⟨v, r, e, h1, h2⟩ := h.uncons
    subst e
    exact Reps.drop n h2
theorem Reps.set : ∀ {ws : List W} {vs : List V} (i : Nat) {w : W} {v : V}, Rep K H w v → Reps K H ws vs → Reps K H (ws.set i w) (vs.set i v)
  | [], _, i, _, _, _, h => by rw [h.unnil]; simpa using Reps.nil
  | x :: ws, vs, 0, w, v, q, h => by
    obtain ⟨y, r, e, h1, h2⟩ := h.uncons
    subst e
    exact .cons q h2
  | x :: ws, vs, i + 1, w, v, q, h => by
    obtain ⟨y, r, e, h1, h2⟩ := h.uncons
    subst e
    exact .cons h1 (Reps.set i q h2)
theorem Reps.eraseIdx : ∀ {ws : List W} {vs : List V} (i : Nat), Reps K H ws vs → Reps K H (ws.eraseIdx i) (vs.eraseIdx i)
  | [], _, i, h => by rw [h.unnil]; simpa using Reps.nil
  | x :: ws, vs, 0, h => by
    obtain ⟨y, r, e, h1, h2⟩ := h.uncons
    subst e
    exact h2
  | x :: ws, vs, i + 1, h => by
    obtain ⟨y, r, e, h1, h2⟩ := h.uncons
    subst e
    exact .cons h1 (Reps.eraseIdx i h2)
theorem Reps.dropLast {ws : List W} {vs : List V} (h : Reps K H ws vs) : Reps K H ws.dropLast vs.dropLast := by
  rw [List.dropLast_eq_take, List.dropLast_eq_take, h.length]
  exact h.take _
theorem Reps.reverse : ∀ {ws : List W} {vs : List V}, Reps K H ws vs → Reps K H ws.reverse vs.reverse
  | [], _, h => by rw [h.unnil]; exact Reps.nil
  | x :: ws, vs, h => by
    obtain ⟨y, r, e, h1, h2⟩ := h.uncons
    subst e
    rw [List.reverse_cons, List.reverse_cons]
    exact (Reps.reverse h2).append (.cons h1 .nil)
theorem Reps.rep {ws : List W} {vs : List V} (h : Reps K H ws vs) : ∀ k : Nat, Reps K H (List.replicate k ws).flatten (List.replicate k vs).flatten
  | 0 => Reps.nil
  | k + 1 => by
    rw [List.replicate_succ, List.replicate_succ, List.flatten_cons, List.flatten_cons]
    exact h.append (Reps.rep h k)
theorem Rep.tup {a : Addr} {vs : List V} {ws : List W} (s : SqT K H a vs) (r : Reps K H ws vs) : Rep K H (.tup ws) (.ref a) := by unfold Rep; exact ⟨a, vs, rfl, s, r⟩
theorem Rep.untup {v : V} {ws : List W} (h : Rep K H (.tup ws) v) : ∃ a vs, v = .ref a ∧ SqT K H a vs ∧ Reps K H ws vs := by unfold Rep at h; exact h
theorem Rep.uncl {v : V} {ws : List W} (h : Rep K H (.cl ws) v) : ∃ a vs, v = .ref a ∧ Cl K H a vs ∧ Reps K H ws vs := by unfold Rep at h; exact h
theorem rep_int {i : Int} : Rep K H (.int i) (.int i) := by unfold Rep; rfl
theorem rep_bl {b : Bool} : Rep K H (.bl b) (.bl b) := by unfold Rep; rfl
theorem rep_str {x : Str} : Rep K H (.str x) (.str x) := by unfold Rep; rfl
theorem rep_non : Rep K H .non .non := by unfold Rep; rfl
theorem rep_ref {a : Addr} : Rep K H (.ref a) (.ref a) := by unfold Rep; rfl
theorem un_int {i : Int} {v : V} (h : Rep K H (.int i) v) : v = .int i := by unfold Rep at h; exact h
theorem un_bl {b : Bool} {v : V} (h : Rep K H (.bl b) v) : v = .bl b := by unfold Rep at h; exact h
theorem un_str {x : Str} {v : V} (h : Rep K H (.str x) v) : v = .str x := by unfold Rep at h; exact h
theorem un_non {v : V} (h : Rep K H .non v) : v = .non := by unfold Rep at h; exact h
theorem un_ref {a : Addr} {v : V} (h : Rep K H (.ref a) v) : v = .ref a := by unfold Rep at h; exact h
theorem Reps.of_ints : ∀ {ns : List Int}, Reps K H (ns.map W.int) (ns.map V.int)
  | [] => Reps.nil
  | _ :: _ => .cons rep_int Reps.of_ints
theorem Reps.ints : ∀ {ns : List Int} {vs : List V}, Reps K H (ns.map W.int) vs → vs = ns.map V.int
  | [], _, h => h.unnil
  | n :: ns, vs, h => by
    obtain ⟨v, r, e, h1, h2⟩ := h.uncons
    rw [e, un_int h1, Reps.ints h2]; rfl
end

/-! ### the memory at an abstract heap -/
/-- what the laying is over -/
structure Kx where
  P : Program
  w : World
  K : PySem.W.Frag
mutual
def nk : W → NestedKey
  | .non => .none
  | .bl b => .num (if b = true then 1 else 0)
  | .int i => .num i
  | .str x => .text x
  | .ref _ => .none
  | .cl _ => .none
  | .tup ws => .tup (nks ws)
def nks : List W → List NestedKey
  | [] => []
  | w :: ws => nk w :: nks ws
end
mutual
def kr : W → Bool
  | .ref _ => false
  | .cl _ => false
  | .tup ws => krs ws
  | _ => true
def krs : List W → Bool
  | [] => true
  | w :: ws => kr w && krs ws
end
def KeyOk (w : W) : Prop := (∃ ws, w = .tup ws) ∧ kr w = true ∧ (nk w).depth ≤ 8
def DRaw (a : Addr) (es : Array DictEntry) : Heap → Prop := fun h => ∃ o ep, h.get? a = some o ∧ o.ExactDict ∧ o.data = .dict es ep
def NRow (B : Kx) (H : Hp) (p : W × W) (x : NestedKey × Addr × Value) : Prop :=
  x.1 = nk p.1 ∧ Rep B.K H p.1 (.ref x.2.1) ∧ KeyOk p.1 ∧ ∃ vv, RelV vv x.2.2 ∧ Rep B.K H p.2 vv
/-- the raw rows of such a dict -/
structure NDict (B : Kx) (H : Hp) (kvs : List (W × W)) (es : Array DictEntry) : Prop where
  sz : kvs.length ≤ sizeLine
  rows : ∃ xs : List (NestedKey × Addr × Value), Paired (NRow B H) kvs xs ∧ es.toList = xs.map (entryOfKey (nestedKind B.P B.w)) ∧ (xs.map (·.1)).Nodup
def KRow (B : Kx) (H : Hp) (p : Key × W) (x : Key × V) : Prop := p.1 = x.1 ∧ Rep B.K H p.2 x.2
def FRow (B : Kx) (H : Hp) (p : Str × W) (x : Str × V) : Prop := p.1 = x.1 ∧ Rep B.K H p.2 x.2
def ObR (B : Kx) (H : Hp) (a : Addr) : Ob → Prop
  | .lst ws => ∃ vs, H a = some (.lst vs) ∧ Reps B.K H ws vs
  | .dK kvs => ∃ xs, H a = some (.dK xs) ∧ Paired (KRow B H) kvs xs
  | .dN kvs => ∃ es, H a = some (.ext (DRaw a es)) ∧ (a == sysModules) = false ∧ NDict B H kvs es
  | .lkK kvs => ∃ o xs, H a = some (.frz o (.dK xs)) ∧ Paired (KRow B H) kvs xs
  | .lkN kvs => ∃ o es, H a = some (.frz o (.ext (DRaw a es))) ∧ (a == sysModules) = false ∧ NDict B H kvs es
  | .ins C fs => ∃ dx xs, H a = some (.ins C dx xs) ∧ Paired (FRow B H) fs xs
  | .set S n => H a = some (.set S n)
def Mo (B : Kx) (H : Hp) (M : Me) : Prop := ∀ a o, M a = some o → ObR B H a o
theorem NDict.go {B : Kx} {H H' : Hp} (g : GoH H H') {kvs : List (W × W)} {es : Array DictEntry} (h : NDict B H kvs es) : NDict B H' kvs es := by
  obtain ⟨sz, xs, p, e, n⟩ := h
  exact ⟨sz, xs, Paired.mapP p fun _ _ ⟨e1, r, k, vv, rv, r2⟩ => ⟨e1, r.go g, k, vv, rv, r2.go g⟩, e, n⟩
/-- a thing stays: its own place and the tuples stay -/
theorem ObR.go {B : Kx} {H H' : Hp} {a : Addr} {o : Ob} (g : GoH H H') (e : H' a = H a) (h : ObR B H a o) : ObR B H' a o := by
  cases o with
  | lst ws => obtain ⟨vs, h1, h2⟩ := h; exact ⟨vs, e.trans h1, h2.go g⟩
  | dK kvs => obtain ⟨xs, h1, h2⟩ := h; exact ⟨xs, e.trans h1, Paired.mapP h2 fun _ _ ⟨e1, r⟩ => ⟨e1, r.go g⟩⟩
  | dN kvs => obtain ⟨es, h1, h2, h3⟩ := h; exact ⟨es, e.trans h1, h2, h3.go g⟩
  | lkK kvs => obtain ⟨o, xs, h1, h2⟩ := h; exact ⟨o, xs, e.trans h1, Paired.mapP h2 fun _ _ ⟨e1, r⟩ => ⟨e1, r.go g⟩⟩
  | lkN kvs => obtain ⟨o, es, h1, h2, h3⟩ := h; exact ⟨o, es, e.trans h1, h2, h3.go g⟩
  | ins C fs => obtain ⟨dx, xs, h1, h2⟩ := h; exact ⟨dx, xs, e.trans h1, Paired.mapP h2 fun _ _ ⟨e1, r⟩ => ⟨e1, r.go g⟩⟩
  | set S n => exact e.trans h
theorem ObR.there {B : Kx} {H : Hp} {a : Addr} {o : Ob} (h : ObR B H a o) : ∃ u, H a = some u ∧ ∀ xs, u ≠ .tup xs := by
  cases o with
  | lst ws => obtain ⟨vs, h1, _⟩ := h; exact ⟨_, h1, fun _ z => nomatch z⟩
  | dK kvs => obtain ⟨xs, h1, _⟩ := h; exact ⟨_, h1, fun _ z => nomatch z⟩
  | dN kvs => obtain ⟨es, h1, _⟩ := h; exact ⟨_, h1, fun _ z => nomatch z⟩
  | lkK kvs => obtain ⟨o, xs, h1, _⟩ := h; exact ⟨_, h1, fun _ z => nomatch z⟩
  | lkN kvs => obtain ⟨o, es, h1, _⟩ := h; exact ⟨_, h1, fun _ z => nomatch z⟩
  | ins C fs => obtain ⟨dx, xs, h1, _⟩ := h; exact ⟨_, h1, fun _ z => nomatch z⟩
  | set S n => exact ⟨_, h, fun _ z => nomatch z⟩
section
variable {B : Kx} {H H' : Hp} {M M' : Me}
theorem Mo.free (m : Mo B H M) {a : Addr} (h : H a = none) : M a = none := by
  cases e : M a with
  | none => rfl
  | some o =>
    obtain ⟨u, h1, _⟩ := (m a o e).there
    rw [h] at h1; cases h1
theorem Mo.sub (m : Mo B H M) (s : Sub M' M) : Mo B H M' := fun a o e => m a o (s a o e)
/-- a new thing that is not live -/
theorem Mo.new (m : Mo B H M) {p : Addr} {o : HO} (h : H p = none) : Mo B (upd H p o) M := fun a u e =>
  (m a u e).go (GoH.new h) (upd_ne (by
    obtain ⟨x, h1, _⟩ := (m a u e).there
    exact ne_of_none h1 h))
/-- a live thing is changed | a new one is live -/
theorem Mo.put (m : Mo B H M) {p : Addr} {o : HO} {u : Ob} (g : GoH H (upd H p o)) (h : ObR B (upd H p o) p u) : Mo B (upd H p o) (PV.put M p u) := fun a x e => by
  by_cases z : a = p
  · subst z; rw [put_same] at e; cases e; exact h
  · rw [put_ne z] at e
    exact (m a x e).go g (upd_ne z)
end
theorem sameNew {H : Hp} {p : Addr} {o : HO} (h : H p = none) : Same H (upd H p o) := fun b u e => by
  rw [upd_ne (ne_of_none e h)]; exact e
theorem GoH.same {H H' : Hp} (s : Same H H') : GoH H H' := ⟨fun a _ e => s a _ e, fun a _ _ e => s a _ e, fun a e => by
  cases q : H a with
  | none => exact absurd q e
  | some o => rw [s a o q]; intro z; cases z⟩
theorem Mo.same {B : Kx} {H H' : Hp} {M : Me} (m : Mo B H M) (s : Same H H') : Mo B H' M := fun a u e =>
  (m a u e).go (GoH.same s) (by
    obtain ⟨x, h1, _⟩ := (m a u e).there
    rw [h1]; exact s a x h1)
/-- the state goes on: what is not live stays as it is, and does not come to life -/
structure Go (H : Hp) (M : Me) (H' : Hp) (M' : Me) : Prop where
  h : GoH H H'
  fr : ∀ a, H a ≠ none → M a = none → M' a = none
  fm : ∀ a o, H a = some o → M a = none → H' a = some o
section
variable {H H1 H2 : Hp} {M M1 M2 : Me}
theorem Go.refl (H : Hp) (M : Me) : Go H M H M := ⟨GoH.refl H, fun _ _ h => h, fun _ _ e _ => e⟩
theorem Go.trans (a : Go H M H1 M1) (b : Go H1 M1 H2 M2) : Go H M H2 M2 :=
  ⟨a.h.trans b.h, fun c h n => b.fr c (a.h.dom c h) (a.fr c h n), fun c o e n => b.fm c o (a.fm c o e n) (a.fr c (by rw [e]; intro z; cases z) n)⟩
theorem Go.same (s : Same H H1) : Go H M H1 M := ⟨GoH.same s, fun _ _ n => n, fun c o e _ => s c o e⟩
theorem Go.sub (a : Go H M H1 M1) (s : Sub M2 M1) : Go H M H1 M2 := ⟨a.h, fun c h n => by
  cases e : M2 c with
  | none => rfl
  | some o =>
    have z := s c o e
    rw [a.fr c h n] at z
    exact (nomatch z), a.fm⟩
/-- a new live thing -/
theorem Go.new {p : Addr} {o : HO} {u : Ob} (h : H p = none) : Go H M (upd H p o) (put M p u) := ⟨GoH.new h, fun c hc n => by
  rw [put_ne (fun z => by rw [z] at hc; exact hc h)]; exact n, fun c x e _ => sameNew h c x e⟩
/-- a live thing changed -/
theorem Go.put {p : Addr} {o : HO} {u x : Ob} (g : GoH H (upd H p o)) (h : M p = some x) : Go H M (upd H p o) (put M p u) := ⟨g, fun c hc n => by
  rw [put_ne (fun z => by rw [z, h] at n; cases n)]; exact n, fun c y e n => by
  rw [upd_ne (fun z => by rw [z, h] at n; cases n)]; exact e⟩
end

/-! ### judgements -/
abbrev _root_.L2.Cx.kx (X : Cx) : Kx := ⟨X.prog, X.w, X.K⟩
/-- what the lifting is over: the laying, the entry -/
structure Cb where
  B : Kx
  H0 : Hp
  M0 : Me
structure Cy where
  X : Cx
  H0 : Hp
  M0 : Me
abbrev Cy.b (Y : Cy) : Cb := ⟨Y.X.kx, Y.H0, Y.M0⟩
structure StOk (c : Cb) (ρ : En) (M : Me) (σ : L2.St) (H : Hp) : Prop where
  env : ∀ (i : Nat) (w : W), ρ[i]? = some (some w) → ∃ v, σ[i]? = some (some v) ∧ Rep c.B.K H w v
  len : ρ.length = σ.length
  mo : Mo c.B H M
  go : Go c.H0 c.M0 H M
section
variable {c : Cb} {ρ : En} {M M' : Me} {σ : L2.St} {H H' : Hp}
theorem StOk.step (st : StOk c ρ M σ H) (g : Go H M H' M') (m : Mo c.B H' M') : StOk c ρ M' σ H' :=
  ⟨fun i w e => by
    obtain ⟨v, h1, h2⟩ := st.env i w e
    exact ⟨v, h1, h2.go g.h⟩, st.len, m, st.go.trans g⟩
theorem StOk.sub (st : StOk c ρ M σ H) (s : Sub M' M) : StOk c ρ M' σ H := ⟨st.env, st.len, st.mo.sub s, st.go.sub s⟩
theorem StOk.set {i : Nat} {w : W} {v : V} (st : StOk c ρ M σ H) (r : Rep c.B.K H w v) : StOk c (ρ.set i (some w)) M (σ.set i (some v)) H :=
  ⟨fun j x e => by
    by_cases z : i = j
    · subst z
      have hl : i < ρ.length := by
        have := (List.getElem?_eq_some_iff.mp e).1
        simpa using this
      rw [List.getElem?_set_self hl] at e
      have e' : w = x := by simpa using e
      subst e'
      exact ⟨v, List.getElem?_set_self (by rw [← st.len]; exact hl), r⟩
    · rw [List.getElem?_set_ne z] at e ⊢
      exact st.env j x e, by rw [List.length_set, List.length_set]; exact st.len, st.mo, st.go⟩
end
abbrev WK := W → Me → Prop
abbrev WE := En → Me → WK → Prop
abbrev WT := En → Me → (Bool → Me → Prop) → Prop
abbrev WA := En → Me → (List W → Me → Prop) → Prop
structure Eds where
  nx : En → Me → Prop
  rt : WK
  bk : En → Me → Prop := fun _ _ => False
  ct : En → Me → Prop := fun _ _ => False
abbrev WS := Eds → En → Me → Prop
def upE (c : Cb) (te : WE) : TE := fun σ H Q => ∃ ρ M Qw, StOk c ρ M σ H ∧ te ρ M Qw ∧ ∀ w M' v H', Qw w M' → Go H M H' M' → Rep c.B.K H' w v → Mo c.B H' M' → Q v H'
def upT (c : Cb) (t : WT) : TT := fun σ H Q => ∃ ρ M Qw, StOk c ρ M σ H ∧ t ρ M Qw ∧ ∀ b M' H', Qw b M' → Go H M H' M' → Mo c.B H' M' → Q b H'
def upA (c : Cb) (t : WA) : TA := fun σ H Q => ∃ ρ M Qw, StOk c ρ M σ H ∧ t ρ M Qw ∧ ∀ ws M' vs H', Qw ws M' → Go H M H' M' → Reps c.B.K H' ws vs → Mo c.B H' M' → Q vs H'
def upS (c : Cb) (t : WS) : TS := fun D σ H => ∃ ρ M DW, StOk c ρ M σ H ∧ t DW ρ M ∧
  (∀ ρ' M' σ' H', DW.nx ρ' M' → Go H M H' M' → StOk c ρ' M' σ' H' → D.nx σ' H') ∧
  (∀ w M' v H', DW.rt w M' → Go H M H' M' → Rep c.B.K H' w v → Mo c.B H' M' → D.rt v H') ∧
  (∀ ρ' M' σ' H', DW.bk ρ' M' → Go H M H' M' → StOk c ρ' M' σ' H' → D.bk σ' H') ∧
  (∀ ρ' M' σ' H', DW.ct ρ' M' → Go H M H' M' → StOk c ρ' M' σ' H' → D.ct σ' H')
def QE (Y : Cy) (e : Expr) (t : WE) : Prop := PE Y.X e (upE Y.b t)
def QT (Y : Cy) (e : Expr) (t : WT) : Prop := PT Y.X e (upT Y.b t)
def QA (Y : Cy) (es : List Expr) (t : WA) : Prop := PA Y.X es (upA Y.b t)
def QS (Y : Cy) (st : Stmt) (t : WS) : Prop := PS Y.X st (upS Y.b t)
def QSs (Y : Cy) (st : List Stmt) (t : WS) : Prop := PSs Y.X st (upS Y.b t)
section
variable {X : Cx} {e : Expr} {es : List Expr} {st : Stmt} {sts : List Stmt}
theorem PE_imp {t t' : TE} (h : PE X e t) (i : ∀ σ H Q, t' σ H Q → t σ H Q) : PE X e t' := ⟨fun pins s σ H Q I q => h.run pins s σ H Q I (i σ H Q q)⟩
theorem PT_imp {t t' : TT} (h : PT X e t) (i : ∀ σ H Q, t' σ H Q → t σ H Q) : PT X e t' := ⟨fun pins s σ H Q I q => h.run pins s σ H Q I (i σ H Q q)⟩
theorem PA_imp {t t' : TA} (h : PA X es t) (i : ∀ σ H Q, t' σ H Q → t σ H Q) : PA X es t' := ⟨fun pos pins s σ H Q I q => h.run pos pins s σ H Q I (i σ H Q q)⟩
theorem PS_imp {t t' : TS} (h : PS X st t) (i : ∀ D σ H, t' D σ H → t D σ H) : PS X st t' := ⟨fun pins s σ H D I q => h.run pins s σ H D I (i D σ H q)⟩
theorem PSs_imp {t t' : TS} (h : PSs X sts t) (i : ∀ D σ H, t' D σ H → t D σ H) : PSs X sts t' := ⟨fun pins s σ H D I q => h.run pins s σ H D I (i D σ H q)⟩
end

/-! ### names, constants -/
section
variable {Y : Cy} {e a b c : Expr} {pos : Pos}
def wVar (i : Nat) : WE := fun ρ M Q => match ρ[i]? with
  | some (some w) => Q w M
  | _ => False
def wC (w : W) : WE := fun _ M Q => Q w M
theorem q_var (i : Nat) {x : Str} {pos : Pos} (hN : Y.X.N[i]? = some x := by rfl) (hv : Vis Y.X.env.scope x := by first | exact Or.inl rfl | exact Or.inr (Or.inl rfl) | exact Or.inr (Or.inr rfl)) (hd : (x == ("__debug__" : Str)) = false := by decide)
    (hcd : (x == ("__classdict__" : Str)) = false := by decide) : QE Y (.Name x pos) (wVar i) := by
  refine PE_imp (pe_var hN hv hd hcd) fun σ H Q ⟨ρ, M, Qw, st, h, k⟩ => ?_
  unfold wVar at h
  split at h
  · rename_i w e
    obtain ⟨v, h1, h2⟩ := st.env i w e
    exact ⟨v, h1, k w M v H h (Go.refl _ _) h2 st.mo⟩
  · exact h.elim
theorem q_const {v : V} {w : W} (h : PE Y.X e (tC v)) (r : ∀ H, Rep Y.X.K H w v) : QE Y e (wC w) := PE_imp h fun _ H _ ⟨_, M, _, st, h, k⟩ => k w M v H h (Go.refl _ _) (r H) st.mo
theorem q_int {i j pos} : QE Y (.Constant (.int i) j pos) (wC (.int i)) := q_const pe_int fun _ => rep_int
theorem q_bl {i j pos} : QE Y (.Constant (.bool i) j pos) (wC (.bl i)) := q_const pe_bl fun _ => rep_bl
theorem q_non {j pos} : QE Y (.Constant .none j pos) (wC .non) := q_const pe_non fun _ => rep_non
theorem q_str {x j pos} : QE Y (.Constant (.str x) j pos) (wC (.str x)) := q_const pe_str fun _ => rep_str
/-- garbage is forgotten -/
def wF (t : WE) : WE := fun ρ M Q => t ρ M fun w M1 => ∃ M0, Sub M0 M1 ∧ Q w M0
theorem q_F {t : WE} (h : QE Y e t) : QE Y e (wF t) := PE_imp h fun _ H _ ⟨ρ, M, Qw, st, h, k⟩ =>
  ⟨ρ, M, _, st, h, fun w M1 v H1 ⟨M0, s, q⟩ g r m => k w M0 v H1 q (g.sub s) r (m.sub s)⟩

/-! ### operators, by values -/
abbrev R2W := W → W → Me → WK → Prop
abbrev R1W := W → Me → WK → Prop
abbrev RLW := List W → Me → WK → Prop
def up2 (B : Kx) (r : R2W) : R2 := fun x y H Q => ∃ wx wy M Qw, Rep B.K H wx x ∧ Rep B.K H wy y ∧ Mo B H M ∧ r wx wy M Qw ∧ ∀ w M' v H', Qw w M' → Go H M H' M' → Rep B.K H' w v → Mo B H' M' → Q v H'
def up1 (B : Kx) (r : R1W) : V → Hp → VK → Prop := fun x H Q => ∃ wx M Qw, Rep B.K H wx x ∧ Mo B H M ∧ r wx M Qw ∧ ∀ w M' v H', Qw w M' → Go H M H' M' → Rep B.K H' w v → Mo B H' M' → Q v H'
def upL (B : Kx) (r : RLW) : List V → Hp → VK → Prop := fun xs H Q => ∃ ws M Qw, Reps B.K H ws xs ∧ Mo B H M ∧ r ws M Qw ∧ ∀ w M' v H', Qw w M' → Go H M H' M' → Rep B.K H' w v → Mo B H' M' → Q v H'
def OpW (X : Cx) (f : Value → Value → Sem Value) (r : R2W) : Prop := OpR X f (up2 X.kx r)
def UnW (X : Cx) (f : Value → Sem Value) (r : R1W) : Prop := UnR X f (up1 X.kx r)
def CallW (X : Cx) (f : Value) (r : RLW) : Prop := CallR X f (upL X.kx r)
theorem OpR_imp {X : Cx} {f : Value → Value → Sem Value} {r r' : R2} (h : OpR X f r) (i : ∀ x y H Q, r' x y H Q → r x y H Q) : OpR X f r' :=
  fun pins s σ H x y v u Q I rx ry q => h pins s σ H x y v u Q I rx ry (i x y H Q q)
theorem UnR_imp {X : Cx} {f : Value → Sem Value} {r r' : V → Hp → VK → Prop} (h : UnR X f r) (i : ∀ x H Q, r' x H Q → r x H Q) : UnR X f r' :=
  fun pins s σ H x v Q I rx q => h pins s σ H x v Q I rx (i x H Q q)
theorem CallR_imp {X : Cx} {f : Value} {r r' : List V → Hp → VK → Prop} (h : CallR X f r) (i : ∀ x H Q, r' x H Q → r x H Q) : CallR X f r' :=
  fun pins s σ H xs us Q I rx q => h pins s σ H xs us Q I rx (i xs H Q q)
def wOp (r : R2W) (ta tb : WE) : WE := fun ρ M Q => ta ρ M fun x M1 => tb ρ M1 fun y M2 => r x y M2 Q
def wUn (r : R1W) (ta : WE) : WE := fun ρ M Q => ta ρ M fun x M1 => r x M1 Q
theorem up_op {r : R2W} {ta tb : WE} {σ : L2.St} {H : Hp} {Q : VK} (h : upE Y.b (wOp r ta tb) σ H Q) : tOp (up2 Y.X.kx r) (upE Y.b ta) (upE Y.b tb) σ H Q := by
  obtain ⟨ρ, M, Qw, st, h, k⟩ := h
  exact ⟨ρ, M, _, st, h, fun wx M1 vx H1 q1 g1 rx m1 => ⟨ρ, M1, _, st.step g1 m1, q1, fun wy M2 vy H2 q2 g2 ry m2 =>
    ⟨wx, wy, M2, Qw, rx.go g2.h, ry, m2, q2, fun w M' v H' q g r m => k w M' v H' q (g1.trans (g2.trans g)) r m⟩⟩⟩
theorem up_un {r : R1W} {ta : WE} {σ : L2.St} {H : Hp} {Q : VK} (h : upE Y.b (wUn r ta) σ H Q) : tUn (up1 Y.X.kx r) (upE Y.b ta) σ H Q := by
  obtain ⟨ρ, M, Qw, st, h, k⟩ := h
  exact ⟨ρ, M, _, st, h, fun wx M1 vx H1 q1 g1 rx m1 => ⟨wx, M1, Qw, rx, m1, q1, fun w M' v H' q g r m => k w M' v H' q (g1.trans g) r m⟩⟩
theorem q_op {op : Operator} {r : R2W} {ta tb : WE} (ho : OpW Y.X (binaryOp op) r) (ha : QE Y a ta) (hb : QE Y b tb) : QE Y (.BinOp a op b pos) (wOp r ta tb) := PE_imp (pe_op ho ha hb) fun _ _ _ h => up_op h
theorem q_un {op : UnaryOp} {r : R1W} {ta : WE} (ho : UnW Y.X (unaryOp op) r) (ha : QE Y a ta) : QE Y (.UnaryOp op a pos) (wUn r ta) := PE_imp (pe_un ho ha) fun _ _ _ h => up_un h
theorem q_cmp {op : CmpOp} {r : R2W} {ta tb : WE} (ho : OpW Y.X (compareOp op) r) (ha : QE Y a ta) (hb : QE Y b tb) (hm : behindInMarks op b = false := by first | exact nomark _ (by decide) (by decide) | rfl) : QE Y (.Compare a [op] [b] pos) (wOp r ta tb) :=
  PE_imp (pe_cmpR ho ha hb hm) fun _ _ _ h => up_op h
/-- a value as a test: bools alone -/
def wB (t : WE) : WT := fun ρ M Q => t ρ M fun x M1 => match x with
  | .bl b => Q b M1
  | _ => False
theorem up_B {t : WE} {σ : L2.St} {H : Hp} {Q : Bool → Hp → Prop} (h : upT Y.b (wB t) σ H Q) : upE Y.b t σ H fun x H1 => ∃ k, x = .bl k ∧ Q k H1 := by
  obtain ⟨ρ, M, Qw, st, h, k⟩ := h
  refine ⟨ρ, M, _, st, h, fun w M1 v H1 q g r m => ?_⟩
  split at q
  · exact ⟨_, un_bl r, k _ M1 H1 q g m⟩
  · exact q.elim
theorem qt_cmp {op : CmpOp} {r : R2W} {ta tb : WE} (ho : OpW Y.X (compareOp op) r) (ha : QE Y a ta) (hb : QE Y b tb) (hm : behindInMarks op b = false := by first | exact nomark _ (by decide) (by decide) | rfl) : QT Y (.Compare a [op] [b] pos) (wB (wOp r ta tb)) :=
  PT_imp (pt_cmpR ho ha hb hm) fun _ _ _ h => by
    obtain ⟨ρ, M, Qw, st, h, k⟩ := h
    refine up_op ⟨ρ, M, _, st, h, fun w M1 v H1 q g r m => ?_⟩
    split at q
    · exact ⟨_, un_bl r, k _ M1 H1 q g m⟩
    · exact q.elim
theorem qt_val {t : WE} (h : QE Y e t) (he : ∀ whole, isTrue e Y.X.env whole = (do let v ← whole; standAt e.pos; holding [v] (truthy v)) := by intro _; rfl) : QT Y e (wB t) :=
  PT_imp (pt_val h he) fun _ _ _ h => up_B h
/-- a chain -/
def wChain (r r' : R2W) (ta tb tc : WE) : WE := fun ρ M Q => ta ρ M fun x M1 => tb ρ M1 fun y M2 => r x y M2 fun z M3 => match z with
  | .bl true => tc ρ M3 fun u M4 => r' y u M4 Q
  | .bl false => Q (.bl false) M3
  | _ => False
theorem up_chain {r r' : R2W} {ta tb tc : WE} {σ : L2.St} {H : Hp} {Q : VK} (h : upE Y.b (wChain r r' ta tb tc) σ H Q) : tChain (up2 Y.X.kx r) (up2 Y.X.kx r') (upE Y.b ta) (upE Y.b tb) (upE Y.b tc) σ H Q := by
  obtain ⟨ρ, M, Qw, st, h, k⟩ := h
  refine ⟨ρ, M, _, st, h, fun wx M1 vx H1 q1 g1 rx m1 => ⟨ρ, M1, _, st.step g1 m1, q1, fun wy M2 vy H2 q2 g2 ry m2 =>
    ⟨wx, wy, M2, _, rx.go g2.h, ry, m2, q2, fun w M3 v H3 q g3 r3 m3 => ?_⟩⟩⟩
  have g12 := g1.trans g2
  have g13 := g12.trans g3
  split at q
  · refine ⟨true, un_bl r3, ?_⟩
    show upE Y.b tc σ H3 _
    exact ⟨ρ, M3, _, st.step g13 m3, q, fun wu M4 vu H4 q4 g4 ru m4 => ⟨wy, wu, M4, Qw, ry.go (g3.trans g4).h, ru, m4, q4, fun w M' v H' q g r m => k w M' v H' q (g13.trans (g4.trans g)) r m⟩⟩
  · refine ⟨false, un_bl r3, ?_⟩
    exact k _ M3 _ H3 q g13 rep_bl m3
  · exact q.elim
end
end PV
set_option maxHeartbeats 1000000
/-! PV: tests, arguments, statements, loops, defs. -/
namespace PV
open PySem PySem.Spec PyProof.Rows L2

section
variable {Y : Cy} {e a b c : Expr} {es rest : List Expr} {pos : Pos}
/-! ### and, or, not, if -/
def wAnd (t u : WT) : WT := fun ρ M Q => t ρ M fun x M1 => match x with
  | true => u ρ M1 Q
  | false => Q false M1
def wOr (t u : WT) : WT := fun ρ M Q => t ρ M fun x M1 => match x with
  | true => Q true M1
  | false => u ρ M1 Q
def wNot (t : WT) : WT := fun ρ M Q => t ρ M fun x M1 => Q (!x) M1
def QW (Y : Cy) (e : Expr) (t : WT) : Prop := PW Y.X e (upT Y.b t)
theorem PW_imp {X : Cx} {e : Expr} {t t' : TT} (h : PW X e t) (i : ∀ σ H Q, t' σ H Q → t σ H Q) : PW X e t' := ⟨fun wh pins s σ H Q I q => h.run wh pins s σ H Q I (i σ H Q q)⟩
theorem qw_and1 {t : WT} (h : QT Y a t) : QW Y (.BoolOp .And [a] pos) t := pw_and1 h
theorem qw_or1 {t : WT} (h : QT Y a t) : QW Y (.BoolOp .Or [a] pos) t := pw_or1 h
theorem qw_and {t u : WT} (h : QT Y a t) (h' : QW Y (.BoolOp .And (b :: rest) pos) u) : QW Y (.BoolOp .And (a :: b :: rest) pos) (wAnd t u) :=
  PW_imp (pw_and h h') fun σ H Q ⟨ρ, M, Qw, st, q, k⟩ => ⟨ρ, M, _, st, q, fun x M1 H1 q1 g m => by
    cases x with
    | true => exact ⟨ρ, M1, Qw, st.step g m, q1, fun y M2 H2 q2 g2 m2 => k y M2 H2 q2 (g.trans g2) m2⟩
    | false => exact k false M1 H1 q1 g m⟩
theorem qw_or {t u : WT} (h : QT Y a t) (h' : QW Y (.BoolOp .Or (b :: rest) pos) u) : QW Y (.BoolOp .Or (a :: b :: rest) pos) (wOr t u) :=
  PW_imp (pw_or h h') fun σ H Q ⟨ρ, M, Qw, st, q, k⟩ => ⟨ρ, M, _, st, q, fun x M1 H1 q1 g m => by
    cases x with
    | true => exact k true M1 H1 q1 g m
    | false => exact ⟨ρ, M1, Qw, st.step g m, q1, fun y M2 H2 q2 g2 m2 => k y M2 H2 q2 (g.trans g2) m2⟩⟩
theorem QW.pt {t : WT} (h : QW Y e t) : QT Y e t := PW.pt h
theorem qt_not {t : WT} (h : QT Y a t) : QT Y (.UnaryOp .Not a pos) (wNot t) :=
  PT_imp (pt_not h) fun σ H Q ⟨ρ, M, Qw, st, q, k⟩ => ⟨ρ, M, _, st, q, fun x M1 H1 q1 g m => k _ M1 H1 q1 g m⟩
/-- as values -/
def wAndV (ta tb : WE) : WE := fun ρ M Q => ta ρ M fun x M1 => match x with
  | .bl true => tb ρ M1 Q
  | .bl false => Q (.bl false) M1
  | _ => False
def wOrV (ta tb : WE) : WE := fun ρ M Q => ta ρ M fun x M1 => match x with
  | .bl true => Q (.bl true) M1
  | .bl false => tb ρ M1 Q
  | _ => False
def wNotV (ta : WE) : WE := fun ρ M Q => ta ρ M fun x M1 => match x with
  | .bl k => Q (.bl (!k)) M1
  | _ => False
theorem q_one {op} {t : WE} (h : QE Y a t) : QE Y (.BoolOp op [a] pos) t := pe_one h
theorem q_and {ta tb : WE} (h : QE Y a ta) (h' : QE Y (.BoolOp .And (b :: rest) pos) tb) : QE Y (.BoolOp .And (a :: b :: rest) pos) (wAndV ta tb) :=
  PE_imp (pe_and h h') fun σ H Q ⟨ρ, M, Qw, st, q, k⟩ => ⟨ρ, M, _, st, q, fun x M1 v H1 q1 g r m => by
    split at q1
    · exact ⟨true, un_bl r, ρ, M1, Qw, st.step g m, q1, fun y M2 v2 H2 q2 g2 r2 m2 => k y M2 v2 H2 q2 (g.trans g2) r2 m2⟩
    · exact ⟨false, un_bl r, k _ M1 _ H1 q1 g rep_bl m⟩
    · exact q1.elim⟩
theorem q_or {ta tb : WE} (h : QE Y a ta) (h' : QE Y (.BoolOp .Or (b :: rest) pos) tb) : QE Y (.BoolOp .Or (a :: b :: rest) pos) (wOrV ta tb) :=
  PE_imp (pe_or h h') fun σ H Q ⟨ρ, M, Qw, st, q, k⟩ => ⟨ρ, M, _, st, q, fun x M1 v H1 q1 g r m => by
    split at q1
    · exact ⟨true, un_bl r, k _ M1 _ H1 q1 g rep_bl m⟩
    · exact ⟨false, un_bl r, ρ, M1, Qw, st.step g m, q1, fun y M2 v2 H2 q2 g2 r2 m2 => k y M2 v2 H2 q2 (g.trans g2) r2 m2⟩
    · exact q1.elim⟩
theorem q_not {ta : WE} (h : QE Y a ta) : QE Y (.UnaryOp .Not a pos) (wNotV ta) :=
  PE_imp (pe_not h) fun σ H Q ⟨ρ, M, Qw, st, q, k⟩ => ⟨ρ, M, _, st, q, fun x M1 v H1 q1 g r m => by
    split at q1
    · exact ⟨_, un_bl r, k _ M1 _ H1 q1 g rep_bl m⟩
    · exact q1.elim⟩
def wIf (t : WT) (ta tb : WE) : WE := fun ρ M Q => t ρ M fun x M1 => match x with
  | true => ta ρ M1 Q
  | false => tb ρ M1 Q
theorem q_if {t : WT} {ta tb : WE} (hc : QT Y c t) (ha : QE Y a ta) (hb : QE Y b tb) : QE Y (.IfExp c a b pos) (wIf t ta tb) :=
  PE_imp (pe_ifExp hc ha hb) fun σ H Q ⟨ρ, M, Qw, st, q, k⟩ => ⟨ρ, M, _, st, q, fun x M1 H1 q1 g m => by
    cases x with
    | true => exact ⟨ρ, M1, Qw, st.step g m, q1, fun y M2 v2 H2 q2 g2 r2 m2 => k y M2 v2 H2 q2 (g.trans g2) r2 m2⟩
    | false => exact ⟨ρ, M1, Qw, st.step g m, q1, fun y M2 v2 H2 q2 g2 r2 m2 => k y M2 v2 H2 q2 (g.trans g2) r2 m2⟩⟩

/-! ### arguments, displays -/
def wNil : WA := fun _ M Q => Q [] M
def wCons (ta : WE) (tr : WA) : WA := fun ρ M Q => ta ρ M fun x M1 => tr ρ M1 fun xs M2 => Q (x :: xs) M2
theorem qa_nil : QA Y [] wNil := PA_imp pa_nil fun σ H Q ⟨ρ, M, Qw, st, q, k⟩ => k [] M [] H q (Go.refl _ _) Reps.nil st.mo
theorem qa_cons {t : WE} {u : WA} (h : QE Y e t) (hr : QA Y es u) (hs : starEach (e :: es) Y.X.env = (false, eval e Y.X.env) :: starEach es Y.X.env := by rfl) : QA Y (e :: es) (wCons t u) :=
  PA_imp (pa_cons h hr hs) fun σ H Q ⟨ρ, M, Qw, st, q, k⟩ => ⟨ρ, M, _, st, q, fun x M1 v H1 q1 g r m =>
    ⟨ρ, M1, _, st.step g m, q1, fun xs M2 vs H2 q2 g2 rs m2 => k _ M2 _ H2 q2 (g.trans g2) (.cons (r.go g2.h) rs) m2⟩⟩
def wTup (t : WA) : WE := fun ρ M Q => t ρ M fun ws M1 => ws.length ≤ sizeLine ∧ Q (.tup ws) M1
def wLst (t : WA) : WE := fun ρ M Q => t ρ M fun ws M1 => ws.length ≤ sizeLine ∧ ∀ p, M1 p = none → Q (.ref p) (put M1 p (.lst ws))
theorem q_tup {x1} {t : WA} (h : QA Y es t) : QE Y (.Tuple es x1 pos) (wTup t) :=
  PE_imp (pe_tup h) fun σ H Q ⟨ρ, M, Qw, st, q, k⟩ => ⟨ρ, M, _, st, q, fun ws M1 vs H1 q1 g rs m =>
    ⟨by rw [rs.length]; exact q1.1, fun p hp => k (.tup ws) M1 _ _ q1.2 (g.trans (Go.same (sameNew hp))) (Rep.tup (SqT.of upd_same) (rs.go (GoH.new hp))) (m.new hp)⟩⟩
theorem q_lst {t : WA} (h : QA Y es t) : QE Y (.List es pos) (wLst t) :=
  PE_imp (pe_lst h) fun σ H Q ⟨ρ, M, Qw, st, q, k⟩ => ⟨ρ, M, _, st, q, fun ws M1 vs H1 q1 g rs m =>
    ⟨by rw [rs.length]; exact q1.1, fun p hp => k (.ref p) _ _ _ (q1.2 p (m.free hp)) (g.trans (Go.new hp)) rep_ref (m.put (GoH.new hp) ⟨vs, upd_same, rs.go (GoH.new hp)⟩)⟩⟩
/-- the empty display has a rule of its own: no part -/
def wCall (r : RLW) (t : WA) : WE := fun ρ M Q => t ρ M fun ws M1 => r ws M1 Q
/-- a built-in by its name -/
theorem q_callB {x : Str} {id : String} {r : RLW} {t : WA} {p : Pos} (hc : CallW Y.X (.builtin id) r) (hg : Gl Y.X x) (hm : Y.X.mg x = none) (hv : bootBuiltins x = some (.builtin id)) (ha : QA Y (e :: es) t)
    (hn : x ≠ "__name__" := by decide) (hdb : (x == ("__debug__" : Str)) = false := by decide) (he : starEach (e :: es) Y.X.env = (false, eval e Y.X.env) :: starEach es Y.X.env := by rfl) (hpl : (backTo pos (starEach es Y.X.env)).any (·.1) = false := by rfl) :
    QE Y (.Call (.Name x p) (e :: es) [] pos) (wCall r t) :=
  PE_imp (pe_callB hc hg hm hv ha hn hdb he hpl) fun σ H Q ⟨ρ, M, Qw, st, q, k⟩ => ⟨ρ, M, _, st, q, fun ws M1 vs H1 q1 g rs m =>
    ⟨ws, M1, Qw, rs, m, q1, fun w M2 v H2 q2 g2 r2 m2 => k w M2 v H2 q2 (g.trans g2) r2 m2⟩⟩
theorem q_callT {x : Str} {T : String} {r : RLW} {t : WA} {p : Pos} (hc : CallW Y.X (.type T) r) (hg : Gl Y.X x) (hm : Y.X.mg x = none) (hv : bootBuiltins x = some (.type T)) (ha : QA Y (e :: es) t)
    (hn : x ≠ "__name__" := by decide) (hdb : (x == ("__debug__" : Str)) = false := by decide) (he : starEach (e :: es) Y.X.env = (false, eval e Y.X.env) :: starEach es Y.X.env := by rfl) (hpl : (backTo pos (starEach es Y.X.env)).any (·.1) = false := by rfl) :
    QE Y (.Call (.Name x p) (e :: es) [] pos) (wCall r t) :=
  PE_imp (pe_callTy hc hg hm hv ha hn hdb he hpl) fun σ H Q ⟨ρ, M, Qw, st, q, k⟩ => ⟨ρ, M, _, st, q, fun ws M1 vs H1 q1 g rs m =>
    ⟨ws, M1, Qw, rs, m, q1, fun w M2 v H2 q2 g2 r2 m2 => k w M2 v H2 q2 (g.trans g2) r2 m2⟩⟩
end

/-! ### statements -/
section
variable {Y : Cy} {st : Stmt} {rest body a b : List Stmt} {e c : Expr} {pos : Pos}
def wNext : WS := fun D ρ M => D.nx ρ M
def wSeq (t u : WS) : WS := fun D ρ M => t { D with nx := u D } ρ M
def wRet (t : WE) : WS := fun D ρ M => t ρ M D.rt
def wRetN : WS := fun D _ M => D.rt .non M
def wDrop (t : WE) : WS := fun D ρ M => t ρ M fun _ M1 => D.nx ρ M1
def wSet (i : Nat) (t : WE) : WS := fun D ρ M => t ρ M fun w M1 => D.nx (ρ.set i (some w)) M1
def wIfS (t : WT) (u v : WS) : WS := fun D ρ M => t ρ M fun x M1 => match x with
  | true => u D ρ M1
  | false => v D ρ M1
def wNever : WS := fun _ _ _ => False
theorem qss_nil : QSs Y [] wNext := PSs_imp pss_nil fun D σ H ⟨ρ, M, DW, so, q, k, _⟩ => k ρ M σ H q (Go.refl _ _) so
theorem qss_one {t : WS} (h : QS Y st t) : QSs Y [st] t := pss_one h
theorem qss_cons {t u : WS} (h : QS Y st t) (h' : QSs Y rest u) : QSs Y (st :: rest) (wSeq t u) :=
  PSs_imp (pss_cons h h') fun D σ H ⟨ρ, M, DW, so, q, k1, k2, k3, k4⟩ => ⟨ρ, M, { DW with nx := u DW }, so, q, fun ρ' M' σ' H' q' g so' =>
    ⟨ρ', M', DW, so', q', fun ρ2 M2 σ2 H2 q2 g2 so2 => k1 ρ2 M2 σ2 H2 q2 (g.trans g2) so2, fun w M2 v H2 q2 g2 r m => k2 w M2 v H2 q2 (g.trans g2) r m,
      fun ρ2 M2 σ2 H2 q2 g2 so2 => k3 ρ2 M2 σ2 H2 q2 (g.trans g2) so2, fun ρ2 M2 σ2 H2 q2 g2 so2 => k4 ρ2 M2 σ2 H2 q2 (g.trans g2) so2⟩, k2, k3, k4⟩
theorem qs_ret {t : WE} (h : QE Y e t) : QS Y (.Return (some e) pos) (wRet t) :=
  PS_imp (ps_ret h) fun D σ H ⟨ρ, M, DW, so, q, k1, k2, _⟩ => ⟨ρ, M, _, so, q, fun w M1 v H1 q1 g r m => k2 w M1 v H1 q1 g r m⟩
theorem qs_retN : QS Y (.Return none pos) wRetN := PS_imp ps_retN fun D σ H ⟨ρ, M, DW, so, q, k1, k2, _⟩ => k2 .non M .non H q (Go.refl _ _) rep_non so.mo
theorem qs_expr {t : WE} (h : QE Y e t) (hs : swapsWith e none pos.line Y.X.env = pure false := by rfl) : QS Y (.Expr e pos) (wDrop t) :=
  PS_imp (ps_expr h hs) fun D σ H ⟨ρ, M, DW, so, q, k1, _⟩ => ⟨ρ, M, _, so, q, fun w M1 v H1 q1 g r m => k1 ρ M1 σ H1 q1 g (so.step g m)⟩
theorem qs_set {i : Nat} {x : Str} {t : WE} {pos' : Pos} (hN : Y.X.N.Nodup) (h : QE Y e t) (hi : Y.X.N[i]? = some x := by rfl) (hx : Loc Y.X.env.scope x := by first | exact Or.inl rfl | exact Or.inr rfl) (hs : swapsWith e (some (.Name x pos')) pos.line Y.X.env = pure false := by rfl)
    (hf : Y.X.fn x = true ∨ Y.X.env.scope.names.lookup x = some .local := by first | exact .inl rfl | exact .inr rfl) : QS Y (.Assign [.Name x pos'] e pos) (wSet i t) :=
  PS_imp (ps_set hN hi hx h hs hf) fun D σ H ⟨ρ, M, DW, so, q, k1, _⟩ => ⟨ρ, M, _, so, q, fun w M1 v H1 q1 g r m => k1 _ M1 _ H1 q1 g ((so.step g m).set r)⟩
theorem qs_if {t : WT} {u v : WS} (hc : QT Y c t) (ha : QSs Y a u) (hb : QSs Y b v) : QS Y (.If c a b pos) (wIfS t u v) :=
  PS_imp (ps_if hc ha hb) fun D σ H ⟨ρ, M, DW, so, q, k1, k2, k3, k4⟩ => ⟨ρ, M, _, so, q, fun x M1 H1 q1 g m => by
    have go : ∀ {t : WS}, t DW ρ M1 → upS Y.b t D σ H1 := fun {t} q => ⟨ρ, M1, DW, so.step g m, q, fun ρ2 M2 σ2 H2 q2 g2 so2 => k1 ρ2 M2 σ2 H2 q2 (g.trans g2) so2, fun w M2 v H2 q2 g2 r m => k2 w M2 v H2 q2 (g.trans g2) r m,
      fun ρ2 M2 σ2 H2 q2 g2 so2 => k3 ρ2 M2 σ2 H2 q2 (g.trans g2) so2, fun ρ2 M2 σ2 H2 q2 g2 so2 => k4 ρ2 M2 σ2 H2 q2 (g.trans g2) so2⟩
    cases x with
    | true => exact go q1
    | false => exact go q1⟩
theorem qs_pass : QS Y (.Pass pos) wNext := PS_imp ps_pass fun D σ H ⟨ρ, M, DW, so, q, k, _⟩ => k ρ M σ H q (Go.refl _ _) so
theorem qs_never : QS Y st wNever := PS_imp ps_never fun D σ H ⟨ρ, M, DW, so, q, k, _⟩ => q.elim
theorem qss_never : QSs Y rest wNever := PSs_imp pss_never fun D σ H ⟨ρ, M, DW, so, q, k, _⟩ => q.elim

/-! ### targets -/
abbrev WG := W → En → Me → (En → Me → Prop) → Prop
abbrev WGs := List W → En → Me → (En → Me → Prop) → Prop
def upG (c : Cb) (g : WG) : TG := fun v σ H Q => ∃ w ρ M Qw, Rep c.B.K H w v ∧ StOk c ρ M σ H ∧ g w ρ M Qw ∧ ∀ ρ' M' σ' H', Qw ρ' M' → Go H M H' M' → StOk c ρ' M' σ' H' → Q σ' H'
def upGs (c : Cb) (g : WGs) : TGs := fun vs σ H Q => ∃ ws ρ M Qw, Reps c.B.K H ws vs ∧ StOk c ρ M σ H ∧ g ws ρ M Qw ∧ ∀ ρ' M' σ' H', Qw ρ' M' → Go H M H' M' → StOk c ρ' M' σ' H' → Q σ' H'
def QG (Y : Cy) (tg : Expr) (g : WG) : Prop := PG Y.X tg (upG Y.b g)
def QGs (Y : Cy) (tgs : List Expr) (g : WGs) : Prop := PGs Y.X tgs (upGs Y.b g)
theorem PG_imp {X : Cx} {e : Expr} {t t' : TG} (h : PG X e t) (i : ∀ v σ H Q, t' v σ H Q → t v σ H Q) : PG X e t' := ⟨fun pins s σ H v u Q I r q => h.run pins s σ H v u Q I r (i v σ H Q q)⟩
theorem PGs_imp {X : Cx} {e : List Expr} {t t' : TGs} (h : PGs X e t) (i : ∀ v σ H Q, t' v σ H Q → t v σ H Q) : PGs X e t' := ⟨fun pins s σ H v u Q I r q => h.run pins s σ H v u Q I r (i v σ H Q q)⟩
def wgName (i : Nat) : WG := fun w ρ M Q => Q (ρ.set i (some w)) M
theorem qg_name {i : Nat} {x : Str} (hN : Y.X.N.Nodup) (hi : Y.X.N[i]? = some x := by rfl) (hx : Loc Y.X.env.scope x := by first | exact Or.inl rfl | exact Or.inr rfl) (hf : Y.X.fn x = true ∨ Y.X.env.scope.names.lookup x = some .local := by first | exact .inl rfl | exact .inr rfl) :
    QG Y (.Name x pos) (wgName i) := PG_imp (pg_name hN hi hx hf) fun v σ H Q ⟨w, ρ, M, Qw, r, so, q, k⟩ => k _ M _ H q (Go.refl _ _) (so.set r)
def wgNil : WGs := fun ws ρ M Q => match ws with
  | [] => Q ρ M
  | _ => False
def wgCons (t : WG) (u : WGs) : WGs := fun ws ρ M Q => match ws with
  | w :: r => t w ρ M fun ρ' M' => u r ρ' M' Q
  | [] => False
theorem qgs_nil : QGs Y [] wgNil := PGs_imp pgs_nil fun v σ H Q ⟨ws, ρ, M, Qw, r, so, q, k⟩ => by
  unfold wgNil at q
  split at q
  · exact ⟨r.unnil, k ρ M σ H q (Go.refl _ _) so⟩
  · exact q.elim
theorem qgs_cons {e : Expr} {es : List Expr} {t : WG} {u : WGs} (h : QG Y e t) (h' : QGs Y es u) (hs : (assignEach (e :: es) Y.X.env).map (·.2) = assign e Y.X.env :: (assignEach es Y.X.env).map (·.2) := by rfl) : QGs Y (e :: es) (wgCons t u) :=
  PGs_imp (pgs_cons h h' hs) fun v σ H Q ⟨ws, ρ, M, Qw, r, so, q, k⟩ => by
    unfold wgCons at q
    split at q
    · rename_i w r'
      obtain ⟨v1, vr, e1, h1, h2⟩ := r.uncons
      exact ⟨v1, vr, e1, w, ρ, M, _, h1, so, q, fun ρ' M' σ' H' q' g so' => ⟨r', ρ', M', Qw, h2.go g.h, so', q', fun ρ2 M2 σ2 H2 q2 g2 so2 => k ρ2 M2 σ2 H2 q2 (g.trans g2) so2⟩⟩
    · exact q.elim
def wgTup (n : Nat) (t : WGs) : WG := fun w ρ M Q => match w with
  | .tup ws => ws.length = n ∧ t ws ρ M Q
  | _ => False
theorem qg_tup {es : List Expr} {k : Nat} {t : WGs} {n : Nat} (hc : Y.X.calm = true) (h : QGs Y es t) (hn : (assignEach es Y.X.env).length = n := by rfl) (hst : (assignEach es Y.X.env).findIdx? (·.1) = none := by rfl) : QG Y (.Tuple es k pos) (wgTup n t) :=
  PG_imp (pg_tup hc h hn hst) fun v σ H Q ⟨w, ρ, M, Qw, r, so, q, k⟩ => by
    unfold wgTup at q
    split at q
    · obtain ⟨a, vs, e1, s, rs⟩ := r.untup
      exact ⟨a, vs, e1, s, rs.length.trans q.1, _, ρ, M, Qw, rs, so, q.2, k⟩
    · exact q.elim
/-- o[i] = w, by values -/
abbrev R3W := W → W → W → Me → (Me → Prop) → Prop
def up3 (B : Kx) (r : R3W) : TSet := fun o i v H Q => ∃ wo wi wv M Qw, Rep B.K H wo o ∧ Rep B.K H wi i ∧ Rep B.K H wv v ∧ Mo B H M ∧ r wo wi wv M Qw ∧ ∀ M' H', Qw M' → Go H M H' M' → Mo B H' M' → Q H'
def SetW (X : Cx) (r : R3W) : Prop := PSet X (up3 X.kx r)
theorem PSet_imp {X : Cx} {r r' : TSet} (h : PSet X r) (i : ∀ o j v H Q, r' o j v H Q → r o j v H Q) : PSet X r' := fun pins s σ H o j v ov iv u Q I r1 r2 r3 q => h pins s σ H o j v ov iv u Q I r1 r2 r3 (i o j v H Q q)
def wgSub (to ti : WE) (r : R3W) : WG := fun w ρ M Q => to ρ M fun o M1 => ti ρ M1 fun i M2 => r o i w M2 fun M3 => Q ρ M3
theorem qg_sub {o i : Expr} {to ti : WE} {r : R3W} (ho : QE Y o to) (hi : QE Y i ti) (hr : SetW Y.X r)
    (ha : ∀ v, assign (.Subscript o i pos) Y.X.env v = (do
      let ov ← holding [v] (eval o Y.X.env)
      let iv ← holding [v, ov] (eval i Y.X.env)
      standAt pos
      holding [v, ov, iv] (setItem ov iv v)
      release [v, ov, iv] []) := by intro _; rfl) : QG Y (.Subscript o i pos) (wgSub to ti r) :=
  PG_imp (pg_sub ho hi hr ha) fun v σ H Q ⟨w, ρ, M, Qw, r, so, q, k⟩ => ⟨ρ, M, _, so, q, fun wo M1 vo H1 q1 g1 r1 m1 => ⟨ρ, M1, _, so.step g1 m1, q1, fun wi M2 vi H2 q2 g2 r2 m2 =>
    ⟨wo, wi, w, M2, _, r1.go g2.h, r2, r.go (g1.trans g2).h, m2, q2, fun M3 H3 q3 g3 m3 => k ρ M3 σ H3 q3 ((g1.trans g2).trans g3) (so.step ((g1.trans g2).trans g3) m3)⟩⟩⟩
def wAsg (t : WE) (g : WG) : WS := fun D ρ M => t ρ M fun w M1 => g w ρ M1 D.nx
theorem qs_asg {tg : Expr} {t : WE} {g : WG} (he : QE Y e t) (hg : QG Y tg g) (hs : swapsWithSole [tg] e pos.line Y.X.env = pure false := by rfl) (hw : swappedStores [tg] e Y.X.env = pure none := by rfl)
    (h1 : (assignEach [tg] Y.X.env).map (·.2) = [assign tg Y.X.env] := by rfl) : QS Y (.Assign [tg] e pos) (wAsg t g) :=
  PS_imp (ps_asg he hg hs hw h1) fun D σ H ⟨ρ, M, DW, so, q, k1, _⟩ => ⟨ρ, M, _, so, q, fun w M1 v H1 q1 g r m => ⟨w, ρ, M1, _, r, so.step g m, q1, fun ρ' M' σ' H' q' g' so' => k1 ρ' M' σ' H' q' (g.trans g') so'⟩⟩
/-- a, b = x, y -/
def wPar (i j : Nat) (t : WA) : WS := fun D ρ M => t ρ M fun ws M1 => match ws with
  | [x, y] => D.nx ((ρ.set i (some x)).set j (some y)) M1
  | _ => False
theorem qs_par {i j : Nat} {x y : Str} {ea eb : Expr} {t : WA} {px py pt : Pos} {kt k2 pt2} (hc : Y.X.calm = true) (hN : Y.X.N.Nodup) (ha : QA Y [ea, eb] t) (hi : Y.X.N[i]? = some x := by rfl) (hj : Y.X.N[j]? = some y := by rfl) (hij : i ≠ j := by decide)
    (hx : Y.X.env.scope.names.lookup x = some .local := by rfl) (hy : Y.X.env.scope.names.lookup y = some .local := by rfl)
    (hw : swappedStores [.Tuple [.Name x px, .Name y py] kt pt] (.Tuple [ea, eb] k2 pt2) Y.X.env = pure (some [x, y]) := by rfl)
    (hs : swapsWithSole [.Tuple [.Name x px, .Name y py] kt pt] (.Tuple [ea, eb] k2 pt2) pos.line Y.X.env = pure false := by rfl) :
    QS Y (.Assign [.Tuple [.Name x px, .Name y py] kt pt] (.Tuple [ea, eb] k2 pt2) pos) (wPar i j t) :=
  PS_imp (ps_par hc hN hi hj hij hx hy ha hw hs) fun D σ H ⟨ρ, M, DW, so, q, k1, _⟩ => ⟨ρ, M, _, so, q, fun ws M1 vs H1 q1 g rs m => by
    split at q1
    · obtain ⟨v1, vr, e1, h1, h2⟩ := rs.uncons
      obtain ⟨v2, vr2, e2, h3, h4⟩ := h2.uncons
      have e3 := h4.unnil
      subst e1 e2 e3
      exact ⟨v1, v2, rfl, k1 _ M1 _ H1 q1 g (((so.step g m).set h1).set h3)⟩
    · exact q1.elim⟩
/-- name op= e -/
def wAug (i : Nat) (t : WE) (r : R2W) : WS := fun D ρ M => match ρ[i]? with
  | some (some x) => t ρ M fun y M1 => r x y M1 fun z M2 => D.nx (ρ.set i (some z)) M2
  | _ => False
theorem qs_aug {i : Nat} {x : Str} {t : WE} {op : Operator} {r : R2W} {pos' : Pos} (hN : Y.X.N.Nodup) (ho : OpW Y.X (inplaceOp op) r) (he : QE Y e t) (hi : Y.X.N[i]? = some x := by rfl) (hx : Loc Y.X.env.scope x := by first | exact Or.inl rfl | exact Or.inr rfl)
    (hf : Y.X.fn x = true ∨ Y.X.env.scope.names.lookup x = some .local := by first | exact .inl rfl | exact .inr rfl) :
    QS Y (.AugAssign (.Name x pos') op e pos) (wAug i t r) :=
  PS_imp (ps_aug (ti := up2 Y.X.kx r) hN hi hx he (fun pins s σ H x y v u Q I rx ry h => ho pins s σ H x y v u Q I rx ry h) hf) fun D σ H ⟨ρ, M, DW, so, q, k1, _⟩ => by
    unfold wAug at q
    split at q
    · rename_i w e1
      obtain ⟨v, h1, h2⟩ := so.env i w e1
      exact ⟨v, h1, ρ, M, _, so, q, fun y M1 vy H1 q1 g r1 m => ⟨w, y, M1, _, h2.go g.h, r1, m, q1, fun z M2 vz H2 q2 g2 r2 m2 => k1 _ M2 _ H2 q2 (g.trans g2) ((so.step (g.trans g2) m2).set r2)⟩⟩
    · exact q.elim

/-! ### while -/
def wWhile (c : WT) (tb : WS) : WS := fun D ρ M => ∃ I : Nat → En → Me → Prop, (∃ m, I m ρ M) ∧ ∀ m ρ M, I m ρ M → c ρ M fun x M1 => match x with
  | true => tb { D with nx := fun ρ' M' => ∃ M0, Sub M0 M' ∧ ∃ m', m' < m ∧ I m' ρ' M0, ct := fun ρ' M' => ∃ M0, Sub M0 M' ∧ ∃ m', m' < m ∧ I m' ρ' M0, bk := D.nx } ρ M1
  | false => D.nx ρ M1
theorem qs_while {t : WT} {u : WS} (hp : PassesOwn (model Y.X.prog Y.X.w) Y.X.A Y.X.env Y.X.xe) (hc : QT Y c t) (hb : QSs Y body u) : QS Y (.While c body [] pos) (wWhile t u) :=
  PS_imp (ps_while hp hc hb) fun D σ H ⟨ρ, M, DW, so, ⟨I, ⟨m0, i0⟩, turn⟩, k1, k2, k3, k4⟩ => by
    refine ⟨fun m σ' H' => ∃ ρ' M', I m ρ' M' ∧ Go H M H' M' ∧ StOk Y.b ρ' M' σ' H', ⟨m0, ρ, M, i0, Go.refl _ _, so⟩, ?_⟩
    rintro m σ1 H1 ⟨ρ1, M1, i1, g1, so1⟩
    refine ⟨ρ1, M1, _, so1, turn m ρ1 M1 i1, fun x M2 H2 q2 g2 m2 => ?_⟩
    have g12 := g1.trans g2
    cases x with
    | true =>
      refine (if_pos rfl).mpr ?_
      refine ⟨fun σ' H' => ∃ m', m' < m ∧ ∃ ρ' M', I m' ρ' M' ∧ Go H M H' M' ∧ StOk Y.b ρ' M' σ' H', fun σ' H' z => z, ?_⟩
      have nx : ∀ ρ' M' σ' H', (∃ M0, Sub M0 M' ∧ ∃ m', m' < m ∧ I m' ρ' M0) → Go H2 M2 H' M' → StOk Y.b ρ' M' σ' H' → ∃ m', m' < m ∧ ∃ ρ' M', I m' ρ' M' ∧ Go H M H' M' ∧ StOk Y.b ρ' M' σ' H' := fun ρ' M' σ' H' ⟨M0, s, m', hm, i'⟩ g so' =>
        ⟨m', hm, ρ', M0, i', (g12.trans g).sub s, so'.sub s⟩
      exact ⟨ρ1, M2, _, so1.step g2 m2, q2, nx, fun w M' v H' q g r m => k2 w M' v H' q (g12.trans g) r m, fun ρ' M' σ' H' q g so' => k1 ρ' M' σ' H' q (g12.trans g) so', nx⟩
    | false =>
      refine (if_neg Bool.false_ne_true).mpr ?_
      exact k1 ρ1 M2 σ1 H2 q2 g12 (so1.step g2 m2)

/-! ### for -/
abbrev ItW := Me → Option (List W)
abbrev WI := En → Me → (ItW → Me → Prop) → Prop
def ItRel (B : Kx) (H1 : Hp) (J : It) (f : ItW) : Prop := ∀ (i : Nat) H M xs, GoH H1 H → Mo B H M → f M = some xs →
  (∀ w, xs[i]? = some w → J.go i H ∧ ∀ x H', J.yld i H x H' → Same H H' ∧ Rep B.K H' w x) ∧ (xs.length ≤ i → J.stop i H)
def upI (c : Cb) (wi : WI) : TI := fun σ H R => ∃ ρ M Rw, StOk c ρ M σ H ∧ wi ρ M Rw ∧ ∀ f M1 J H1, Rw f M1 → Go H M H1 M1 → Mo c.B H1 M1 → ItRel c.B H1 J f → R J H1
def QI (Y : Cy) (tg e : Expr) (wi : WI) : Prop := PI Y.X tg e (upI Y.b wi)
theorem PI_imp {X : Cx} {tg e : Expr} {t t' : TI} (h : PI X tg e t) (i : ∀ σ H R, t' σ H R → t σ H R) : PI X tg e t' := ⟨fun pins s σ H R I q => h.run pins s σ H R I (i σ H R q)⟩
theorem PI_or {X : Cx} {tg e : Expr} {t t' : TI} (h : PI X tg e t) (h' : PI X tg e t') : PI X tg e (fun σ H R => t σ H R ∨ t' σ H R) := ⟨fun pins s σ H R I q => q.elim (h.run pins s σ H R I) (h'.run pins s σ H R I)⟩
def wForB (f : ItW) (g : WG) (tb : WS) (D : Eds) (ρ : En) (M : Me) : Prop := ∃ (I : Nat → En → Me → Prop) (n : Nat), I 0 ρ M ∧ (∀ i ρ M, I i ρ M → i ≤ n) ∧ ∀ i ρ M, I i ρ M → ∃ xs, f M = some xs ∧
  (∀ w, xs[i]? = some w → g w ρ M fun ρ2 M2 => tb { D with nx := fun ρ' M' => ∃ M0, Sub M0 M' ∧ I (i + 1) ρ' M0, ct := fun ρ' M' => ∃ M0, Sub M0 M' ∧ I (i + 1) ρ' M0, bk := D.nx } ρ2 M2) ∧ (xs.length ≤ i → D.nx ρ M)
def wFor (wi : WI) (g : WG) (tb : WS) : WS := fun D ρ M => wi ρ M fun f M1 => wForB f g tb D ρ M1
theorem qs_for {tg iter : Expr} {wi : WI} {g : WG} {u : WS} (hp : PassesOwn (model Y.X.prog Y.X.w) Y.X.A Y.X.env Y.X.xe) (hc : Y.X.calm = true) (hi : QI Y tg iter wi) (hg : QG Y tg g) (hb : QSs Y body u)
    (hs : ∀ x, foldedSetIterable iter Y.X.env x = pure x := by intro _; rfl) : QS Y (.For tg iter body [] pos) (wFor wi g u) :=
  PS_imp (ps_for hp hc hi hg hb hs) fun D σ H ⟨ρ, M, DW, so, q, k1, k2, k3, k4⟩ => by
    refine ⟨ρ, M, _, so, q, fun f M1 J H1 ⟨I, n, i0, hn, turn⟩ g1 m1 rel => ?_⟩
    refine ⟨fun i m σ' H' => m = n - i ∧ ∃ ρ' M', I i ρ' M' ∧ Go H1 M1 H' M' ∧ StOk Y.b ρ' M' σ' H', ⟨n, by simp, ρ, M1, i0, Go.refl _ _, so.step g1 m1⟩, ?_⟩
    rintro i m σ2 H2 ⟨rfl, ρ2, M2, i2, g2, so2⟩
    obtain ⟨xs, hf, hgo, hst⟩ := turn i ρ2 M2 i2
    obtain ⟨r1, r2⟩ := rel i H2 M2 xs g2.h so2.mo hf
    have g12 := g1.trans g2
    by_cases hl : i < xs.length
    · have hw : xs[i]? = some xs[i] := List.getElem?_eq_getElem hl
      obtain ⟨jg, jy⟩ := r1 _ hw
      refine .inr ⟨jg, fun σ' H' => ∃ ρ' M', I (i + 1) ρ' M' ∧ Go H1 M1 H' M' ∧ StOk Y.b ρ' M' σ' H', fun σ' H' ⟨ρ', M', i', g', so'⟩ => ⟨n - (i + 1), by have := hn (i + 1) ρ' M' i'; omega, rfl, ρ', M', i', g', so'⟩, fun x H3 y => ?_⟩
      obtain ⟨g3, r3⟩ := jy x H3 y
      have m3 := so2.mo.same g3
      have g3' : Go H2 M2 H3 M2 := Go.same g3
      have gb := g12.trans g3'
      refine ⟨_, ρ2, M2, _, r3, so2.step g3' m3, hgo _ hw, fun ρ4 M4 σ4 H4 q4 g4 so4 => ?_⟩
      have nx : ∀ ρ' M' σ' H', (∃ M0, Sub M0 M' ∧ I (i + 1) ρ' M0) → Go H4 M4 H' M' → StOk Y.b ρ' M' σ' H' → ∃ ρ' M', I (i + 1) ρ' M' ∧ Go H1 M1 H' M' ∧ StOk Y.b ρ' M' σ' H' := fun ρ' M' σ' H' ⟨M0, s, i'⟩ g so' =>
        ⟨ρ', M0, i', (((g2.trans g3').trans g4).trans g).sub s, so'.sub s⟩
      exact ⟨ρ4, M4, _, so4, q4, nx, fun w M' v H' q g r m => k2 w M' v H' q ((gb.trans g4).trans g) r m, fun ρ' M' σ' H' q g so' => k1 ρ' M' σ' H' q ((gb.trans g4).trans g) so', nx⟩
    · exact .inl ⟨r2 (by omega), k1 ρ2 M2 σ2 H2 (hst (by omega)) g12 so2⟩
/-! what is walked -/
def rdl : Option Ob → Option (List W)
  | some (.lst xs) => some xs
  | _ => none
theorem rdl_sq {B : Kx} {H : Hp} {M : Me} {a : Addr} {xs : List W} (m : Mo B H M) (h : rdl (M a) = some xs) : ∃ vs, SqL B.K H a vs ∧ Reps B.K H xs vs := by
  cases e : M a with
  | none => rw [e] at h; cases h
  | some o =>
    rw [e] at h
    cases o with
    | lst ws =>
      have e2 : ws = xs := by simpa [rdl] using h
      subst e2
      obtain ⟨vs, h1, h2⟩ := m a _ e
      exact ⟨vs, SqL.of h1, h2⟩
    | _ => simp [rdl] at h
/-- a list or a tuple, by its value -/
def wiSeq (t : WE) : WI := fun ρ M R => t ρ M fun x M1 => match x with
  | .tup ws => R (fun _ => some ws) M1
  | .cl ws => R (fun _ => some ws) M1
  | .ref a => (rdl (M1 a)).isSome = true ∧ R (fun M => rdl (M a)) M1
  | _ => False
theorem it_l {X : Cx} {tg : Expr} {pins : List (Addr × Obj)} {σ : L2.St} {H : Hp} {s : Shared} {R : It → Hp → Prop} {E : Value → Shared → Prop} {a : Addr} {vs : List V} (I : Inv X pins σ H s) (hq : SqL X.K H a vs) (q : R (Itl X.K a) H) :
    wpAny (model X.prog X.w) X.A (pyIter (.ref a)) (PIE X pins σ tg R) E s := by
  obtain ⟨us, _, pl, _⟩ := I.list hq
  have nw := Nat.le_refl s.heap.objs.size
  have I2 : ∀ o, Inv X pins σ H { s with heap := s.heap.push o } := fun o => I.kept (t' := s.toks) fun _ u z => Heap.get?_push_of_some _ z
  apply wpAny_pyIter_list pl.isList
  refine ⟨_, [s.heap.objs.size], _, _, H, rfl, I2 _, turn_list a s.heap.objs.size, ⟨_, Heap.get?_push_size _ rfl, rfl, rfl⟩, ?_, q⟩
  intro b hb
  obtain rfl : b = s.heap.objs.size := by simpa using hb
  exact I.fpOk nw (I.hok.fresh nw)
theorem it_t {X : Cx} {tg : Expr} {pins : List (Addr × Obj)} {σ : L2.St} {H : Hp} {s : Shared} {R : It → Hp → Prop} {E : Value → Shared → Prop} {a : Addr} {vs : List V} (I : Inv X pins σ H s) (hq : SqT X.K H a vs) (q : R (Itt X.K a) H) :
    wpAny (model X.prog X.w) X.A (pyIter (.ref a)) (PIE X pins σ tg R) E s := by
  obtain ⟨us, _, pl, _⟩ := I.tuple hq
  have nw := Nat.le_refl s.heap.objs.size
  have I2 : ∀ o, Inv X pins σ H { s with heap := s.heap.push o } := fun o => I.kept (t' := s.toks) fun _ u z => Heap.get?_push_of_some _ z
  apply wpAny_pyIter_tuple (show s.heap.IsTuple a us.toArray from pl)
  refine ⟨_, [s.heap.objs.size], _, _, H, rfl, I2 _, turn_tuple a s.heap.objs.size, ⟨_, Heap.get?_push_size _ rfl, rfl, rfl⟩, ?_, q⟩
  intro b hb
  obtain rfl : b = s.heap.objs.size := by simpa using hb
  exact I.fpOk nw (I.hok.fresh nw)
theorem rel_list {B : Kx} {H1 : Hp} {a : Addr} : ItRel B H1 (Itl B.K a) (fun M => rdl (M a)) := fun i H M xs g m h => by
  obtain ⟨vs, s, r⟩ := rdl_sq m h
  refine ⟨fun w e => ?_, fun l => ⟨vs, s, by rw [r.length]; exact l⟩⟩
  obtain ⟨v, e2, rv⟩ := r.get e
  refine ⟨⟨vs, v, s, e2⟩, fun x H' ⟨e3, z⟩ => ?_⟩
  subst e3
  have := z vs s
  rw [e2] at this
  cases this
  exact ⟨Same.refl _, rv⟩
theorem rel_tup {X : Cx} {pins : List (Addr × Obj)} {σ : L2.St} {s0 : Shared} {H1 : Hp} {a : Addr} {vs : List V} {ws : List W} (s : SqT X.K H1 a vs) (r : Reps X.K H1 ws vs) : ItRel X.kx H1 (Itt X.K a) (fun _ => some ws) := fun i H M xs g m h => by
  cases h
  have s' := g.sqT s
  have r' := r.go g
  refine ⟨fun w e => ?_, fun l => ⟨vs, s', by rw [r'.length]; exact l⟩⟩
  obtain ⟨v, e2, rv⟩ := r'.get e
  refine ⟨⟨vs, v, s', e2⟩, fun x H' ⟨e3, z⟩ => ?_⟩
  subst e3
  have := z vs s'
  rw [e2] at this
  cases this
  exact ⟨Same.refl _, rv⟩
theorem rel_cl {X : Cx} {H1 : Hp} {a : Addr} {vs : List V} {ws : List W} (s : Cl X.K H1 a vs) (r : Reps X.K H1 ws vs) : ItRel X.kx H1 (Itl X.K a) (fun _ => some ws) := fun i H M xs g m h => by
  cases h
  have s' := (g.cl s).sq
  have r' := r.go g
  refine ⟨fun w e => ?_, fun l => ⟨vs, s', by rw [r'.length]; exact l⟩⟩
  obtain ⟨v, e2, rv⟩ := r'.get e
  refine ⟨⟨vs, v, s', e2⟩, fun x H' ⟨e3, z⟩ => ?_⟩
  subst e3
  have := z vs s'
  rw [e2] at this
  cases this
  exact ⟨Same.refl _, rv⟩
theorem qi_seq {tg : Expr} {t : WE} (h : QE Y e t) : QI Y tg e (wiSeq t) := ⟨fun pins s σ H R I ⟨ρ, M, Rw, so, q, k⟩ => by
  refine thn (h.run pins s σ H (fun v H1 => ∃ w M1, Rep Y.X.K H1 w v ∧ Mo Y.X.kx H1 M1 ∧ Go H M H1 M1 ∧ (match w with
    | .tup ws => Rw (fun _ => some ws) M1
    | .cl ws => Rw (fun _ => some ws) M1
    | .ref a => (rdl (M1 a)).isSome = true ∧ Rw (fun M => rdl (M a)) M1
    | _ => False)) I ⟨ρ, M, _, so, q, fun w M1 v H1 q1 g r m => ⟨w, M1, r, m, g, q1⟩⟩) fun u s1 ⟨v, H1, I1, rv, w, M1, r, m, g, q1⟩ => ?_
  split at q1
  · obtain ⟨a, vs, e, sq, rs⟩ := r.untup
    subst e
    cases rv
    exact it_t I1 sq (k _ M1 _ H1 q1 g m (rel_tup (pins := pins) (σ := σ) (s0 := s1) sq rs))
  · obtain ⟨a, vs, e, sq, rs⟩ := r.uncl
    subst e
    cases rv
    exact it_l I1 sq.sq (k _ M1 _ H1 q1 g m (rel_cl sq rs))
  · have e := un_ref r
    subst e
    cases rv
    obtain ⟨xs, hx⟩ := Option.isSome_iff_exists.mp q1.1
    obtain ⟨vs, sq, rs⟩ := rdl_sq m hx
    exact it_l I1 sq (k _ M1 _ H1 q1.2 g m rel_list)
  · exact q1.elim⟩
def rngW (lo hi : Int) : List W := (List.range (hi - lo).toNat).map fun (k : Nat) => W.int (lo + (k : Int))
def wiRng1 (t : WA) : WI := fun ρ M R => t ρ M fun ws M1 => match ws with
  | [.int j] => (-(2 ^ 62) ≤ j ∧ j < 2 ^ 62) ∧ R (fun _ => some (rngW 0 j)) M1
  | _ => False
def wiRng2 (t : WA) : WI := fun ρ M R => t ρ M fun ws M1 => match ws with
  | [.int i, .int j] => (-(2 ^ 62) ≤ i ∧ i < 2 ^ 62 ∧ -(2 ^ 62) ≤ j ∧ j < 2 ^ 62) ∧ R (fun _ => some (rngW i j)) M1
  | _ => False
theorem rel_rng {B : Kx} {H1 : Hp} {lo : Int} {n : Nat} : ItRel B H1 (Itr lo n) (fun _ => some ((List.range n).map fun (k : Nat) => W.int (lo + (k : Int)))) := fun i H M xs g m h => by
  cases h
  refine ⟨fun w e => ?_, fun l => show n ≤ i by simpa using l⟩
  rw [List.getElem?_map] at e
  have hi : i < n := by
    by_cases hl : i < n
    · exact hl
    · rw [List.getElem?_eq_none (by simpa using hl)] at e; cases e
  rw [List.getElem?_range hi] at e
  have e2 : W.int (lo + (i : Int)) = w := by simpa using e
  subst e2
  refine ⟨hi, fun x H' ⟨e3, e4⟩ => ?_⟩
  subst e3 e4
  exact ⟨Same.refl _, rep_int⟩
theorem qi_rng1 {tg : Expr} {t : WA} {p : Pos} (hg : Gl Y.X "range") (hm : Y.X.mg "range" = none) (h : QA Y [e] t) (hs : starEach [e] Y.X.env = [(false, eval e Y.X.env)] := by rfl) : QI Y tg (.Call (.Name "range" p) [e] [] pos) (wiRng1 t) :=
  PI_imp (pi_range1 hg hm h hs) fun σ H R ⟨ρ, M, Rw, so, q, k⟩ => ⟨ρ, M, _, so, q, fun ws M1 vs H1 q1 g rs m => by
    split at q1
    · rename_i j
      obtain ⟨v, r, e1, r1, r2⟩ := rs.uncons
      have e2 := r2.unnil
      have e3 := un_int r1
      subst e1 e2 e3
      refine ⟨j, rfl, q1.1.1, q1.1.2, k _ M1 _ H1 q1.2 g m ?_⟩
      have z := rel_rng (B := Y.X.kx) (H1 := H1) (lo := 0) (n := j.toNat)
      unfold rngW
      rw [Int.sub_zero]
      exact z
    · exact q1.elim⟩
theorem qi_rng2 {tg e2 : Expr} {t : WA} {p : Pos} (hg : Gl Y.X "range") (hm : Y.X.mg "range" = none) (h : QA Y [e, e2] t) (hs : starEach [e, e2] Y.X.env = [(false, eval e Y.X.env), (false, eval e2 Y.X.env)] := by rfl) (hs2 : starEach [e2] Y.X.env = [(false, eval e2 Y.X.env)] := by rfl) :
    QI Y tg (.Call (.Name "range" p) [e, e2] [] pos) (wiRng2 t) :=
  PI_imp (pi_range2 hg hm h hs hs2) fun σ H R ⟨ρ, M, Rw, so, q, k⟩ => ⟨ρ, M, _, so, q, fun ws M1 vs H1 q1 g rs m => by
    split at q1
    · rename_i i j
      obtain ⟨v, r, e1, r1, r2⟩ := rs.uncons
      obtain ⟨v2, r3, e2, r4, r5⟩ := r2.uncons
      have e3 := r5.unnil
      have e4 := un_int r1
      have e5 := un_int r4
      subst e1 e2 e3 e4 e5
      exact ⟨i, j, rfl, q1.1, k _ M1 _ H1 q1.2 g m rel_rng⟩
    · exact q1.elim⟩
end
end PV
set_option maxHeartbeats 1000000
/-! PV: comprehensions, calls, defs. -/
namespace PV
open PySem PySem.Spec PyProof.Rows L2

/-! ### comprehensions -/
def wWipe (ρ : En) : List Nat → En
  | [] => ρ
  | v :: vs => (wWipe ρ vs).set v none
/-- the turns: acc what is made so far -/
def wLcB (f : ItW) (g : WG) (tt : WT) (te : WE) (vs : List Nat) (ρ : En) (M : Me) (Q : WK) : Prop := ∃ (I : Nat → List W → Me → Prop) (n : Nat), I 0 [] M ∧ (∀ i acc M, I i acc M → i ≤ n) ∧ ∀ i acc M, I i acc M → acc.length < sizeLine ∧ ∃ xs, f M = some xs ∧
  (∀ w, xs[i]? = some w → g w (wWipe ρ vs) M fun ρ2 M2 => tt ρ2 M2 fun b M3 => match b with
    | true => te ρ2 M3 fun y M4 => ∃ M0, Sub M0 M4 ∧ I (i + 1) (acc ++ [y]) M0
    | false => ∃ M0, Sub M0 M3 ∧ I (i + 1) acc M0) ∧ (xs.length ≤ i → ∀ p, M p = none → Q (.ref p) (put M p (.lst acc)))
def wLc (wi : WI) (g : WG) (tt : WT) (te : WE) (vs : List Nat) : WE := fun ρ M Q => wi ρ M fun f M1 => wLcB f g tt te vs ρ M1 Q
theorem set_wipe (σ : L2.St) (x : Option V) : ∀ (vs : List Nat) (i : Nat), (L2.wipe (σ.set i x) vs).set i none = (L2.wipe σ vs).set i none
  | [], i => by
    show (σ.set i x).set i none = σ.set i none
    rw [List.set_set]
  | v :: vs, i => by
    show ((L2.wipe (σ.set i x) vs).set v none).set i none = ((L2.wipe σ vs).set v none).set i none
    by_cases z : v = i
    · subst z
      rw [List.set_set, List.set_set]
      exact set_wipe σ x vs v
    · rw [List.set_comm _ _ z, set_wipe σ x vs i, List.set_comm _ _ (Ne.symm z)]
theorem wipe_mem (σ : L2.St) (x : Option V) : ∀ (vs : List Nat) (i : Nat), i ∈ vs → L2.wipe (σ.set i x) vs = L2.wipe σ vs
  | [], i, h => by cases h
  | v :: vs, i, h => by
    show (L2.wipe (σ.set i x) vs).set v none = (L2.wipe σ vs).set v none
    by_cases z : v = i
    · subst z; exact set_wipe σ x vs v
    · rw [wipe_mem σ x vs i (by
        rcases List.mem_cons.mp h with e | e
        · exact absurd e.symm z
        · exact e)]
section
variable {c : Cb} {M : Me} {H : Hp}
theorem StOk.unset {ρ : En} {σ : L2.St} (v : Nat) (so : StOk c ρ M σ H) : StOk c (ρ.set v none) M (σ.set v none) H := by
  refine ⟨fun i w e => ?_, by rw [List.length_set, List.length_set]; exact so.len, so.mo, so.go⟩
  by_cases z : v = i
  · subst z
    have hl : v < ρ.length := by
      have := (List.getElem?_eq_some_iff.mp e).1
      simpa using this
    rw [List.getElem?_set_self hl] at e
    cases e
  · rw [List.getElem?_set_ne z] at e ⊢
    exact so.env i w e
theorem StOk.wipe {ρ : En} {σ : L2.St} (so : StOk c ρ M σ H) : ∀ vs : List Nat, StOk c (wWipe ρ vs) M (L2.wipe σ vs) H
  | [] => so
  | v :: vs => (StOk.wipe so vs).unset v
end
/-- a target in a comprehension: only the block's own names -/
def upGv (c : Cb) (vs : List Nat) (g : WG) : TG := fun v σ H Q => ∃ w ρ M Qw, Rep c.B.K H w v ∧ StOk c ρ M σ H ∧ g w ρ M Qw ∧ ∀ ρ' M' σ' H', Qw ρ' M' → Go H M H' M' → StOk c ρ' M' σ' H' → L2.wipe σ' vs = L2.wipe σ vs → Q σ' H'
def upGvs (c : Cb) (vs : List Nat) (g : WGs) : TGs := fun xs σ H Q => ∃ ws ρ M Qw, Reps c.B.K H ws xs ∧ StOk c ρ M σ H ∧ g ws ρ M Qw ∧ ∀ ρ' M' σ' H', Qw ρ' M' → Go H M H' M' → StOk c ρ' M' σ' H' → L2.wipe σ' vs = L2.wipe σ vs → Q σ' H'
def QGv (Y : Cy) (vs : List Nat) (tg : Expr) (g : WG) : Prop := PG Y.X tg (upGv Y.b vs g)
def QGvs (Y : Cy) (vs : List Nat) (tgs : List Expr) (g : WGs) : Prop := PGs Y.X tgs (upGvs Y.b vs g)
section
variable {Y : Cy} {vs : List Nat} {pos : Pos}
theorem qv_name {i : Nat} {x : Str} (hN : Y.X.N.Nodup) (hm : i ∈ vs := by decide) (hi : Y.X.N[i]? = some x := by rfl) (hx : Loc Y.X.env.scope x := by first | exact Or.inl rfl | exact Or.inr rfl)
    (hf : Y.X.fn x = true ∨ Y.X.env.scope.names.lookup x = some .local := by first | exact .inl rfl | exact .inr rfl) : QGv Y vs (.Name x pos) (wgName i) :=
  PG_imp (pg_name hN hi hx hf) fun v σ H Q ⟨w, ρ, M, Qw, r, so, q, k⟩ => k _ M _ H q (Go.refl _ _) (so.set r) (wipe_mem σ _ vs i hm)
theorem qvs_nil : QGvs Y vs [] wgNil := PGs_imp pgs_nil fun v σ H Q ⟨ws, ρ, M, Qw, r, so, q, k⟩ => by
  unfold wgNil at q
  split at q
  · exact ⟨r.unnil, k ρ M σ H q (Go.refl _ _) so rfl⟩
  · exact q.elim
theorem qvs_cons {e : Expr} {es : List Expr} {t : WG} {u : WGs} (h : QGv Y vs e t) (h' : QGvs Y vs es u) (hs : (assignEach (e :: es) Y.X.env).map (·.2) = assign e Y.X.env :: (assignEach es Y.X.env).map (·.2) := by rfl) : QGvs Y vs (e :: es) (wgCons t u) :=
  PGs_imp (pgs_cons h h' hs) fun v σ H Q ⟨ws, ρ, M, Qw, r, so, q, k⟩ => by
    unfold wgCons at q
    split at q
    · rename_i w r'
      obtain ⟨v1, vr, e1, h1, h2⟩ := r.uncons
      exact ⟨v1, vr, e1, w, ρ, M, _, h1, so, q, fun ρ' M' σ' H' q' g so' ew => ⟨r', ρ', M', Qw, h2.go g.h, so', q', fun ρ2 M2 σ2 H2 q2 g2 so2 ew2 => k ρ2 M2 σ2 H2 q2 (g.trans g2) so2 (ew2.trans ew)⟩⟩
    · exact q.elim
theorem qv_tup {es : List Expr} {k : Nat} {t : WGs} {n : Nat} (hc : Y.X.calm = true) (h : QGvs Y vs es t) (hn : (assignEach es Y.X.env).length = n := by rfl) (hst : (assignEach es Y.X.env).findIdx? (·.1) = none := by rfl) : QGv Y vs (.Tuple es k pos) (wgTup n t) :=
  PG_imp (pg_tup hc h hn hst) fun v σ H Q ⟨w, ρ, M, Qw, r, so, q, k⟩ => by
    unfold wgTup at q
    split at q
    · obtain ⟨a, vs, e1, s, rs⟩ := r.untup
      exact ⟨a, vs, e1, s, rs.length.trans q.1, _, ρ, M, Qw, rs, so, q.2, k⟩
    · exact q.elim
def QTs (Y : Cy) (ifs : List Expr) (t : WT) : Prop := PTs Y.X ifs (upT Y.b t)
theorem PTs_imp {X : Cx} {es : List Expr} {t t' : TT} (h : PTs X es t) (i : ∀ σ H Q, t' σ H Q → t σ H Q) : PTs X es t' := ⟨fun pins s σ H Q I q => h.run pins s σ H Q I (i σ H Q q)⟩
def wYes : WT := fun _ M Q => Q true M
theorem qts_nil : QTs Y [] wYes := PTs_imp pts_nil fun σ H Q ⟨ρ, M, Qw, so, q, k⟩ => k true M H q (Go.refl _ _) so.mo
theorem qts_one {c : Expr} {t : WT} (h : QT Y c t) : QTs Y [c] t := pts_one h
end
theorem up_lc {c : Cb} {σ : L2.St} {H : Hp} {Q : VK} {wi : WI} {g : WG} {tt : WT} {te : WE} {vs : List Nat} (h : upE c (wLc wi g tt te vs) σ H Q) : tLc (upI c wi) (upGv c vs g) (upT c tt) (upE c te) vs σ H Q := by
  obtain ⟨ρ, M, Qw, so, q, k⟩ := h
  refine ⟨ρ, M, _, so, q, fun f M1 J H1 ⟨I, n, i0, hn, turn⟩ g1 m1 rel D hD => ?_⟩
  refine ⟨fun i m H' => m = n - i ∧ ∃ acc M' va, I i acc M' ∧ M' D = none ∧ Go H1 M1 H' M' ∧ Mo c.B H' M' ∧ H' D = some (.lst va) ∧ Reps c.B.K H' acc va,
    ⟨n, by simp, [], M1, [], i0, m1.free hD, Go.same (sameNew hD), m1.same (sameNew hD), upd_same, Reps.nil⟩, ?_⟩
  rintro i m H2 ⟨rfl, acc, M2, va, i2, n2, g2, m2, d2, r2⟩
  obtain ⟨hlen, xs, hf, hgo, hst⟩ := turn i acc M2 i2
  obtain ⟨rl1, rl2⟩ := rel i H2 M2 xs g2.h m2 hf
  by_cases hl : i < xs.length
  · have hw : xs[i]? = some xs[i] := List.getElem?_eq_getElem hl
    obtain ⟨jg, jy⟩ := rl1 _ hw
    refine .inr ⟨jg, fun H' => ∃ acc M' va, I (i + 1) acc M' ∧ M' D = none ∧ Go H1 M1 H' M' ∧ Mo c.B H' M' ∧ H' D = some (.lst va) ∧ Reps c.B.K H' acc va,
      fun H' ⟨acc, M', va, i', z⟩ => ⟨n - (i + 1), by have := hn (i + 1) acc M' i'; omega, rfl, acc, M', va, i', z⟩, fun x H3 y => ?_⟩
    obtain ⟨s3, r3⟩ := jy x H3 y
    have g3 : Go H2 M2 H3 M2 := Go.same s3
    have so3 : StOk c ρ M2 σ H3 := so.step (((g1.trans g2)).trans g3) (m2.same s3)
    refine ⟨_, wWipe ρ vs, M2, _, r3, so3.wipe vs, hgo _ hw, fun ρ4 M4 σ4 H4 q4 g4 so4 ew => ?_⟩
    refine ⟨?_, ρ4, M4, _, so4, q4, fun b M5 H5 q5 g5 m5 => ?_⟩
    · rw [ew]
      have ww : ∀ (σ : L2.St) (us : List Nat), (∀ i ∈ us, i ∈ vs) → L2.wipe (L2.wipe σ us) vs = L2.wipe σ vs := by
        intro σ us
        induction us with
        | nil => intro _; rfl
        | cons v us ih =>
          intro hm
          show L2.wipe ((L2.wipe σ us).set v none) vs = _
          rw [wipe_mem _ _ vs v (hm v List.mem_cons_self)]
          exact ih fun i hi => hm i (List.mem_cons_of_mem _ hi)
      exact ww σ vs fun _ h => h
    · have ga : Go H1 M1 H5 M5 := ((g2.trans g3).trans g4).trans g5
      have gb : Go H2 M2 H5 M5 := (g3.trans g4).trans g5
      cases b with
      | true =>
        refine (if_pos rfl).mpr ?_
        refine ⟨ρ4, M5, _, so4.step g5 m5, q5, fun y M6 vy H6 ⟨M0, s0, i6⟩ g6 r6 m6 => ?_⟩
        have gc := gb.trans g6
        have d6 : H6 D = some (.lst va) := gc.fm D _ d2 n2
        have n6 : M6 D = none := gc.fr D (by rw [d2]; intro z; cases z) n2
        have gw : GoH H6 (upd H6 D (.lst (va ++ [vy]))) := GoH.write d6 (fun _ z => nomatch z) (fun _ _ z => nomatch z)
        have n0 : M0 D = none := by
          cases e : M0 D with
          | none => rfl
          | some o => have := s0 D o e; rw [n6] at this; cases this
        have rl : va.length = acc.length := r2.length
        refine ⟨va, d6, by rw [rl]; exact hlen, acc ++ [y], M0, va ++ [vy], i6, n0, ?_, ?_, upd_same, ((r2.go gc.h).go gw).append (.cons (r6.go gw) .nil)⟩
        · have gz := (ga.trans g6).sub s0
          refine ⟨gz.h.trans gw, gz.fr, fun a o e na => ?_⟩
          rw [upd_ne (ne_of_none e hD)]
          exact gz.fm a o e na
        · intro a o e
          have ne : a ≠ D := fun z => by rw [z, n0] at e; cases e
          exact (m6 a o (s0 a o e)).go gw (upd_ne ne)
      | false =>
        refine (if_neg Bool.false_ne_true).mpr ?_
        obtain ⟨M0, s0, i6⟩ := q5
        have d6 : H5 D = some (.lst va) := gb.fm D _ d2 n2
        have n6 : M5 D = none := gb.fr D (by rw [d2]; intro z; cases z) n2
        have n0 : M0 D = none := by
          cases e : M0 D with
          | none => rfl
          | some o => have := s0 D o e; rw [n6] at this; cases this
        exact ⟨acc, M0, va, i6, n0, ga.sub s0, m5.sub s0, d6, r2.go gb.h⟩
  · refine .inl ⟨rl2 (by omega), ?_⟩
    have q2 := hst (by omega) D n2
    have gg := g1.trans g2
    refine k _ _ _ H2 q2 ⟨gg.h, fun a ha na => ?_, gg.fm⟩ rep_ref fun a o e => ?_
    · by_cases z : a = D
      · subst z
        cases ea : H a with
        | none => exact absurd ea ha
        | some o => exact absurd hD (g1.h.dom a ha)
      · rw [put_ne z]
        exact gg.fr a ha na
    · by_cases z : a = D
      · subst z
        rw [put_same] at e
        cases e
        exact ⟨va, d2, r2⟩
      · rw [put_ne z] at e
        exact m2 a o e
section
variable {Y : Cy} {elt tg iter : Expr} {ifs : List Expr} {scope : Scope} {own : List (Str × Nat)} {pos : Pos} {wi : WI} {g : WG} {tt : WT} {te : WE}
/-- the context within a comprehension's block -/
abbrev Cy.blk (Y : Cy) (s : Shared) (H : Hp) (scope : Scope) (C : Addr) (cl : List (Str × Addr)) (fp : List Addr) : Cy := { Y with X := Y.X.blk s H scope (compEnvC scope cl C Y.X.env) fp }
theorem q_lc (own : List (Str × Nat)) (hc : Y.X.calm = true) (hN : Y.X.N.Nodup) (hi : QI Y tg iter wi) (ok : BlkOk Y.X.N Y.X.env.scope scope own)
    (hg : ∀ (s : Shared) (H : Hp) (C : Addr) (cl : List (Str × Addr)) (fp : List Addr), QGv (Y.blk s H scope C cl fp) (own.map (·.2)) tg g)
    (ht : ∀ (s : Shared) (H : Hp) (C : Addr) (cl : List (Str × Addr)) (fp : List Addr), QTs (Y.blk s H scope C cl fp) ifs tt)
    (he : ∀ (s : Shared) (H : Hp) (C : Addr) (cl : List (Str × Addr)) (fp : List Addr), QE (Y.blk s H scope C cl fp) elt te)
    (hs : ∀ x, foldedSetIterable iter Y.X.env x = pure x := by intro _; rfl) : QE Y (.ListComp elt [⟨tg, iter, ifs, 0⟩] scope pos) (wLc wi g tt te (own.map (·.2))) :=
  PE_imp (pe_lc (g := upGv Y.b (own.map fun (q : Str × Nat) => q.2) g) (tt := upT Y.b tt) (te := upE Y.b te) hc hN hi ok hg ht he hs) fun _ _ _ h => up_lc h
/-- name = [..] on one line -/
theorem qs_setLc {i : Nat} {y : Str} {py spos : Pos} (own : List (Str × Nat)) (hc : Y.X.calm = true) (hN : Y.X.N.Nodup) (hi : QI Y tg iter wi) (ok : BlkOk Y.X.N Y.X.env.scope scope own)
    (hg : ∀ (s : Shared) (H : Hp) (C : Addr) (cl : List (Str × Addr)) (fp : List Addr), QGv (Y.blk s H scope C cl fp) (own.map (·.2)) tg g)
    (ht : ∀ (s : Shared) (H : Hp) (C : Addr) (cl : List (Str × Addr)) (fp : List Addr), QTs (Y.blk s H scope C cl fp) ifs tt)
    (he : ∀ (s : Shared) (H : Hp) (C : Addr) (cl : List (Str × Addr)) (fp : List Addr), QE (Y.blk s H scope C cl fp) elt te)
    (hy : Y.X.N[i]? = some y := by rfl) (hyl : Y.X.env.scope.names.lookup y = some .local := by rfl) (hsw : swapsWith (.ListComp elt [⟨tg, iter, ifs, 0⟩] scope pos) (some (.Name y py)) spos.line Y.X.env = pure true := by exact sw_true rfl rfl rfl (by decide +kernel))
    (hs : ∀ x, foldedSetIterable iter Y.X.env x = pure x := by intro _; rfl) : QS Y (.Assign [.Name y py] (.ListComp elt [⟨tg, iter, ifs, 0⟩] scope pos) spos) (wSet i (wLc wi g tt te (own.map (·.2)))) :=
  PS_imp (ps_setLc (g := upGv Y.b (own.map fun (q : Str × Nat) => q.2) g) (tt := upT Y.b tt) (te := upE Y.b te) hc hN hy hyl hsw hi ok hg ht he hs) fun D σ H ⟨ρ, M, DW, so, q, k1, _⟩ => by
    have u : upE Y.b (wLc wi g tt te (own.map (·.2))) σ H (fun v H1 => D.nx (σ.set i (some v)) H1) := ⟨ρ, M, _, so, q, fun w M1 v H1 q1 g r m => k1 _ M1 _ H1 q1 g ((so.step g m).set r)⟩
    exact up_lc u
end

/-! ### defs -/
abbrev XKW := Value → Me → Prop
/-- a promise: the arguments, the memory, the wanted end, the wanted exception -/
abbrev PSp := List W → Me → WK → XKW → Prop
def upSp (B : Kx) (sp : PSp) : Sp := fun vs H Q E => ∃ ws M Qw Ew, Reps B.K H ws vs ∧ Mo B H M ∧ sp ws M Qw Ew ∧ (∀ w M' v H', Qw w M' → Go H M H' M' → Rep B.K H' w v → Mo B H' M' → Q v H') ∧ (∀ x M' H', Ew x M' → Go H M H' M' → Mo B H' M' → E x none H')
/-- a def of the module that keeps a promise at a level -/
structure Dk (B : Kx) (mg : Str → Option Value) (base : Heap) (k : Nat) (x : Str) (ps : List Str) (sp : PSp) : Prop where
  ok : ∃ f fd, mg x = some (.ref f) ∧ PySem.W.keepIn B.K (.ref f) = true ∧ Binds B.K fd ps [] ∧ FnOk B.P B.w B.K mg base CX0 k f fd ps (upSp B sp)
theorem Dk.mono {B : Kx} {mg : Str → Option Value} {base : Heap} {j k : Nat} {x : Str} {ps : List Str} {sp : PSp} (d : Dk B mg base j x ps sp) (h : j ≤ k) : Dk B mg base k x ps sp := by
  obtain ⟨f, fd, h1, h2, h3, h4⟩ := d.ok
  exact ⟨f, fd, h1, h2, h3, h4.mono h⟩
section
variable {Y : Cy} {k : Nat} {x : Str} {p pos : Pos} {ps : List Str} {sp : PSp} {e : Expr} {es : List Expr} {t : WA}
def noX : XKW := fun _ _ => False
def wFn (sp : PSp) (t : WA) : WE := fun ρ M Q => t ρ M fun ws M1 => sp ws M1 Q noX
theorem up_fn {E : XK} {σ : L2.St} {H : Hp} {Q : VK} (h : upE Y.b (wFn sp t) σ H Q) : tCall (upSp Y.X.kx sp) [] E (upA Y.b t) σ H Q := by
  obtain ⟨ρ, M, Qw, so, q, k⟩ := h
  refine ⟨ρ, M, _, so, q, fun ws M1 vs H1 q1 g1 rs m1 => ?_⟩
  show upSp Y.X.kx sp (vs ++ []) H1 Q E
  rw [List.append_nil]
  exact ⟨ws, M1, Qw, noX, rs, m1, q1, fun w M2 v H2 q2 g2 r m => k w M2 v H2 q2 (g1.trans g2) r m, fun _ _ _ z => z.elim⟩
theorem q_fn (d : Dk Y.X.kx Y.X.mg Y.X.base k x ps sp) (hr : Room k Y.X.A) (hg : Gl Y.X x) (ha : QA Y (e :: es) t) (hdb : (x == ("__debug__" : Str)) = false := by decide)
    (he : starEach (e :: es) Y.X.env = (false, eval e Y.X.env) :: starEach es Y.X.env := by rfl) (hpl : (backTo pos (starEach es Y.X.env)).any (·.1) = false := by rfl) : QE Y (.Call (.Name x p) (e :: es) [] pos) (wFn sp t) := by
  obtain ⟨f, fd, h1, h2, h3, h4⟩ := d.ok
  exact PE_imp (pe_call h4 hr hg h1 h2 h3 .nil pass0 ha hdb he hpl) fun _ _ _ h => up_fn h
theorem q_fn0 (d : Dk Y.X.kx Y.X.mg Y.X.base k x ps sp) (hr : Room k Y.X.A) (hg : Gl Y.X x) (hdb : (x == ("__debug__" : Str)) = false := by decide) : QE Y (.Call (.Name x p) [] [] pos) (wFn sp wNil) := by
  obtain ⟨f, fd, h1, h2, h3, h4⟩ := d.ok
  refine PE_imp (pe_call0 h4 hr hg h1 h2 h3 .nil pass0 hdb) fun σ H Q h => ?_
  have z := up_fn (E := E0) h
  show upSp Y.X.kx sp ([] ++ []) H Q E0
  obtain ⟨ρ, M, Qw, so, q, k⟩ := h
  exact ⟨[], M, Qw, noX, Reps.nil, so.mo, q, fun w M2 v H2 q2 g2 r m => k w M2 v H2 q2 g2 r m, fun _ _ _ z => z.elim⟩
end
/-- the slots at a def's start -/
def wStart (N : List Str) (ws : List W) : En := ws.map some ++ List.replicate (N.length - ws.length) none
/-- what is wanted at a body's end -/
def wEnd (Q : WK) : Eds := { nx := fun _ M' => ∃ M0, Sub M0 M' ∧ Q .non M0, rt := fun w M' => ∃ M0, Sub M0 M' ∧ Q w M0 }
section
variable {P : Program} {w : World} {K : PySem.W.Frag} {mg : Str → Option Value} {base : Heap}
/-- the context of a def's body -/
abbrev fnCy (P : Program) (w : World) (K : PySem.W.Frag) (mg : Str → Option Value) (base : Heap) (N : List Str) (qual : Str) (st : Stmt) (f : Addr) (cdv : Value) (A : Around) (outer : List Env) (s : Shared) (H : Hp) (E : XK) (M : Me) : Cy :=
  ⟨(cxOf CX0 P w K mg base N qual (defScope st) f cdv A outer s H E).nox, H, M⟩
/-- a def: its body's derivation and its reading -/
theorem fn_ok {x qual : Str} {st : Stmt} {f : Addr} {fd : FuncData} {N ps : List Str} {k : Nat} {sp : PSp} {t : WS} (F : Fun K x qual st f fd) (S : FnScope N ps (defScope st)) (len : ∀ ws M Q E, sp ws M Q E → ws.length = ps.length)
    (body : ∀ (cdv : Value) (A : Around) (outer : List Env) (s : Shared) (H : Hp) (E : XK) (M : Me), Room k (A.deeper (envOfC qual (defScope st) s.heap.objs.size f cdv)) → QSs (fnCy P w K mg base N qual st f cdv A outer s H E M) (defBody st) t)
    (rd : ∀ ws M Q E, sp ws M Q E → t (wEnd Q) (wStart N ws) M) : FnOk P w K mg base CX0 (k + 1) f fd ps (upSp ⟨P, w, K⟩ sp) := by
  refine F.ok S (fun vs H Q E ⟨ws, M, Qw, Ew, rs, _, h, _⟩ => by rw [rs.length]; exact len _ _ _ _ h) (fun cdv A outer s H vs Q E hr h => ?_)
  obtain ⟨ws, M, Qw, Ew, rs, m, h, k1, _⟩ := h
  refine ⟨_, body cdv A outer s H E M hr, wStart N ws, M, wEnd Qw, ⟨fun i y e => ?_, ?_, m, Go.refl _ _⟩, rd ws M Qw Ew h, fun ρ' M' σ' H' ⟨M0, s0, q⟩ g so => k1 .non M0 .non H' q (g.sub s0) rep_non (so.mo.sub s0),
    fun y M' v H' ⟨M0, s0, q⟩ g r m' => k1 y M0 v H' q (g.sub s0) r (m'.sub s0), fun _ _ _ _ z => z.elim, fun _ _ _ _ z => z.elim⟩
  · unfold wStart at e
    by_cases hi : i < ws.length
    · rw [List.getElem?_append_left (by simpa using hi), List.getElem?_map] at e
      cases q : ws[i]? with
      | none => rw [q] at e; cases e
      | some z =>
        rw [q] at e
        have e' : z = y := by simpa using e
        subst e'
        obtain ⟨v, h1, h2⟩ := rs.get q
        refine ⟨v, ?_, h2⟩
        unfold L2.start
        rw [List.getElem?_append_left (by rw [List.length_map]; exact (List.getElem?_eq_some_iff.mp h1).1), List.getElem?_map, h1]
        rfl
    · rw [List.getElem?_append_right (by simpa using hi)] at e
      by_cases hj : i - (ws.map some).length < N.length - ws.length
      · rw [List.getElem?_replicate] at e
        rw [if_pos hj] at e
        cases e
      · rw [List.getElem?_replicate, if_neg hj] at e
        cases e
  · unfold wStart L2.start
    rw [List.length_append, List.length_append, List.length_map, List.length_map, List.length_replicate, List.length_replicate, rs.length]
end
end PV
set_option maxHeartbeats 1000000
/-! PV: operators, comparisons, subscripts, built-ins. -/
namespace PV
open PySem PySem.Spec PyProof.Rows L2

section
variable {X : Cx} {B : Kx} {K : PySem.W.Frag} {H : Hp} {M : Me}
/-- one more alternative -/
theorem OpW.or {f : Value → Value → Sem Value} {r r' r'' : R2W} (h : OpW X f r) (h' : OpW X f r') (i : ∀ x y M Q, r'' x y M Q → r x y M Q ∨ r' x y M Q) : OpW X f r'' :=
  OpR_imp (OpR.or h h') fun x y H Q ⟨wx, wy, M, Qw, rx, ry, m, q, k⟩ => (i wx wy M Qw q).elim (fun q => .inl ⟨wx, wy, M, Qw, rx, ry, m, q, k⟩) fun q => .inr ⟨wx, wy, M, Qw, rx, ry, m, q, k⟩
theorem OpW.imp {f : Value → Value → Sem Value} {r r'' : R2W} (h : OpW X f r) (i : ∀ x y M Q, r'' x y M Q → r x y M Q) : OpW X f r'' :=
  OpR_imp h fun x y H Q ⟨wx, wy, M, Qw, rx, ry, m, q, k⟩ => ⟨wx, wy, M, Qw, rx, ry, m, i wx wy M Qw q, k⟩
theorem CallW.or {f : Value} {r r' r'' : RLW} (h : CallW X f r) (h' : CallW X f r') (i : ∀ x M Q, r'' x M Q → r x M Q ∨ r' x M Q) : CallW X f r'' :=
  CallR_imp (CallR.or h h') fun xs H Q ⟨ws, M, Qw, rx, m, q, k⟩ => (i ws M Qw q).elim (fun q => .inl ⟨ws, M, Qw, rx, m, q, k⟩) fun q => .inr ⟨ws, M, Qw, rx, m, q, k⟩
/-! ### whole numbers -/
def r2I (C : Int → Int → Prop) (g : Int → Int → W) : R2W := fun x y M Q => match x, y with
  | .int i, .int j => C i j ∧ Q (g i j) M
  | _, _ => False
theorem op2I {f : Value → Value → Sem Value} {C : Int → Int → Prop} {g : Int → Int → Int} (h : OpR X f (rI C fun i j => .int (g i j))) : OpW X f (r2I C fun i j => .int (g i j)) :=
  OpR_imp h fun x y H Q ⟨wx, wy, M, Qw, rx, ry, m, q, k⟩ => by
    unfold r2I at q
    split at q
    · rename_i i j
      exact ⟨i, j, un_int rx, un_int ry, q.1, k _ M _ H q.2 (Go.refl _ _) rep_int m⟩
    · exact q.elim
theorem op2I0 {f : Value → Value → Sem Value} {g : Int → Int → Int} (h : OpR X f (rI0 fun i j => .int (g i j))) : OpW X f (r2I (fun _ _ => True) fun i j => .int (g i j)) :=
  OpR_imp h fun x y H Q ⟨wx, wy, M, Qw, rx, ry, m, q, k⟩ => by
    unfold r2I at q
    split at q
    · rename_i i j
      exact ⟨i, j, un_int rx, un_int ry, k _ M _ H q.2 (Go.refl _ _) rep_int m⟩
    · exact q.elim
theorem op2B0 {f : Value → Value → Sem Value} {g : Int → Int → Bool} (h : OpR X f (rI0 fun i j => .bl (g i j))) : OpW X f (r2I (fun _ _ => True) fun i j => .bl (g i j)) :=
  OpR_imp h fun x y H Q ⟨wx, wy, M, Qw, rx, ry, m, q, k⟩ => by
    unfold r2I at q
    split at q
    · rename_i i j
      exact ⟨i, j, un_int rx, un_int ry, k _ M _ H q.2 (Go.refl _ _) rep_bl m⟩
    · exact q.elim
/-- a product's, a quotient's bound -/
def MulOk (i j : Int) : Prop := CMul i j ∨ CMulW i j
theorem MulOk.left {i j : Int} (h1 : -(2 ^ 64) < i) (h2 : i < 2 ^ 64) : MulOk i j := .inl (.inl ⟨h1, h2⟩)
theorem MulOk.right {i j : Int} (h1 : -(2 ^ 64) < j) (h2 : j < 2 ^ 64) : MulOk i j := .inl (.inr ⟨h1, h2⟩)
def DivOk (_ j : Int) : Prop := 0 < j ∧ j < 2 ^ 64
theorem DivOk.w {i j : Int} (h : DivOk i j) : CDivW i j := by
  obtain ⟨h1, h2⟩ := h
  exact wide_div (b := 64) h1 (by omega) (by decide) (by decide)

/-! ### + -/
def rAdd2 : R2W := fun x y M Q => match x, y with
  | .int i, .int j => Q (.int (i + j)) M
  | .str a, .str b => a.length + b.length ≤ sizeLine ∧ Q (.str (a ++ b)) M
  | .tup xs, .tup ys => xs.length + ys.length ≤ sizeLine ∧ Q (.tup (xs ++ ys)) M
  | .ref a, .ref b => match M a, M b with
    | some (.lst xs), some (.lst ys) => xs.length + ys.length ≤ sizeLine ∧ ∀ p, M p = none → Q (.ref p) (put M p (.lst (xs ++ ys)))
    | _, _ => False
  | _, _ => False
theorem wop_addS : OpW X (binaryOp .Add) fun x y M Q => ∃ a b, x = .str a ∧ y = .str b ∧ a.length + b.length ≤ sizeLine ∧ Q (.str (a ++ b)) M :=
  OpR_imp op_add_str fun x y H Q ⟨wx, wy, M, Qw, rx, ry, m, ⟨a, b, ex, ey, h, q⟩, k⟩ => by
    subst ex ey
    exact ⟨a, b, un_str rx, un_str ry, h, k _ M _ H q (Go.refl _ _) rep_str m⟩
theorem wop_addT : OpW X (binaryOp .Add) fun x y M Q => ∃ xs ys, x = .tup xs ∧ y = .tup ys ∧ xs.length + ys.length ≤ sizeLine ∧ Q (.tup (xs ++ ys)) M :=
  OpR_imp op_catA fun x y H Q ⟨wx, wy, M, Qw, rx, ry, m, ⟨xs, ys, ex, ey, h, q⟩, k⟩ => by
    subst ex ey
    obtain ⟨a, vs, e1, s1, r1⟩ := rx.untup
    obtain ⟨b, us, e2, s2, r2⟩ := ry.untup
    refine ⟨a, b, vs, us, e1, e2, s1, s2, by rw [r1.length, r2.length]; exact h, fun e => ?_, fun n e => ?_, fun n1 n2 p hp => ?_⟩
    · subst e
      have e3 : xs = [] := List.eq_nil_of_length_eq_zero (by rw [← r1.length]; rfl)
      subst e3
      exact k _ M _ H q (Go.refl _ _) (Rep.tup s2 (by simpa using r2)) m
    · subst e
      have e3 : ys = [] := List.eq_nil_of_length_eq_zero (by rw [← r2.length]; rfl)
      subst e3
      exact k _ M _ H q (Go.refl _ _) (Rep.tup s1 (by simpa using r1)) m
    · have g := GoH.new (o := .tup (vs ++ us)) hp
      exact k _ M _ _ q (Go.same (sameNew hp)) (Rep.tup (SqT.of upd_same) ((r1.go g).append (r2.go g))) (m.new hp)
theorem wop_addL : OpW X (binaryOp .Add) fun x y M Q => ∃ a b xs ys, x = .ref a ∧ y = .ref b ∧ M a = some (.lst xs) ∧ M b = some (.lst ys) ∧ xs.length + ys.length ≤ sizeLine ∧ ∀ p, M p = none → Q (.ref p) (put M p (.lst (xs ++ ys))) :=
  OpR_imp op_cat fun x y H Q ⟨wx, wy, M, Qw, rx, ry, m, ⟨a, b, xs, ys, ex, ey, ha, hb, h, q⟩, k⟩ => by
    subst ex ey
    obtain ⟨vs, h1, r1⟩ := m a _ ha
    obtain ⟨us, h2, r2⟩ := m b _ hb
    refine ⟨a, b, vs, us, un_ref rx, un_ref ry, h1, h2, by rw [r1.length, r2.length]; exact h, fun p hp => ?_⟩
    have g := GoH.new (o := .lst (vs ++ us)) hp
    exact k _ _ _ _ (q p (m.free hp)) (Go.new hp) rep_ref (m.put g ⟨_, upd_same, (r1.go g).append (r2.go g)⟩)
theorem w_add : OpW X (binaryOp .Add) rAdd2 :=
  OpW.or (op2I0 op_add) (OpW.or wop_addS (OpW.or wop_addT wop_addL (r'' := fun x y M Q => (∃ xs ys, x = .tup xs ∧ y = .tup ys ∧ xs.length + ys.length ≤ sizeLine ∧ Q (.tup (xs ++ ys)) M) ∨ _) fun _ _ _ _ h => h) (r'' := fun x y M Q => _ ∨ _) fun _ _ _ _ h => h) fun x y M Q h => by
    unfold rAdd2 at h
    split at h
    · exact .inl ⟨trivial, h⟩
    · exact .inr (.inl ⟨_, _, rfl, rfl, h.1, h.2⟩)
    · exact .inr (.inr (.inl ⟨_, _, rfl, rfl, h.1, h.2⟩))
    · split at h
      · rename_i e1 e2
        exact .inr (.inr (.inr ⟨_, _, _, _, rfl, rfl, e1, e2, h.1, h.2⟩))
      · exact h.elim
    · exact h.elim
/-! ### -, *, //, %, **, << -/
def rSub2 : R2W := fun x y M Q => match x, y with
  | .int i, .int j => Q (.int (i - j)) M
  | _, _ => False
theorem w_sub : OpW X (binaryOp .Sub) rSub2 := (op2I0 op_sub).imp fun x y M Q h => by
  unfold rSub2 at h
  split at h
  · exact ⟨trivial, h⟩
  · exact h.elim
def rMul2 : R2W := fun x y M Q => match x, y with
  | .int i, .int j => MulOk i j ∧ Q (.int (i * j)) M
  | .tup xs, .int k => (k ≤ 1000 ∧ xs.length ≤ 1000 ∧ 2 ≤ k ∧ xs ≠ []) ∧ Q (.tup (List.replicate k.toNat xs).flatten) M
  | .ref a, .int k => match M a with
    | some (.lst xs) => (-(2 ^ 63) ≤ k ∧ k < 2 ^ 63 ∧ xs.length * k.toNat ≤ sizeLine) ∧ ∀ p, M p = none → Q (.ref p) (put M p (.lst (List.replicate k.toNat xs).flatten))
    | _ => False
  | _, _ => False
theorem wop_mulI : OpW X (binaryOp .Mult) (r2I MulOk fun i j => .int (i * j)) := OpW.or (op2I op_mul) (op2I op_mulW) fun x y M Q h => by
  unfold r2I at h
  split at h
  · rcases h.1 with c | c
    · exact .inl ⟨c, h.2⟩
    · exact .inr ⟨c, h.2⟩
  · exact h.elim
theorem wop_mulT : OpW X (binaryOp .Mult) fun x y M Q => ∃ xs k, x = .tup xs ∧ y = .int k ∧ (k ≤ 1000 ∧ xs.length ≤ 1000 ∧ 2 ≤ k ∧ xs ≠ []) ∧ Q (.tup (List.replicate k.toNat xs).flatten) M :=
  OpR_imp op_repT fun x y H Q ⟨wx, wy, M, Qw, rx, ry, m, ⟨xs, n, ex, ey, ⟨h1, h2, h3, h4⟩, q⟩, k⟩ => by
    subst ex ey
    obtain ⟨a, vs, e1, s1, r1⟩ := rx.untup
    refine ⟨a, n, vs, e1, un_int ry, s1, fun e => h4 ?_, h3, h1, by rw [r1.length]; exact h2, fun p hp => ?_⟩
    · subst e
      exact List.eq_nil_of_length_eq_zero (by rw [← r1.length]; rfl)
    · exact k _ M _ _ q (Go.same (sameNew hp)) (Rep.tup (SqT.of upd_same) ((r1.go (GoH.new hp)).rep _)) (m.new hp)
theorem wop_mulL : OpW X (binaryOp .Mult) fun x y M Q => ∃ a xs k, x = .ref a ∧ y = .int k ∧ M a = some (.lst xs) ∧ (-(2 ^ 63) ≤ k ∧ k < 2 ^ 63 ∧ xs.length * k.toNat ≤ sizeLine) ∧ ∀ p, M p = none → Q (.ref p) (put M p (.lst (List.replicate k.toNat xs).flatten)) :=
  OpR_imp op_rep fun x y H Q ⟨wx, wy, M, Qw, rx, ry, m, ⟨a, xs, n, ex, ey, ha, ⟨h1, h2, h3⟩, q⟩, k⟩ => by
    subst ex ey
    obtain ⟨vs, e1, r1⟩ := m a _ ha
    refine ⟨a, n, vs, un_ref rx, un_int ry, e1, h1, h2, by rw [r1.length]; exact h3, fun p hp => ?_⟩
    have g := GoH.new (o := .lst (List.replicate n.toNat vs).flatten) hp
    exact k _ _ _ _ (q p (m.free hp)) (Go.new hp) rep_ref (m.put g ⟨_, upd_same, (r1.go g).rep _⟩)
theorem w_mul : OpW X (binaryOp .Mult) rMul2 :=
  OpW.or wop_mulI (OpW.or wop_mulT wop_mulL (r'' := fun x y M Q => _ ∨ _) fun _ _ _ _ h => h) fun x y M Q h => by
    unfold rMul2 at h
    split at h
    · exact .inl h
    · exact .inr (.inl ⟨_, _, rfl, rfl, h.1, h.2⟩)
    · split at h
      · rename_i e1
        exact .inr (.inr ⟨_, _, _, rfl, rfl, e1, h.1, h.2⟩)
      · exact h.elim
    · exact h.elim
def rDiv2 : R2W := fun x y M Q => match x, y with
  | .int i, .int j => DivOk i j ∧ Q (.int (i / j)) M
  | _, _ => False
theorem w_fdiv : OpW X (binaryOp .FloorDiv) rDiv2 := (op2I op_fdivW).imp fun x y M Q h => by
  unfold rDiv2 at h
  split at h
  · exact ⟨h.1.w, h.2⟩
  · exact h.elim
def rMod2 : R2W := fun x y M Q => match x, y with
  | .int i, .int j => 0 < j ∧ Q (.int (i % j)) M
  | _, _ => False
theorem w_mod : OpW X (binaryOp .Mod) rMod2 := (op2I op_mod).imp fun x y M Q h => by
  unfold rMod2 at h
  split at h
  · exact h
  · exact h.elim
def rPow2 : R2W := fun x y M Q => match x, y with
  | .int i, .int j => CPow i j ∧ Q (.int (i ^ j.toNat)) M
  | _, _ => False
theorem w_pow : OpW X (binaryOp .Pow) rPow2 := (op2I op_pow).imp fun x y M Q h => by
  unfold rPow2 at h
  split at h
  · exact h
  · exact h.elim
def rShl2 : R2W := fun x y M Q => match x, y with
  | .int i, .int j => CPow i j ∧ Q (.int (i * 2 ^ j.toNat)) M
  | _, _ => False
theorem w_shl : OpW X (binaryOp .LShift) rShl2 := (op2I op_shl).imp fun x y M Q h => by
  unfold rShl2 at h
  split at h
  · exact h
  · exact h.elim
def rShr2 : R2W := fun x y M Q => match x, y with
  | .int i, .int j => 0 ≤ j ∧ Q (.int (i / 2 ^ j.toNat)) M
  | _, _ => False
theorem w_shr : OpW X (binaryOp .RShift) rShr2 := (op2I op_shr).imp fun x y M Q h => by
  unfold rShr2 at h
  split at h
  · exact h
  · exact h.elim
def rNeg1 : R1W := fun x M Q => match x with
  | .int i => Q (.int (-i)) M
  | _ => False
theorem w_neg : UnW X (unaryOp .USub) rNeg1 := UnR_imp un_neg fun x H Q ⟨wx, M, Qw, rx, m, q, k⟩ => by
  unfold rNeg1 at q
  split at q
  · rename_i i
    exact ⟨i, un_int rx, k _ M _ H q (Go.refl _ _) rep_int m⟩
  · exact q.elim
def rIAdd2 : R2W := fun x y M Q => match x, y with
  | .int i, .int j => Q (.int (i + j)) M
  | .str a, .str b => a.length + b.length ≤ sizeLine ∧ Q (.str (a ++ b)) M
  | _, _ => False
theorem w_iadd : OpW X (inplaceOp .Add) rIAdd2 := OpW.or (op2I0 iop_add) (r' := fun x y M Q => ∃ a b, x = .str a ∧ y = .str b ∧ a.length + b.length ≤ sizeLine ∧ Q (.str (a ++ b)) M)
  (OpR_imp iop_add_str fun x y H Q ⟨wx, wy, M, Qw, rx, ry, m, ⟨a, b, ex, ey, h, q⟩, k⟩ => by
    subst ex ey
    exact ⟨a, b, un_str rx, un_str ry, h, k _ M _ H q (Go.refl _ _) rep_str m⟩) fun x y M Q h => by
  unfold rIAdd2 at h
  split at h
  · exact .inl ⟨trivial, h⟩
  · exact .inr ⟨_, _, rfl, rfl, h.1, h.2⟩
  · exact h.elim
theorem w_isub : OpW X (inplaceOp .Sub) rSub2 := (op2I0 iop_sub).imp fun x y M Q h => by
  unfold rSub2 at h
  split at h
  · exact ⟨trivial, h⟩
  · exact h.elim
theorem w_imul : OpW X (inplaceOp .Mult) (r2I CMul fun i j => .int (i * j)) := op2I iop_mul

/-! ### data -/
mutual
/-- a value without addresses, as data -/
def pd : W → PyData
  | .non => .none
  | .bl b => .bool b
  | .int i => .int i
  | .str x => .str x
  | .ref _ => .none
  | .cl _ => .none
  | .tup ws => .tuple (pds ws)
def pds : List W → List PyData
  | [] => []
  | w :: ws => pd w :: pds ws
end
mutual
def nr : W → Bool
  | .ref _ => false
  | .cl _ => false
  | .str x => PyData.strOk x
  | .tup ws => nrs ws
  | _ => true
def nrs : List W → Bool
  | [] => true
  | w :: ws => nr w && nrs ws
end
/-- values as data, with the lists that are live -/
def Dw (M : Me) : PyData → W → Prop
  | .none, w => w = .non
  | .bool b, w => w = .bl b
  | .int i, w => w = .int i
  | .str x, w => w = .str x
  | .tuple ds, w => ∃ ws, w = .tup ws ∧ Dws ds ws
  | .list ds, w => ∃ a ws, w = .ref a ∧ rdl (M a) = some ws ∧ Dws ds ws
  | .dict _, _ => False
where Dws : List PyData → List W → Prop
  | [], ws => ws = []
  | d :: ds, ws => ∃ w r, ws = w :: r ∧ Dw M d w ∧ Dws ds r
mutual
theorem pd_dw {M : Me} : ∀ w : W, nr w = true → Dw M (pd w) w
  | .non, _ => by unfold pd Dw; rfl
  | .bl _, _ => by unfold pd Dw; rfl
  | .int _, _ => by unfold pd Dw; rfl
  | .str _, _ => by unfold pd Dw; rfl
  | .ref _, h => by unfold nr at h; cases h
  | .cl _, h => by unfold nr at h; cases h
  | .tup ws, h => by unfold pd Dw; exact ⟨ws, rfl, pds_dw ws (by unfold nr at h; exact h)⟩
theorem pds_dw {M : Me} : ∀ ws : List W, nrs ws = true → Dw.Dws M (pds ws) ws
  | [], _ => by unfold pds Dw.Dws; rfl
  | w :: ws, h => by
    unfold nrs at h
    rw [Bool.and_eq_true] at h
    unfold pds Dw.Dws
    exact ⟨w, ws, rfl, pd_dw w h.1, pds_dw ws h.2⟩
end
mutual
theorem dw_dp {M : Me} (m : Mo B H M) : ∀ (d : PyData) (w : W) (v : V), Dw M d w → Rep B.K H w v → Dp B.K H v d
  | .none, w, v, h, r => by unfold Dw at h; subst h; rw [un_non r]; exact .non
  | .bool b, w, v, h, r => by unfold Dw at h; subst h; rw [un_bl r]; exact .bl b
  | .int i, w, v, h, r => by unfold Dw at h; subst h; rw [un_int r]; exact .int i
  | .str x, w, v, h, r => by unfold Dw at h; subst h; rw [un_str r]; exact .str x
  | .tuple ds, w, v, h, r => by
    unfold Dw at h
    obtain ⟨ws, e, hs⟩ := h
    subst e
    obtain ⟨a, vs, e, s, rs⟩ := r.untup
    subst e
    exact .tup s (dws_dp m ds ws vs hs rs)
  | .list ds, w, v, h, r => by
    unfold Dw at h
    obtain ⟨a, ws, e, hr, hs⟩ := h
    subst e
    rw [un_ref r]
    obtain ⟨vs, s, rs⟩ := rdl_sq m hr
    exact .lst s (dws_dp m ds ws vs hs rs)
  | .dict _, w, v, h, r => by unfold Dw at h; exact h.elim
theorem dws_dp {M : Me} (m : Mo B H M) : ∀ (ds : List PyData) (ws : List W) (vs : List V), Dw.Dws M ds ws → Reps B.K H ws vs → DpAll B.K H vs ds
  | [], ws, vs, h, r => by
    unfold Dw.Dws at h
    subst h
    rw [r.unnil]
    exact .nil
  | d :: ds, ws, vs, h, r => by
    unfold Dw.Dws at h
    obtain ⟨w, wr, e, h1, h2⟩ := h
    subst e
    obtain ⟨v, vr, e, r1, r2⟩ := r.uncons
    subst e
    exact .cons (dw_dp m d w v h1 r1) (dws_dp m ds wr vr h2 r2)
end
mutual
theorem nr_lay : ∀ w : W, nr w = true → (pd w).canLay0 = true
  | .non, _ => by simp [pd, PyData.canLay0]
  | .bl _, _ => by simp [pd, PyData.canLay0]
  | .int _, _ => by simp [pd, PyData.canLay0]
  | .str _, h => by
    unfold nr at h
    simpa [pd, PyData.canLay0] using h
  | .ref _, _ => by simp [pd, PyData.canLay0]
  | .cl _, _ => by simp [pd, PyData.canLay0]
  | .tup ws, h => by
    unfold nr at h
    unfold pd
    simp only [PyData.canLay0]
    exact nrs_lay ws h
theorem nrs_lay : ∀ ws : List W, nrs ws = true → PyData.canLayAll0 (pds ws) = true
  | [], _ => by simp [pds, PyData.canLayAll0]
  | w :: ws, h => by
    unfold nrs at h
    rw [Bool.and_eq_true] at h
    unfold pds
    simp only [PyData.canLayAll0, nr_lay w h.1, nrs_lay ws h.2, Bool.and_self]
end
mutual
def dp : W → Nat
  | .tup ws => dps ws + 1
  | _ => 0
def dps : List W → Nat
  | [] => 0
  | w :: ws => max (dp w) (dps ws)
end
mutual
theorem dp_depth : ∀ w : W, (pd w).depth = dp w
  | .non => by simp [pd, PyData.depth, dp]
  | .bl _ => by simp [pd, PyData.depth, dp]
  | .int _ => by simp [pd, PyData.depth, dp]
  | .str _ => by simp [pd, PyData.depth, dp]
  | .ref _ => by simp [pd, PyData.depth, dp]
  | .cl _ => by simp [pd, PyData.depth, dp]
  | .tup ws => by
    unfold pd dp
    simp only [PyData.depth, dps_depth ws]
    try omega
theorem dps_depth : ∀ ws : List W, PyData.depthAll (pds ws) = dps ws
  | [] => by simp [pds, PyData.depthAll, dps]
  | w :: ws => by
    unfold pds dps
    simp only [PyData.depthAll, dp_depth w, dps_depth ws]
end
/-- plain data: no address, not too deep -/
def flt (w : W) : Bool := nr w && decide (dp w ≤ 60)
def flts (ws : List W) : Bool := nrs ws && decide (dps ws ≤ 60)
theorem flt_shaped {w : W} (h : flt w = true) : SeqAt.shaped (pd w) = true := by
  unfold flt at h
  rw [Bool.and_eq_true, decide_eq_true_eq] at h
  show ((pd w).canLay0 && decide ((pd w).depth ≤ 64)) = true
  rw [nr_lay w h.1, dp_depth w, decide_eq_true (by omega)]
  rfl
theorem flts_shaped {ws : List W} (h : flts ws = true) : SeqAt.shaped (.list (pds ws)) = true := by
  unfold flts at h
  rw [Bool.and_eq_true, decide_eq_true_eq] at h
  show (PyData.canLay0 (.list (pds ws)) && decide (PyData.depth (.list (pds ws)) ≤ 64)) = true
  simp only [PyData.canLay0, PyData.depth, nrs_lay ws h.1, dps_depth ws, Bool.true_and, decide_eq_true_eq]
  omega
/-- == of plain data -/
def weq (x y : W) : Bool := PyData.eqv (pd x) (pd y)
def weqs (xs ys : List W) : Bool := PyData.eqvAll (pds xs) (pds ys)
/-- == -/
def rEqS (M : Me) (x y : W) (Q : Bool → Prop) : Prop := match x, y with
  | .int i, .int j => Q (decide (i = j))
  | .bl a, .bl b => Q (decide (a = b))
  | .str a, .str b => Q (decide (a = b))
  | .ref a, .ref b => match rdl (M a), rdl (M b) with
    | some xs, some [] => Q xs.isEmpty
    | some xs, some ys => (flts xs && flts ys) = true ∧ Q (weqs xs ys)
    | _, _ => False
  | x, y => (flt x && flt y) = true ∧ Q (weq x y)
def rEq2 : R2W := fun x y M Q => rEqS M x y fun b => Q (.bl b) M
def rNe2 : R2W := fun x y M Q => rEqS M x y fun b => Q (.bl (!b)) M
/-- == told by any data -/
def rEqD2 : R2W := fun x y M Q => ∃ d e, Dw M d x ∧ Dw M e y ∧ SeqAt.shaped d = true ∧ SeqAt.shaped e = true ∧ Q (.bl (PyData.eqv d e)) M
def rNeD2 : R2W := fun x y M Q => ∃ d e, Dw M d x ∧ Dw M e y ∧ SeqAt.shaped d = true ∧ SeqAt.shaped e = true ∧ Q (.bl (!PyData.eqv d e)) M
theorem w_eqD (hu : X.A.units + 64 < cLine) : OpW X (compareOp .Eq) rEqD2 := OpR_imp (op_eqD hu) fun x y H Q ⟨wx, wy, M, Qw, rx, ry, m, ⟨d, e, h1, h2, s1, s2, q⟩, k⟩ =>
  ⟨d, e, dw_dp m d wx x h1 rx, dw_dp m e wy y h2 ry, s1, s2, k _ M _ H q (Go.refl _ _) rep_bl m⟩
theorem w_neD (hu : X.A.units + 64 < cLine) : OpW X (compareOp .NotEq) rNeD2 := OpR_imp (op_neD hu) fun x y H Q ⟨wx, wy, M, Qw, rx, ry, m, ⟨d, e, h1, h2, s1, s2, q⟩, k⟩ =>
  ⟨d, e, dw_dp m d wx x h1 rx, dw_dp m e wy y h2 ry, s1, s2, k _ M _ H q (Go.refl _ _) rep_bl m⟩
theorem eqS_D {M : Me} {x y : W} {Q : Bool → Prop} (h : rEqS M x y Q) : (∃ a b, x = .str a ∧ y = .str b ∧ Q (decide (a = b))) ∨ (∃ a xs, x = .ref a ∧ rdl (M a) = some xs ∧ ∃ b, y = .ref b ∧ rdl (M b) = some [] ∧ Q xs.isEmpty) ∨
    ∃ d e, Dw M d x ∧ Dw M e y ∧ SeqAt.shaped d = true ∧ SeqAt.shaped e = true ∧ Q (PyData.eqv d e) := by
  have sc : ∀ {d e : PyData} {q : Bool}, Dw M d x → Dw M e y → SeqAt.shaped d = true → SeqAt.shaped e = true → PyData.eqv d e = q → Q q → ∃ d e, Dw M d x ∧ Dw M e y ∧ SeqAt.shaped d = true ∧ SeqAt.shaped e = true ∧ Q (PyData.eqv d e) :=
    fun {d e q} h1 h2 h3 h4 h5 h6 => ⟨d, e, h1, h2, h3, h4, by rw [h5]; exact h6⟩
  unfold rEqS at h
  split at h
  · rename_i i j
    exact .inr (.inr (sc (d := .int i) (e := .int j) (by unfold Dw; rfl) (by unfold Dw; rfl) rfl rfl (by simp [PyData.eqv, Bool.beq_eq_decide_eq]) h))
  · rename_i i j
    exact .inr (.inr (sc (d := .bool i) (e := .bool j) (by unfold Dw; rfl) (by unfold Dw; rfl) rfl rfl (by simp [PyData.eqv, Bool.beq_eq_decide_eq]) h))
  · exact .inl ⟨_, _, rfl, rfl, h⟩
  · rename_i a b
    split at h
    · rename_i xs e1 e2
      exact .inr (.inl ⟨a, xs, rfl, e1, b, rfl, e2, h⟩)
    · rename_i xs ys _ e1 e2
      obtain ⟨hf, h⟩ := h
      rw [Bool.and_eq_true] at hf
      have n1 : nrs xs = true := by have := hf.1; unfold flts at this; rw [Bool.and_eq_true] at this; exact this.1
      have n2 : nrs ys = true := by have := hf.2; unfold flts at this; rw [Bool.and_eq_true] at this; exact this.1
      exact .inr (.inr (sc (d := .list (pds xs)) (e := .list (pds ys)) (by unfold Dw; exact ⟨a, xs, rfl, e1, pds_dw xs n1⟩) (by unfold Dw; exact ⟨b, ys, rfl, e2, pds_dw ys n2⟩) (flts_shaped hf.1) (flts_shaped hf.2) (by simp only [PyData.eqv]; rfl) h))
    · exact h.elim
  · obtain ⟨hf, h⟩ := h
    rw [Bool.and_eq_true] at hf
    have n1 : nr x = true := by have := hf.1; unfold flt at this; rw [Bool.and_eq_true] at this; exact this.1
    have n2 : nr y = true := by have := hf.2; unfold flt at this; rw [Bool.and_eq_true] at this; exact this.1
    exact .inr (.inr (sc (pd_dw x n1) (pd_dw y n2) (flt_shaped hf.1) (flt_shaped hf.2) rfl h))
/-- a list against the empty one -/
theorem empty_cmp {op : CmpOp} {f : Bool → Bool} (hu : X.A.units < cLine)
    (rE : ∀ {E : Value → Shared → Prop} {s : Shared} {l b : Addr} {i1 i2 : Array Value} {e : Nat → Bool} {Q : Value → Shared → Prop}, s.heap.IsList l i1 → s.heap.IsList b i2 → i1.size = i2.size → (∀ j (h1 : j < i1.size) (h2 : j < i2.size), SeqAt.EqAt X.A.in1 s i1[j] i2[j] (e j)) → Q (.bool (f ((List.range i1.size).all e))) s → wpAny (model X.prog X.w) X.A (compareOp op (.ref l) (.ref b)) Q E s)
    (rL : ∀ {E : Value → Shared → Prop} {s : Shared} {l b : Addr} {i1 i2 : Array Value} {Q : Value → Shared → Prop}, s.heap.IsList l i1 → s.heap.IsList b i2 → (i1.size != i2.size) = true → Q (.bool (f false)) s → wpAny (model X.prog X.w) X.A (compareOp op (.ref l) (.ref b)) Q E s) :
    OpW X (compareOp op) fun x y M Q => ∃ a xs, x = .ref a ∧ rdl (M a) = some xs ∧ ∃ b, y = .ref b ∧ rdl (M b) = some [] ∧ Q (.bl (f xs.isEmpty)) M := by
  intro pins s σ H x y v u Q I rx ry ⟨wx, wy, M, Qw, r1, r2, m, ⟨a, xs, e1, h1, b, e2, h2, q⟩, k⟩
  subst e1 e2
  have e3 := un_ref r1
  have e4 := un_ref r2
  subst e3 e4
  cases rx
  cases ry
  obtain ⟨vs, s1, rs1⟩ := rdl_sq m h1
  obtain ⟨us, s2, rs2⟩ := rdl_sq m h2
  obtain ⟨i1, v1, p1, _⟩ := I.list s1
  obtain ⟨i2, v2, p2, _⟩ := I.list s2
  have l1 := v1.length
  have l2 := v2.length
  rw [rs1.length] at l1
  rw [rs2.length] at l2
  have fin : ∀ c : Bool, c = xs.isEmpty → EP X pins σ Q (.bool (f c)) s := fun c hc => ⟨.bl (f c), H, I, rfl, k _ M _ H (by rw [hc]; exact q) (Go.refl _ _) rep_bl m⟩
  cases xs with
  | nil =>
    refine rE (e := fun _ => true) p1.isList p2.isList (by simpa using (l1.symm.trans l2)) (fun j h3 h4 => ?_) (fin _ ?_)
    · simp at h3 l1
      omega
    · simp at l1 ⊢
  | cons w ws =>
    refine rL p1.isList p2.isList ?_ (fin false rfl)
    rw [bne_iff_ne]
    simp at l1 l2 ⊢
    omega
theorem w_eqT : OpW X (compareOp .Eq) fun x y M Q => ∃ a b, x = .str a ∧ y = .str b ∧ Q (.bl (decide (a = b))) M :=
  OpR_imp op_eq fun x y H Q ⟨wx, wy, M, Qw, rx, ry, m, ⟨a, b, ex, ey, q⟩, k⟩ => by
    subst ex ey
    have e1 := un_str rx
    have e2 := un_str ry
    subst e1 e2
    have e : decide (V.str a = V.str b) = decide (a = b) := by
      by_cases z : a = b
      · subst z; simp
      · rw [decide_eq_false z, decide_eq_false (fun q => z (by injection q))]
    refine ⟨rfl, ?_⟩
    rw [e]
    exact k _ M _ H q (Go.refl _ _) rep_bl m
theorem w_neT : OpW X (compareOp .NotEq) fun x y M Q => ∃ a b, x = .str a ∧ y = .str b ∧ Q (.bl (!decide (a = b))) M :=
  OpR_imp op_ne fun x y H Q ⟨wx, wy, M, Qw, rx, ry, m, ⟨a, b, ex, ey, q⟩, k⟩ => by
    subst ex ey
    have e1 := un_str rx
    have e2 := un_str ry
    subst e1 e2
    have e : decide (V.str a = V.str b) = decide (a = b) := by
      by_cases z : a = b
      · subst z; simp
      · rw [decide_eq_false z, decide_eq_false (fun q => z (by injection q))]
    refine ⟨rfl, ?_⟩
    rw [e]
    exact k _ M _ H q (Go.refl _ _) rep_bl m
theorem w_eq (hu : X.A.units + 64 < cLine) : OpW X (compareOp .Eq) rEq2 :=
  OpW.or w_eqT (OpW.or (empty_cmp (f := fun c => c) (by omega) (fun h1 h2 h3 h4 h5 => SeqAt.eq_listAt h1 h2 h3 (by omega) h4 h5) (fun h1 h2 h3 h4 => SeqAt.eq_list_lengthsAt h1 h2 h3 (by omega) h4)) (w_eqD hu) (r'' := fun x y M Q => _ ∨ _) fun _ _ _ _ h => h) fun x y M Q h => eqS_D h
theorem w_ne (hu : X.A.units + 64 < cLine) : OpW X (compareOp .NotEq) rNe2 :=
  OpW.or w_neT (OpW.or (empty_cmp (f := fun c => !c) (by omega) (fun h1 h2 h3 h4 h5 => SeqAt.RcNeAt.lists h1 h2 h3 (by omega) h4 _ _ _ _ h5) (fun h1 h2 h3 h4 => SeqAt.RcNeAt.lists_lengths h1 h2 h3 (by omega) _ _ _ _ h4)) (w_neD hu) (r'' := fun x y M Q => _ ∨ _) fun _ _ _ _ h => h) fun x y M Q h => eqS_D h
end
end PV
set_option maxHeartbeats 1000000
/-! PV: order, identity, membership, subscripts, slices, stores. -/
namespace PV
open PySem PySem.Spec PyProof.Rows L2

section
variable {X : Cx} {B : Kx} {K : PySem.W.Frag} {H : Hp} {M : Me}
/-! ### order of whole numbers -/
def rI2 (g : Int → Int → Bool) : R2W := fun x y M Q => match x, y with
  | .int i, .int j => Q (.bl (g i j)) M
  | _, _ => False
theorem opI2 {f : Value → Value → Sem Value} {g : Int → Int → Bool} (h : OpR X f (rI0 fun i j => .bl (g i j))) : OpW X f (rI2 g) := (op2B0 h).imp fun x y M Q h => by
  unfold rI2 at h
  split at h
  · exact ⟨trivial, h⟩
  · exact h.elim
def rLt2 : R2W := rI2 fun i j => decide (i < j)
def rLe2 : R2W := rI2 fun i j => decide (i ≤ j)
def rGt2 : R2W := rI2 fun i j => decide (j < i)
def rGe2 : R2W := rI2 fun i j => decide (j ≤ i)
theorem w_lt : OpW X (compareOp .Lt) rLt2 := opI2 op_lt
theorem w_le : OpW X (compareOp .LtE) rLe2 := opI2 op_le
theorem w_gt : OpW X (compareOp .Gt) rGt2 := opI2 op_gt
theorem w_ge : OpW X (compareOp .GtE) rGe2 := opI2 op_ge
/-! ### is -/
def isN : W → Bool
  | .non => true
  | _ => false
theorem isN_V {w : W} {v : V} (r : Rep K H w v) : decide (v = .non) = isN w := by
  cases w with
  | non => rw [un_non r]; rfl
  | bl b => rw [un_bl r]; rfl
  | int i => rw [un_int r]; rfl
  | str x => rw [un_str r]; rfl
  | ref a => rw [un_ref r]; rfl
  | cl ws =>
    obtain ⟨a, vs, e, _, _⟩ := r.uncl
    rw [e]; rfl
  | tup ws =>
    obtain ⟨a, vs, e, _, _⟩ := r.untup
    rw [e]; rfl
def rIsS (x y : W) (Q : Bool → Prop) : Prop := match y, x with
  | .non, x => Q (isN x)
  | .bl b, .bl a => Q (decide (a = b))
  | _, _ => False
def rIs2 : R2W := fun x y M Q => rIsS x y fun b => Q (.bl b) M
def rIsNot2 : R2W := fun x y M Q => rIsS x y fun b => Q (.bl (!b)) M
theorem w_is : OpW X (compareOp .Is) rIs2 := OpR_imp (OpR.or op_isN op_isBl) fun x y H Q ⟨wx, wy, M, Qw, rx, ry, m, q, k⟩ => by
  unfold rIs2 rIsS at q
  split at q
  · refine .inl ⟨un_non ry, ?_⟩
    rw [isN_V rx]
    exact k _ M _ H q (Go.refl _ _) rep_bl m
  · exact .inr ⟨_, _, un_bl rx, un_bl ry, k _ M _ H q (Go.refl _ _) rep_bl m⟩
  · exact q.elim
theorem w_isnot : OpW X (compareOp .IsNot) rIsNot2 := OpR_imp (OpR.or op_notN op_notBl) fun x y H Q ⟨wx, wy, M, Qw, rx, ry, m, q, k⟩ => by
  unfold rIsNot2 rIsS at q
  split at q
  · refine .inl ⟨un_non ry, ?_⟩
    rw [isN_V rx]
    exact k _ M _ H q (Go.refl _ _) rep_bl m
  · exact .inr ⟨_, _, un_bl rx, un_bl ry, k _ M _ H q (Go.refl _ _) rep_bl m⟩
  · exact q.elim
/-! ### look-ups -/
section
variable {κ β : Type} [DecidableEq κ]
def look (kvs : List (κ × β)) (k : κ) : Option β := (kvs.find? fun kv => decide (kv.1 = k)).map (·.2)
def place (kvs : List (κ × β)) (k : κ) (v : β) : List (κ × β) := if (look kvs k).isSome = true then kvs.map (fun kv => if kv.1 = k then (kv.1, v) else kv) else kvs ++ [(k, v)]
theorem look_nil {k : κ} : look ([] : List (κ × β)) k = none := rfl
theorem look_cons {p : κ × β} {r : List (κ × β)} {k : κ} : look (p :: r) k = if p.1 = k then some p.2 else look r k := by
  unfold look
  rw [List.find?_cons]
  by_cases h : p.1 = k
  · simp [h]
  · simp [h]
theorem look_any (k : κ) : ∀ kvs : List (κ × β), (kvs.any fun kv => decide (kv.1 = k)) = (look kvs k).isSome
  | [] => rfl
  | p :: r => by
    rw [List.any_cons, look_cons, look_any k r]
    by_cases h : p.1 = k
    · simp [h]
    · simp [h]
end
theorem look_rel {κ : Type} [DecidableEq κ] {kvs : List (κ × W)} {xs : List (κ × V)} (h : Paired (fun p x => p.1 = x.1 ∧ Rep K H p.2 x.2) kvs xs) (k : κ) :
    (look kvs k = none ∧ valV xs k = none) ∨ ∃ w v, look kvs k = some w ∧ valV xs k = some v ∧ Rep K H w v := by
  induction h with
  | nil => exact .inl ⟨rfl, rfl⟩
  | @cons p x ps xs r _ ih =>
    obtain ⟨e, rp⟩ := r
    by_cases z : p.1 = k
    · refine .inr ⟨p.2, x.2, ?_, ?_, rp⟩
      · rw [look_cons, if_pos z]
      · rw [valV_pos (by rw [← e]; exact z)]
    · rw [look_cons, if_neg z, valV_neg (by rw [← e]; exact z)]
      exact ih
theorem place_rel {κ : Type} [DecidableEq κ] {kvs : List (κ × W)} {xs : List (κ × V)} (h : Paired (fun p x => p.1 = x.1 ∧ Rep K H p.2 x.2) kvs xs) (k : κ) {w : W} {v : V} (r : Rep K H w v) :
    Paired (fun p x => p.1 = x.1 ∧ Rep K H p.2 x.2) (place kvs k w) (putK xs k v) := by
  unfold place putK
  have e : (look kvs k).isSome = xs.any fun kv => decide (kv.1 = k) := by
    rw [← look_any]
    clear r
    induction h with
    | nil => rfl
    | cons q _ ih => rw [List.any_cons, List.any_cons, ih, q.1]
  rw [e]
  split
  · clear e
    rename_i hh
    clear hh
    induction h with
    | nil => exact .nil
    | @cons p x ps xs q _ ih =>
      rw [List.map_cons, List.map_cons]
      refine .cons ?_ ih
      rw [q.1]
      split
      · exact ⟨rfl, r⟩
      · exact q
  · clear e
    rename_i hh
    clear hh
    induction h with
    | nil => exact .cons ⟨rfl, r⟩ .nil
    | cons q _ ih => exact .cons q ih
/-- a key of a dict of whole numbers and texts -/
def wkey : W → Option Key
  | .int i => some (.inl i)
  | .str x => some (.inr x)
  | _ => none
theorem wkey_V {w : W} {v : V} {k : Key} (h : wkey w = some k) (r : Rep K H w v) : v = kV k := by
  cases w with
  | int i => cases h; exact un_int r
  | str x => cases h; exact un_str r
  | _ => cases h
def rdK : Option Ob → Option (List (Key × W))
  | some (.dK kvs) => some kvs
  | some (.lkK kvs) => some kvs
  | _ => none
theorem rdK_rd {a : Addr} {kvs : List (Key × W)} (m : Mo B H M) (h : rdK (M a) = some kvs) : ∃ xs, Rd H a (.dK xs) ∧ Paired (KRow B H) kvs xs := by
  cases e : M a with
  | none => rw [e] at h; cases h
  | some o =>
    rw [e] at h
    cases o with
    | dK ks =>
      have e2 : ks = kvs := by simpa [rdK] using h
      subst e2
      obtain ⟨xs, h1, h2⟩ := m a _ e
      exact ⟨xs, .inl h1, h2⟩
    | lkK ks =>
      have e2 : ks = kvs := by simpa [rdK] using h
      subst e2
      obtain ⟨o, xs, h1, h2⟩ := m a _ e
      exact ⟨xs, .inr ⟨o, h1⟩, h2⟩
    | _ => simp [rdK] at h
/-! ### in -/
def flatW : W → Bool
  | .non => true
  | .bl _ => true
  | .int _ => true
  | .str _ => true
  | _ => false
def fv : W → V
  | .non => .non
  | .bl b => .bl b
  | .int i => .int i
  | .str x => .str x
  | .ref a => .ref a
  | .tup _ => .non
  | .cl _ => .non
def eqF : W → W → Bool
  | .non, .non => true
  | .bl a, .bl b => a == b
  | .bl a, .int b => (if a then 1 else 0) == b
  | .int a, .bl b => a == (if b then 1 else 0)
  | .int a, .int b => decide (a = b)
  | .str a, .str b => decide (a = b)
  | _, _ => false
theorem eqF_V (x y : W) (hx : flatW x = true) (hy : flatW y = true) : eqV (fv x) (fv y) = eqF x y := by
  cases x <;> cases y <;> first | rfl | (simp [flatW] at hx hy; done) | (simp [fv, eqV, eqF, Bool.beq_eq_decide_eq]; done) | skip
theorem fv_rep {w : W} {v : V} (h : flatW w = true) (r : Rep K H w v) : v = fv w ∧ flatV v = true := by
  cases w with
  | non => exact ⟨un_non r, by rw [un_non r]; rfl⟩
  | bl b => exact ⟨un_bl r, by rw [un_bl r]; rfl⟩
  | int i => exact ⟨un_int r, by rw [un_int r]; rfl⟩
  | str x => exact ⟨un_str r, by rw [un_str r]; rfl⟩
  | _ => cases h
theorem fvs_rep : ∀ {ws : List W} {vs : List V}, ws.all flatW = true → Reps K H ws vs → vs = ws.map fv ∧ vs.all flatV = true
  | [], _, _, r => by rw [r.unnil]; exact ⟨rfl, rfl⟩
  | w :: ws, vs, h, r => by
    rw [List.all_cons, Bool.and_eq_true] at h
    obtain ⟨v, vr, e, r1, r2⟩ := r.uncons
    obtain ⟨e1, f1⟩ := fv_rep h.1 r1
    obtain ⟨e2, f2⟩ := fvs_rep h.2 r2
    subst e
    refine ⟨by rw [List.map_cons, e1, e2], by rw [List.all_cons, f1, f2]; rfl⟩
def inW (x : W) (xs : List W) : Bool := xs.any fun y => eqF y x
theorem inW_V {x : W} {xs : List W} (hx : flatW x = true) : xs.all flatW = true → inV (fv x) (xs.map fv) = inW x xs := by
  intro h
  unfold inV inW
  rw [List.any_map]
  induction xs with
  | nil => rfl
  | cons y r ih =>
    rw [List.all_cons, Bool.and_eq_true] at h
    rw [List.any_cons, List.any_cons, ih h.2]
    have e : ((fun y => eqV y (fv x)) ∘ fv) y = eqF y x := eqF_V y x h.1 hx
    rw [e]
def rdN : Option Ob → Option (List (W × W))
  | some (.dN kvs) => some kvs
  | some (.lkN kvs) => some kvs
  | _ => none
def lookN (kvs : List (W × W)) (k : W) : Option W := (kvs.find? fun p => decide (nk p.1 = nk k)).map (·.2)
def placeN (kvs : List (W × W)) (k v : W) : List (W × W) := if (lookN kvs k).isSome = true then kvs.map (fun p => if nk p.1 = nk k then (p.1, v) else p) else kvs ++ [(k, v)]
def rInS (M : Me) (x y : W) (Q : Bool → Prop) : Prop := match y with
  | .tup xs => (flatW x && xs.all flatW) = true ∧ Q (inW x xs)
  | .str z => match x with
    | .str a => match a.cps.toList with
      | [c] => Q (decide (c ∈ z.cps.toList))
      | _ => False
    | _ => False
  | .ref a => match M a with
    | some (.lst xs) => (flatW x && xs.all flatW) = true ∧ Q (inW x xs)
    | some (.dK kvs) => match wkey x with
      | some k => Q (look kvs k).isSome
      | none => False
    | some (.lkK kvs) => match wkey x with
      | some k => Q (look kvs k).isSome
      | none => False
    | some (.dN kvs) => KeyOk x ∧ Q (lookN kvs x).isSome
    | some (.lkN kvs) => KeyOk x ∧ Q (lookN kvs x).isSome
    | _ => False
  | _ => False
def rIn2 : R2W := fun x y M Q => rInS M x y fun b => Q (.bl b) M
def rNotIn2 : R2W := fun x y M Q => rInS M x y fun b => Q (.bl (!b)) M
/-- dicts whose keys are tuples: the raw rows -/
theorem nest_is {pins : List (Addr × Obj)} {σ : L2.St} {s : Shared} (I : Inv X pins σ H s) : ∀ {w : W} {v : V} {u : Value}, kr w = true → Rep X.K H w v → RelV v u → NestedIs s.heap (nk w) u
  | .non, v, u, _, r, ru => by rw [un_non r] at ru; cases ru; unfold nk; exact .none
  | .bl b, v, u, _, r, ru => by rw [un_bl r] at ru; cases ru; unfold nk; exact .bool rfl
  | .int i, v, u, _, r, ru => by rw [un_int r] at ru; obtain ⟨t, rfl⟩ := ru; unfold nk; exact .int i t
  | .str x, v, u, _, r, ru => by rw [un_str r] at ru; obtain ⟨t, rfl⟩ := ru; unfold nk; exact .text x t
  | .ref a, v, u, h, _, _ => by unfold kr at h; cases h
  | .cl a, v, u, h, _, _ => by unfold kr at h; cases h
  | .tup ws, v, u, h, r, ru => by
    unfold kr at h
    obtain ⟨a, vs, e, sq, rs⟩ := r.untup
    subst e
    cases ru
    obtain ⟨us, rv, ⟨o, e1, e2, n, e3⟩, _⟩ := I.tuple sq
    unfold nk
    exact .tup e1 e2 e3 (by simpa using nests I ws vs us h rs rv)
where nests {pins : List (Addr × Obj)} {σ : L2.St} {s : Shared} (I : Inv X pins σ H s) : ∀ (ws : List W) (vs : List V) (us : List Value), krs ws = true → Reps X.K H ws vs → Vals vs us → NestedAll s.heap (nks ws) us
  | [], vs, us, _, r, ru => by rw [r.unnil] at ru; cases ru; unfold nks; exact .nil
  | w :: ws, vs, us, h, r, ru => by
    unfold krs at h
    rw [Bool.and_eq_true] at h
    obtain ⟨v, vr, e, r1, r2⟩ := r.uncons
    subst e
    cases ru with
    | cons q1 q2 => unfold nks; exact .cons (nest_is I h.1 r1 q1) (nests I ws vr _ h.2 r2 q2)

/-- what the raw rows give: the library's own word -/
theorem n_of {pins : List (Addr × Obj)} {σ : L2.St} {s : Shared} (I : Inv X pins σ H s) {a : Addr} {es : Array DictEntry} {kvs : List (W × W)} (rd : Rd H a (.ext (DRaw a es))) (n : NDict X.kx H kvs es) :
    ∃ xs, Paired (NRow X.kx H) kvs xs ∧ s.heap.DictOfH (nestedKind X.prog X.w) a xs := by
  obtain ⟨sz, xs, p, e, nd⟩ := n
  obtain ⟨⟨o, ep, h1, h2, h3⟩, _, _⟩ := rd.ok I.hok
  refine ⟨xs, p, o, es, ep, h1, h2, h3, e, fun x hx => ?_, nd⟩
  have aux : ∀ {ps : List (W × W)} {ys : List (NestedKey × Addr × Value)}, Paired (NRow X.kx H) ps ys → ∀ y ∈ ys, (nestedKind X.prog X.w).is s.heap y.1 y.2.1 := by
    intro ps ys q
    induction q with
    | nil => intro y hy; cases hy
    | cons r _ ih =>
      intro y hy
      rcases List.mem_cons.mp hy with z | z
      · subst z
        obtain ⟨e1, r1, ⟨_, k1, k2⟩, _⟩ := r
        rw [e1]
        exact ⟨nest_is I k1 r1 rfl, k2⟩
      · exact ih y z
  exact aux p x hx
theorem n_key {pins : List (Addr × Obj)} {σ : L2.St} {s : Shared} (I : Inv X pins σ H s) {w : W} {v : V} {u : Value} (hk : KeyOk w) (r : Rep X.K H w v) (ru : RelV v u) : ∃ b, v = .ref b ∧ u = .ref b ∧ (nestedKind X.prog X.w).is s.heap (nk w) b := by
  obtain ⟨⟨ws, e⟩, k1, k2⟩ := hk
  subst e
  obtain ⟨b, vs, e, _, _⟩ := r.untup
  subst e
  cases ru
  exact ⟨b, rfl, rfl, nest_is I k1 r rfl, k2⟩
theorem n_room {A : Around} (hu : A.units + 64 < cLine) : (nestedKind X.prog X.w).room A.in1 := by
  show A.units + 1 + 8 < cLine
  omega
theorem n_look {kvs : List (W × W)} {xs : List (NestedKey × Addr × Value)} (p : Paired (NRow B H) kvs xs) (k : W) :
    (lookN kvs k = none ∧ atKey xs (nk k) = none) ∨ ∃ w b u v, lookN kvs k = some w ∧ atKey xs (nk k) = some (b, u) ∧ RelV v u ∧ Rep B.K H w v := by
  induction p with
  | nil => exact .inl ⟨rfl, rfl⟩
  | @cons q x ps ys r _ ih =>
    obtain ⟨e, r1, k1, vv, rv, r2⟩ := r
    by_cases z : nk q.1 = nk k
    · refine .inr ⟨q.2, x.2.1, x.2.2, vv, ?_, ?_, rv, r2⟩
      · simp [lookN, z]
      · simp [atKey, e, z]
    · have n1 : lookN (q :: ps) k = lookN ps k := by simp [lookN, z]
      have n2 : atKey (x :: ys) (nk k) = atKey ys (nk k) := by simp [atKey, e, z]
      rw [n1, n2]
      exact ih
theorem n_place {kvs : List (W × W)} {xs : List (NestedKey × Addr × Value)} (p : Paired (NRow B H) kvs xs) {k w : W} {b : Addr} {v : V} {u : Value} (hk : KeyOk k) (rk : Rep B.K H k (.ref b)) (rv : RelV v u) (rw' : Rep B.K H w v) :
    Paired (NRow B H) (placeN kvs k w) (storedH xs (nk k) b u) := by
  have e : (lookN kvs k).isSome = (atKey xs (nk k)).isSome := by
    rcases n_look p k with ⟨h1, h2⟩ | ⟨_, _, _, _, h1, h2, _⟩
    · rw [h1, h2]; rfl
    · rw [h1, h2]; rfl
  unfold placeN storedH
  rw [e]
  by_cases z : (atKey xs (nk k)).isSome = true
  · rw [if_pos z, if_pos z]
    clear e z
    induction p with
    | nil => exact .nil
    | @cons q x ps ys r _ ih =>
      rw [List.map_cons, List.map_cons]
      refine .cons ?_ ih
      obtain ⟨e1, r1, k1, r2⟩ := r
      unfold putAt
      by_cases y : nk q.1 = nk k
      · rw [if_pos y, if_pos (e1.trans y)]
        exact ⟨e1, r1, k1, v, rv, rw'⟩
      · rw [if_neg y, if_neg (fun t => y (e1.symm.trans t))]
        exact ⟨e1, r1, k1, r2⟩
  · rw [if_neg z, if_neg z]
    clear e z
    induction p with
    | nil => exact .cons ⟨rfl, rk, hk, v, rv, rw'⟩ .nil
    | cons r _ ih => exact .cons r ih
theorem rdN_rd {a : Addr} {kvs : List (W × W)} (m : Mo B H M) (h : rdN (M a) = some kvs) : ∃ es, Rd H a (.ext (DRaw a es)) ∧ (a == sysModules) = false ∧ NDict B H kvs es := by
  cases e : M a with
  | none => rw [e] at h; cases h
  | some o =>
    rw [e] at h
    cases o with
    | dN ks =>
      have e2 : ks = kvs := by simpa [rdN] using h
      subst e2
      obtain ⟨es, h1, h2⟩ := m a _ e
      exact ⟨es, .inl h1, h2⟩
    | lkN ks =>
      have e2 : ks = kvs := by simpa [rdN] using h
      subst e2
      obtain ⟨o, es, h1, h2⟩ := m a _ e
      exact ⟨es, .inr ⟨o, h1⟩, h2⟩
    | _ => simp [rdN] at h
theorem wop_inSeq (neg : Bool) (f : Value → Value → Sem Value) (h : OpR X f (rIn X.K neg)) : OpW X f fun x y M Q => (∃ xs, y = .tup xs ∨ ∃ a, y = .ref a ∧ rdl (M a) = some xs) ∧ ∀ xs, (y = .tup xs ∨ ∃ a, y = .ref a ∧ rdl (M a) = some xs) → (flatW x && xs.all flatW) = true ∧ Q (.bl (if neg then !inW x xs else inW x xs)) M :=
  OpR_imp h fun x y H Q ⟨wx, wy, M, Qw, rx, ry, m, ⟨⟨xs, hy⟩, q⟩, k⟩ => by
    obtain ⟨hf, q⟩ := q xs hy
    rw [Bool.and_eq_true] at hf
    obtain ⟨e1, f1⟩ := fv_rep hf.1 rx
    have fin : ∀ {vs : List V}, Reps X.K H xs vs → vs.all flatV = true ∧ Q (.bl (if neg then !inV x vs else inV x vs)) H := fun {vs} r => by
      obtain ⟨e2, f2⟩ := fvs_rep hf.2 r
      refine ⟨f2, ?_⟩
      rw [e1, e2, inW_V hf.1 hf.2]
      exact k _ M _ H q (Go.refl _ _) rep_bl m
    rcases hy with e | ⟨a, e, hr⟩
    · subst e
      obtain ⟨a, vs, e3, sq, rs⟩ := ry.untup
      exact ⟨a, vs, e3, .inr sq, f1, (fin rs).1, (fin rs).2⟩
    · subst e
      obtain ⟨vs, sq, rs⟩ := rdl_sq m hr
      exact ⟨a, vs, un_ref ry, .inl sq, f1, (fin rs).1, (fin rs).2⟩
theorem wop_inK (hu : X.A.units + 64 < cLine) : OpW X (compareOp .In) fun x y M Q => ∃ a kvs k, y = .ref a ∧ rdK (M a) = some kvs ∧ wkey x = some k ∧ Q (.bl (look kvs k).isSome) M :=
  fun pins s σ H x y v u Q I rx ry ⟨wx, wy, M, Qw, r1, r2, m, ⟨a, kvs, kk, e, hr, hk, q⟩, k⟩ => by
    subst e
    rw [un_ref r2] at ry
    cases ry
    obtain ⟨xs, rd, p⟩ := rdK_rd m hr
    have ek := wkey_V hk r1
    subst ek
    refine d_in (by omega) I (o := valV xs kk) (.inl ⟨xs, kk, rd, rfl, rfl⟩) rx fun s' I' => ⟨.bl (valV xs kk).isSome, H, I', rfl, ?_⟩
    have e : (valV xs kk).isSome = (look kvs kk).isSome := by
      rcases look_rel p kk with ⟨h1, h2⟩ | ⟨_, _, h1, h2, _⟩
      · rw [h1, h2]; rfl
      · rw [h1, h2]; rfl
    rw [e]
    exact k _ M _ H q (Go.refl _ _) rep_bl m
theorem wop_notInK (hu : X.A.units + 64 < cLine) : OpW X (compareOp .NotIn) fun x y M Q => ∃ a kvs k, y = .ref a ∧ rdK (M a) = some kvs ∧ wkey x = some k ∧ Q (.bl (!(look kvs k).isSome)) M :=
  fun pins s σ H x y v u Q I rx ry ⟨wx, wy, M, Qw, r1, r2, m, ⟨a, kvs, kk, e, hr, hk, q⟩, k⟩ => by
    subst e
    rw [un_ref r2] at ry
    cases ry
    obtain ⟨xs, rd, p⟩ := rdK_rd m hr
    have ek := wkey_V hk r1
    subst ek
    refine d_notIn (by omega) I (o := valV xs kk) (.inl ⟨xs, kk, rd, rfl, rfl⟩) rx fun s' I' => ⟨.bl (!(valV xs kk).isSome), H, I', rfl, ?_⟩
    have e : (valV xs kk).isSome = (look kvs kk).isSome := by
      rcases look_rel p kk with ⟨h1, h2⟩ | ⟨_, _, h1, h2, _⟩
      · rw [h1, h2]; rfl
      · rw [h1, h2]; rfl
    rw [e]
    exact k _ M _ H q (Go.refl _ _) rep_bl m
theorem wop_inN (hu : X.A.units + 64 < cLine) : OpW X (compareOp .In) fun x y M Q => ∃ a kvs, y = .ref a ∧ rdN (M a) = some kvs ∧ KeyOk x ∧ Q (.bl (lookN kvs x).isSome) M :=
  fun pins s σ H x y v u Q I rx ry ⟨wx, wy, M, Qw, r1, r2, m, ⟨a, kvs, e, hr, hk, q⟩, k⟩ => by
    subst e
    rw [un_ref r2] at ry
    cases ry
    obtain ⟨es, rd, hd, n⟩ := rdN_rd m hr
    obtain ⟨xs, p, dd⟩ := n_of I rd n
    obtain ⟨b, e1, e2, ki⟩ := n_key I hk r1 rx
    subst e1 e2
    refine wpAny_in_heap (n_room hu) ki hd dd ⟨.bl (atKey xs (nk wx)).isSome, H, I.tok _, rfl, ?_⟩
    have e : (atKey xs (nk wx)).isSome = (lookN kvs wx).isSome := by
      rcases n_look p wx with ⟨h1, h2⟩ | ⟨_, _, _, _, h1, h2, _⟩
      · rw [h1, h2]; rfl
      · rw [h1, h2]; rfl
    rw [e]
    exact k _ M _ H q (Go.refl _ _) rep_bl m
theorem wop_notInN (hu : X.A.units + 64 < cLine) : OpW X (compareOp .NotIn) fun x y M Q => ∃ a kvs, y = .ref a ∧ rdN (M a) = some kvs ∧ KeyOk x ∧ Q (.bl (!(lookN kvs x).isSome)) M :=
  fun pins s σ H x y v u Q I rx ry ⟨wx, wy, M, Qw, r1, r2, m, ⟨a, kvs, e, hr, hk, q⟩, k⟩ => by
    subst e
    rw [un_ref r2] at ry
    cases ry
    obtain ⟨es, rd, hd, n⟩ := rdN_rd m hr
    obtain ⟨xs, p, dd⟩ := n_of I rd n
    obtain ⟨b, e1, e2, ki⟩ := n_key I hk r1 rx
    subst e1 e2
    refine wpAny_notIn_heap (n_room hu) ki hd dd ⟨.bl (!(atKey xs (nk wx)).isSome), H, I.tok _, rfl, ?_⟩
    have e : (atKey xs (nk wx)).isSome = (lookN kvs wx).isSome := by
      rcases n_look p wx with ⟨h1, h2⟩ | ⟨_, _, _, _, h1, h2, _⟩
      · rw [h1, h2]; rfl
      · rw [h1, h2]; rfl
    rw [e]
    exact k _ M _ H q (Go.refl _ _) rep_bl m
theorem wop_inC : OpW X (compareOp .In) fun x y M Q => ∃ a c z, x = .str a ∧ a.cps.toList = [c] ∧ y = .str z ∧ Q (.bl (decide (c ∈ z.cps.toList))) M :=
  OpR_imp op_in_sign fun x y H Q ⟨wx, wy, M, Qw, rx, ry, m, ⟨a, c, z, e1, h, e2, q⟩, k⟩ => by
    subst e1 e2
    refine ⟨c, z, ?_, un_str ry, k _ M _ H q (Go.refl _ _) rep_bl m⟩
    rw [un_str rx]
    obtain ⟨cs⟩ := a
    have e : cs = #[c] := by
      obtain ⟨l⟩ := cs
      simp at h
      rw [h]
    rw [e]
theorem wop_notInC : OpW X (compareOp .NotIn) fun x y M Q => ∃ a c z, x = .str a ∧ a.cps.toList = [c] ∧ y = .str z ∧ Q (.bl (!decide (c ∈ z.cps.toList))) M :=
  OpR_imp op_notIn_sign fun x y H Q ⟨wx, wy, M, Qw, rx, ry, m, ⟨a, c, z, e1, h, e2, q⟩, k⟩ => by
    subst e1 e2
    refine ⟨c, z, ?_, un_str ry, k _ M _ H q (Go.refl _ _) rep_bl m⟩
    rw [un_str rx]
    obtain ⟨cs⟩ := a
    have e : cs = #[c] := by
      obtain ⟨l⟩ := cs
      simp at h
      rw [h]
    rw [e]
/-- the five kinds -/
theorem inS_split {M : Me} {x y : W} {Q : Bool → Prop} (h : rInS M x y Q) :
    ((∃ xs, y = .tup xs ∨ ∃ a, y = .ref a ∧ rdl (M a) = some xs) ∧ ∀ xs, (y = .tup xs ∨ ∃ a, y = .ref a ∧ rdl (M a) = some xs) → (flatW x && xs.all flatW) = true ∧ Q (inW x xs)) ∨
    (∃ a kvs k, y = .ref a ∧ rdK (M a) = some kvs ∧ wkey x = some k ∧ Q (look kvs k).isSome) ∨ (∃ a kvs, y = .ref a ∧ rdN (M a) = some kvs ∧ KeyOk x ∧ Q (lookN kvs x).isSome) ∨
    ∃ a c z, x = .str a ∧ a.cps.toList = [c] ∧ y = .str z ∧ Q (decide (c ∈ z.cps.toList)) := by
  have one : ∀ {a : Addr} {xs : List W}, rdl (M a) = some xs → (flatW x && xs.all flatW) = true ∧ Q (inW x xs) → ((∃ xs, (W.ref a = .tup xs) ∨ ∃ b, W.ref a = .ref b ∧ rdl (M b) = some xs) ∧ ∀ xs, (W.ref a = .tup xs ∨ ∃ b, W.ref a = .ref b ∧ rdl (M b) = some xs) → (flatW x && xs.all flatW) = true ∧ Q (inW x xs)) := fun {a xs} h1 h2 =>
    ⟨⟨xs, .inr ⟨a, rfl, h1⟩⟩, fun ys hy => by
      rcases hy with e | ⟨b, e, h3⟩
      · cases e
      · cases e
        rw [h1] at h3
        cases h3
        exact h2⟩
  unfold rInS at h
  split at h
  · rename_i xs
    exact .inl ⟨⟨xs, .inl rfl⟩, fun ys hy => by
      rcases hy with e | ⟨b, e, h3⟩
      · cases e; exact h
      · cases e⟩
  · split at h
    · split at h
      · rename_i c e
        exact .inr (.inr (.inr ⟨_, c, _, rfl, e, rfl, h⟩))
      · exact h.elim
    · exact h.elim
  · split at h
    · rename_i xs e
      exact .inl (one (by rw [e]; rfl) h)
    · split at h
      · rename_i kvs e o k ek
        exact .inr (.inl ⟨_, kvs, k, rfl, by rw [e]; rfl, ek, h⟩)
      · exact h.elim
    · split at h
      · rename_i kvs e o k ek
        exact .inr (.inl ⟨_, kvs, k, rfl, by rw [e]; rfl, ek, h⟩)
      · exact h.elim
    · rename_i kvs e
      exact .inr (.inr (.inl ⟨_, kvs, rfl, by rw [e]; rfl, h.1, h.2⟩))
    · rename_i kvs e
      exact .inr (.inr (.inl ⟨_, kvs, rfl, by rw [e]; rfl, h.1, h.2⟩))
    · exact h.elim
  · exact h.elim
theorem w_in (hu : X.A.units + 64 < cLine) : OpW X (compareOp .In) rIn2 :=
  OpW.or (wop_inSeq false _ op_in_seq) (OpW.or (wop_inK hu) (OpW.or (wop_inN hu) wop_inC (r'' := fun x y M Q => _ ∨ _) fun _ _ _ _ h => h) (r'' := fun x y M Q => _ ∨ _) fun _ _ _ _ h => h) fun x y M Q h => inS_split h
theorem w_notIn (hu : X.A.units + 64 < cLine) : OpW X (compareOp .NotIn) rNotIn2 :=
  OpW.or (wop_inSeq true _ op_notIn_seq) (OpW.or (wop_notInK hu) (OpW.or (wop_notInN hu) wop_notInC (r'' := fun x y M Q => _ ∨ _) fun _ _ _ _ h => h) (r'' := fun x y M Q => _ ∨ _) fun _ _ _ _ h => h) fun x y M Q h => inS_split h
end
end PV
set_option maxHeartbeats 1000000
/-! PV: subscripts, slices, stores, methods, built-ins. -/
namespace PV
open PySem PySem.Spec PyProof.Rows L2

section
variable {X : Cx} {B : Kx} {K : PySem.W.Frag} {H : Hp} {M : Me}
/-! ### o[i] -/
def up2I (X : Cx) (r : R2W) : Prop := IxR X (up2 X.kx r)
theorem IxR_imp {r r' : R2} (h : IxR X r) (i : ∀ x y H Q, r' x y H Q → r x y H Q) : IxR X r' := fun value slice pins s σ H x y v u Q I rx ry q => h value slice pins s σ H x y v u Q I rx ry (i x y H Q q)
def rIx2 : R2W := fun x y M Q => match x with
  | .cl xs => match y with
    | .int i => match atI xs i with
      | some w => Q w M
      | none => False
    | _ => False
  | .tup xs => match y with
    | .int i => match atI xs i with
      | some w => Q w M
      | none => False
    | _ => False
  | .str z => match y with
    | .int i => z.length ≤ sizeLine ∧ match atI z.cps.toList i with
      | some c => Q (.str ⟨#[c]⟩) M
      | none => False
    | _ => False
  | .ref a => match M a with
    | some (.lst xs) => match y with
      | .int i => match atI xs i with
        | some w => Q w M
        | none => False
      | _ => False
    | some (.dK kvs) => match (wkey y).bind (look kvs) with
      | some w => Q w M
      | none => False
    | some (.lkK kvs) => match (wkey y).bind (look kvs) with
      | some w => Q w M
      | none => False
    | some (.dN kvs) => KeyOk y ∧ match lookN kvs y with
      | some w => Q w M
      | none => False
    | some (.lkN kvs) => KeyOk y ∧ match lookN kvs y with
      | some w => Q w M
      | none => False
    | _ => False
  | _ => False
theorem ixN_len {n m : Nat} (h : n = m) (i : Int) : ixN n i = ixN m i := by rw [h]
theorem at_rep {xs : List W} {vs : List V} {i : Int} {w : W} (r : Reps K H xs vs) (h : atI xs i = some w) : ∃ v, atI vs i = some v ∧ Rep K H w v := by
  unfold atI at h ⊢
  rw [r.length]
  cases e : ixN xs.length i with
  | none => rw [e] at h; cases h
  | some j =>
    rw [e] at h
    exact r.get h
theorem wix_T : up2I X fun x y M Q => ∃ xs i w, x = .tup xs ∧ y = .int i ∧ atI xs i = some w ∧ Q w M := IxR_imp ix_tup fun x y H Q ⟨wx, wy, M, Qw, rx, ry, m, ⟨xs, i, w, e1, e2, h, q⟩, k⟩ => by
  subst e1 e2
  obtain ⟨a, vs, e3, s, rs⟩ := rx.untup
  obtain ⟨v, h2, r2⟩ := at_rep rs h
  exact ⟨a, vs, i, v, e3, un_int ry, s, h2, k _ M _ H q (Go.refl _ _) r2 m⟩
theorem wix_L : up2I X fun x y M Q => ∃ a xs i w, x = .ref a ∧ rdl (M a) = some xs ∧ y = .int i ∧ atI xs i = some w ∧ Q w M := IxR_imp ix_list fun x y H Q ⟨wx, wy, M, Qw, rx, ry, m, ⟨a, xs, i, w, e1, hr, e2, h, q⟩, k⟩ => by
  subst e1 e2
  obtain ⟨vs, s, rs⟩ := rdl_sq m hr
  obtain ⟨v, h2, r2⟩ := at_rep rs h
  exact ⟨a, vs, i, v, un_ref rx, un_int ry, s, h2, k _ M _ H q (Go.refl _ _) r2 m⟩
theorem wix_C : up2I X fun x y M Q => ∃ xs i w, x = .cl xs ∧ y = .int i ∧ atI xs i = some w ∧ Q w M := IxR_imp ix_list fun x y H Q ⟨wx, wy, M, Qw, rx, ry, m, ⟨xs, i, w, e1, e2, h, q⟩, k⟩ => by
  subst e1 e2
  obtain ⟨a, vs, e3, s, rs⟩ := rx.uncl
  obtain ⟨v, h2, r2⟩ := at_rep rs h
  exact ⟨a, vs, i, v, e3, un_int ry, s.sq, h2, k _ M _ H q (Go.refl _ _) r2 m⟩
theorem wix_S : up2I X fun x y M Q => ∃ z i c, x = .str z ∧ y = .int i ∧ z.length ≤ sizeLine ∧ atI z.cps.toList i = some c ∧ Q (.str ⟨#[c]⟩) M := IxR_imp ix_str fun x y H Q ⟨wx, wy, M, Qw, rx, ry, m, ⟨z, i, c, e1, e2, hz, h, q⟩, k⟩ => by
  subst e1 e2
  exact ⟨z, i, c, un_str rx, un_int ry, hz, h, k _ M _ H q (Go.refl _ _) rep_str m⟩
theorem wix_K (hu : X.A.units + 64 < cLine) : up2I X fun x y M Q => ∃ a kvs kk w, x = .ref a ∧ rdK (M a) = some kvs ∧ wkey y = some kk ∧ look kvs kk = some w ∧ Q w M :=
  fun value slice pins s σ H x y v u Q I rx ry ⟨wx, wy, M, Qw, r1, r2, m, ⟨a, kvs, kk, w, e1, hr, hk, hl, q⟩, k⟩ hs => by
    subst e1
    rw [un_ref r1] at rx
    cases rx
    obtain ⟨xs, rd, p⟩ := rdK_rd m hr
    have ek := wkey_V hk r2
    subst ek
    rcases look_rel p kk with ⟨h1, _⟩ | ⟨w', vv, h1, h2, r3⟩
    · rw [hl] at h1; cases h1
    · rw [hl] at h1
      cases h1
      have g : DGet H a (kV kk) (some vv) := .inl ⟨xs, kk, rd, rfl, h2.symm⟩
      exact tail_any (dict_typeIs I g) PySem.F.slot_dict_getitem.lookup (d_getItem (by omega) I g ry fun u' s' I' ru => ⟨vv, H, I', ru, k _ M _ H q (Go.refl _ _) r3 m⟩) hs
theorem wix_N (hu : X.A.units + 64 < cLine) : up2I X fun x y M Q => ∃ a kvs w, x = .ref a ∧ rdN (M a) = some kvs ∧ KeyOk y ∧ lookN kvs y = some w ∧ Q w M :=
  fun value slice pins s σ H x y v u Q I rx ry ⟨wx, wy, M, Qw, r1, r2, m, ⟨a, kvs, w, e1, hr, hk, hl, q⟩, k⟩ hs => by
    subst e1
    rw [un_ref r1] at rx
    cases rx
    obtain ⟨es, rd, hd, n⟩ := rdN_rd m hr
    obtain ⟨xs, p, dd⟩ := n_of I rd n
    obtain ⟨b, e1, e2, ki⟩ := n_key I hk r2 ry
    subst e1 e2
    rcases n_look p wy with ⟨h1, _⟩ | ⟨w', b', u', vv, h1, h2, r3, r4⟩
    · rw [hl] at h1; cases h1
    · rw [hl] at h1
      cases h1
      exact tail_any dd.typeIs PySem.F.slot_dict_getitem.lookup (wpAny_getItem_heap (n_room hu) ki dd h2 ⟨vv, H, I.tok _, r3, k _ M _ H q (Go.refl _ _) r4 m⟩) hs
theorem w_ix (hu : X.A.units + 64 < cLine) : up2I X rIx2 := IxR_imp (IxR.or wix_C <| IxR.or wix_T (IxR.or wix_L (IxR.or wix_S (IxR.or (wix_K hu) (wix_N hu))))) fun x y H Q ⟨wx, wy, M, Qw, rx, ry, m, q, k⟩ => by
  have mk : ∀ {r : R2W}, r wx wy M Qw → up2 X.kx r x y H Q := fun {r} q => ⟨wx, wy, M, Qw, rx, ry, m, q, k⟩
  unfold rIx2 at q
  split at q
  · split at q
    · split at q
      · rename_i e
        exact .inl (mk ⟨_, _, _, rfl, rfl, e, q⟩)
      · exact q.elim
    · exact q.elim
  · split at q
    · split at q
      · rename_i e
        exact .inr (.inl (mk ⟨_, _, _, rfl, rfl, e, q⟩))
      · exact q.elim
    · exact q.elim
  · split at q
    · obtain ⟨hz, q⟩ := q
      split at q
      · rename_i e
        exact .inr (.inr (.inr (.inl (mk ⟨_, _, _, rfl, rfl, hz, e, q⟩))))
      · exact q.elim
    · exact q.elim
  · split at q
    · rename_i e0
      split at q
      · split at q
        · rename_i e
          exact .inr (.inr (.inl (mk ⟨_, _, _, _, rfl, by rw [e0]; rfl, rfl, e, q⟩)))
        · exact q.elim
      · exact q.elim
    · rename_i e0
      split at q
      · rename_i e
        obtain ⟨kk, h1, h2⟩ := Option.bind_eq_some_iff.mp e
        exact .inr (.inr (.inr (.inr (.inl (mk ⟨_, _, kk, _, rfl, by rw [e0]; rfl, h1, h2, q⟩)))))
      · exact q.elim
    · rename_i e0
      split at q
      · rename_i e
        obtain ⟨kk, h1, h2⟩ := Option.bind_eq_some_iff.mp e
        exact .inr (.inr (.inr (.inr (.inl (mk ⟨_, _, kk, _, rfl, by rw [e0]; rfl, h1, h2, q⟩)))))
      · exact q.elim
    · rename_i e0
      obtain ⟨hk, q⟩ := q
      split at q
      · rename_i e
        exact .inr (.inr (.inr (.inr (.inr (mk ⟨_, _, _, rfl, by rw [e0]; rfl, hk, e, q⟩)))))
      · exact q.elim
    · rename_i e0
      obtain ⟨hk, q⟩ := q
      split at q
      · rename_i e
        exact .inr (.inr (.inr (.inr (.inr (mk ⟨_, _, _, rfl, by rw [e0]; rfl, hk, e, q⟩)))))
      · exact q.elim
    · exact q.elim
  · exact q.elim
end
section
variable {Y : Cy} {a b lo hi : Expr} {pos p2 : Pos}
theorem q_ix {ta tb : WE} (hu : Y.X.A.units + 64 < cLine) (ha : QE Y a ta) (hb : QE Y b tb) (hs : PlainIx b := by exact fun _ _ => rfl) : QE Y (.Subscript a b pos) (wOp rIx2 ta tb) := PE_imp (pe_ix (w_ix hu) ha hb hs) fun _ _ _ h => up_op h
/-! ### o[lo:hi] -/
abbrev WO := En → Me → (Option Int → Me → Prop) → Prop
def upO (c : Cb) (t : WO) : TO := fun σ H Q => ∃ ρ M Qw, StOk c ρ M σ H ∧ t ρ M Qw ∧ ∀ o M' H', Qw o M' → Go H M H' M' → Mo c.B H' M' → Q o H'
def QO (Y : Cy) (e : Option Expr) (t : WO) : Prop := PO Y.X e (upO Y.b t)
theorem PO_imp {X : Cx} {e : Option Expr} {t t' : TO} (h : PO X e t) (i : ∀ σ H Q, t' σ H Q → t σ H Q) : PO X e t' := ⟨fun pins s σ H Q I q => h.run pins s σ H Q I (i σ H Q q)⟩
def wNoPart : WO := fun _ M Q => Q none M
def wPart (t : WE) : WO := fun ρ M Q => t ρ M fun x M1 => match x with
  | .int i => Q (some i) M1
  | _ => False
theorem qo_none : QO Y none wNoPart := PO_imp po_none fun σ H Q ⟨ρ, M, Qw, so, q, k⟩ => k none M H q (Go.refl _ _) so.mo
theorem qo_some {e : Expr} {t : WE} (h : QE Y e t) : QO Y (some e) (wPart t) := PO_imp (po_some h) fun σ H Q ⟨ρ, M, Qw, so, q, k⟩ => ⟨ρ, M, _, so, q, fun w M1 v H1 q1 g r m => by
  split at q1
  · exact ⟨_, un_int r, k _ M1 H1 q1 g m⟩
  · exact q1.elim⟩
def cutW (xs : List W) (lo hi : Option Int) : List W := (xs.drop (HT.sIx xs.length 0 lo)).take (HT.sIx xs.length xs.length hi - HT.sIx xs.length 0 lo)
theorem cut_rep {K : PySem.W.Frag} {H : Hp} {xs : List W} {vs : List V} (r : Reps K H xs vs) (lo hi : Option Int) : Reps K H (cutW xs lo hi) (cutV vs lo hi) := by
  unfold cutW cutV
  rw [r.length]
  exact (r.drop _).take _
abbrev RSW := W → Option Int → Option Int → Me → WK → Prop
def upSl (B : Kx) (r : RSW) : V → Option Int → Option Int → Hp → VK → Prop := fun x lo hi H Q => ∃ wx M Qw, Rep B.K H wx x ∧ Mo B H M ∧ r wx lo hi M Qw ∧ ∀ w M' v H', Qw w M' → Go H M H' M' → Rep B.K H' w v → Mo B H' M' → Q v H'
theorem SlR_imp {X : Cx} {r r' : V → Option Int → Option Int → Hp → VK → Prop} (h : SlR X r) (i : ∀ x lo hi H Q, r' x lo hi H Q → r x lo hi H Q) : SlR X r' :=
  fun pins s σ H x v vl vu lo hi sl Q I rx hs pl pu q => h pins s σ H x v vl vu lo hi sl Q I rx hs pl pu (i x lo hi H Q q)
def rSl2 : RSW := fun x lo hi M Q => match x with
  | .tup xs => Q (.tup (cutW xs lo hi)) M
  | .cl xs => ∀ p, M p = none → Q (.ref p) (put M p (.lst (cutW xs lo hi)))
  | .str z => z.length ≤ sizeLine ∧ Q (.str (cutS z lo hi)) M
  | .ref a => match rdl (M a) with
    | some xs => ∀ p, M p = none → Q (.ref p) (put M p (.lst (cutW xs lo hi)))
    | none => False
  | _ => False
theorem w_slT {X : Cx} : SlR X (upSl X.kx fun x lo hi M Q => ∃ xs, x = .tup xs ∧ Q (.tup (cutW xs lo hi)) M) := SlR_imp sl_tupA fun x lo hi H Q ⟨wx, M, Qw, rx, m, ⟨xs, e, q⟩, k⟩ => by
  subst e
  obtain ⟨a, vs, e, s, rs⟩ := rx.untup
  refine ⟨a, vs, e, s, fun ⟨h1, h2⟩ => ?_, fun _ p hp => ?_⟩
  · refine k _ M _ H q (Go.refl _ _) (Rep.tup s ?_) m
    have e2 : cutW xs lo hi = xs := by
      unfold cutW
      rw [rs.length] at h1 h2
      rw [h1, h2, List.drop_zero, Nat.sub_zero, List.take_length]
    rw [e2]
    exact rs
  · exact k _ M _ _ q (Go.same (sameNew hp)) (Rep.tup (SqT.of upd_same) ((cut_rep rs lo hi).go (GoH.new hp))) (m.new hp)
theorem w_slL {X : Cx} : SlR X (upSl X.kx fun x lo hi M Q => ∃ a xs, x = .ref a ∧ rdl (M a) = some xs ∧ ∀ p, M p = none → Q (.ref p) (put M p (.lst (cutW xs lo hi)))) := SlR_imp sl_list fun x lo hi H Q ⟨wx, M, Qw, rx, m, ⟨a, xs, e, h, q⟩, k⟩ => by
  subst e
  obtain ⟨vs, s, rs⟩ := rdl_sq m h
  refine ⟨a, vs, un_ref rx, s, fun p hp => ?_⟩
  have g := GoH.new (o := .lst (cutV vs lo hi)) hp
  exact k _ _ _ _ (q p (m.free hp)) (Go.new hp) rep_ref (m.put g ⟨_, upd_same, (cut_rep rs lo hi).go g⟩)
theorem w_slC {X : Cx} : SlR X (upSl X.kx fun x lo hi M Q => ∃ xs, x = .cl xs ∧ ∀ p, M p = none → Q (.ref p) (put M p (.lst (cutW xs lo hi)))) := SlR_imp sl_list fun x lo hi H Q ⟨wx, M, Qw, rx, m, ⟨xs, e, q⟩, k⟩ => by
  subst e
  obtain ⟨a, vs, e, s, rs⟩ := rx.uncl
  refine ⟨a, vs, e, s.sq, fun p hp => ?_⟩
  have g := GoH.new (o := .lst (cutV vs lo hi)) hp
  exact k _ _ _ _ (q p (m.free hp)) (Go.new hp) rep_ref (m.put g ⟨_, upd_same, (cut_rep rs lo hi).go g⟩)
theorem w_slS {X : Cx} : SlR X (upSl X.kx fun x lo hi M Q => ∃ z, x = .str z ∧ z.length ≤ sizeLine ∧ Q (.str (cutS z lo hi)) M) := SlR_imp sl_str fun x lo hi H Q ⟨wx, M, Qw, rx, m, ⟨z, e, h, q⟩, k⟩ => by
  subst e
  exact ⟨z, un_str rx, h, k _ M _ H q (Go.refl _ _) rep_str m⟩
theorem w_sl {X : Cx} : SlR X (upSl X.kx rSl2) := SlR_imp (SlR.or w_slT (SlR.or w_slL (SlR.or w_slS w_slC))) fun x lo hi H Q ⟨wx, M, Qw, rx, m, q, k⟩ => by
  unfold rSl2 at q
  split at q
  · exact .inl ⟨_, M, Qw, rx, m, ⟨_, rfl, q⟩, k⟩
  · exact .inr (.inr (.inr ⟨_, M, Qw, rx, m, ⟨_, rfl, q⟩, k⟩))
  · exact .inr (.inr (.inl ⟨_, M, Qw, rx, m, ⟨_, rfl, q.1, q.2⟩, k⟩))
  · split at q
    · rename_i e
      exact .inr (.inl ⟨_, M, Qw, rx, m, ⟨_, _, rfl, e, q⟩, k⟩)
    · exact q.elim
  · exact q.elim
def wSl (t : WE) (tl th : WO) : WE := fun ρ M Q => t ρ M fun x M1 => tl ρ M1 fun l M2 => th ρ M2 fun u M3 => rSl2 x l u M3 Q
theorem q_sl {t : WE} {tl th : WO} {lo hi : Option Expr} (h : QE Y a t) (hl : QO Y lo tl) (hh : QO Y hi th) : QE Y (.Subscript a (.Slice lo hi none p2) pos) (wSl t tl th) := PE_imp (pe_slice w_sl h hl hh) fun σ H Q ⟨ρ, M, Qw, so, q, k⟩ =>
  ⟨ρ, M, _, so, q, fun wx M1 vx H1 q1 g1 r1 m1 => ⟨ρ, M1, _, so.step g1 m1, q1, fun l M2 H2 q2 g2 m2 => ⟨ρ, M2, _, so.step (g1.trans g2) m2, q2, fun u M3 H3 q3 g3 m3 =>
    ⟨wx, M3, Qw, (r1.go g2.h).go g3.h, m3, q3, fun w M' v H' q g r m => k w M' v H' q (((g1.trans g2).trans g3).trans g) r m⟩⟩⟩⟩
end
end PV
set_option maxHeartbeats 1000000
/-! PV: stores, methods, built-ins. -/
namespace PV
open PySem PySem.Spec PyProof.Rows L2

section
variable {X : Cx} {B : Kx} {K : PySem.W.Frag} {H : Hp} {M : Me}
/-! ### o[i] = v -/
def rSet3 : R3W := fun o i v M Q => match o with
  | .ref a => match M a with
    | some (.lst xs) => match i with
      | .int k => match ixN xs.length k with
        | some j => Q (put M a (.lst (xs.set j v)))
        | none => False
      | _ => False
    | some (.dK kvs) => match wkey i with
      | some k => kvs.length < sizeLine ∧ Q (put M a (.dK (place kvs k v)))
      | none => False
    | some (.dN kvs) => KeyOk i ∧ kvs.length < sizeLine ∧ Q (put M a (.dN (placeN kvs i v)))
    | _ => False
  | _ => False
theorem PSet.or {r r' : TSet} (h : PSet X r) (h' : PSet X r') : PSet X fun o i v H Q => r o i v H Q ∨ r' o i v H Q := fun pins s σ H o i v ov iv u Q I r1 r2 r3 q => by
  rcases q with q | q
  · exact h pins s σ H o i v ov iv u Q I r1 r2 r3 q
  · exact h' pins s σ H o i v ov iv u Q I r1 r2 r3 q
theorem wset_L : SetW X fun o i v M Q => ∃ a xs k j, o = .ref a ∧ M a = some (.lst xs) ∧ i = .int k ∧ ixN xs.length k = some j ∧ Q (put M a (.lst (xs.set j v))) :=
  PSet_imp set_list fun o i v H Q ⟨wo, wi, wv, M, Qw, r1, r2, r3, m, ⟨a, xs, n, j, e1, h, e2, hj, q⟩, k⟩ => by
    subst e1 e2
    obtain ⟨vs, h1, rs⟩ := m a _ h
    have g : GoH H (upd H a (.lst (vs.set j v))) := GoH.write h1 (fun _ z => nomatch z) (fun _ _ z => nomatch z)
    exact ⟨a, vs, n, j, un_ref r1, un_int r2, h1, by rw [rs.length]; exact hj, k _ _ q (Go.put g h) (m.put g ⟨_, upd_same, (rs.go g).set j (r3.go g)⟩)⟩
theorem wset_K (hu : X.A.units + 64 < cLine) : SetW X fun o i v M Q => ∃ a kvs k, o = .ref a ∧ M a = some (.dK kvs) ∧ wkey i = some k ∧ kvs.length < sizeLine ∧ Q (put M a (.dK (place kvs k v))) :=
  fun pins s σ H o i v ov iv u Q I q1 q2 q3 ⟨wo, wi, wv, M, Qw, r1, r2, r3, m, ⟨a, kvs, kk, e1, h, hk, hl, q⟩, k⟩ => by
    subst e1
    rw [un_ref r1] at q1
    cases q1
    obtain ⟨xs, h1, p⟩ := m a _ h
    have ek := wkey_V hk r2
    subst ek
    have g : GoH H (upd H a (.dK (putK xs kk v))) := GoH.write h1 (fun _ z => nomatch z) (fun _ _ z => nomatch z)
    have pl : kvs.length = xs.length := Paired.length p
    refine d_setItem (by omega) I (.inl ⟨xs, kk, h1, rfl, by rw [← pl]; exact hl, rfl⟩) q2 q3 fun s' I' => ⟨_, I', k _ _ q (Go.put g h) (m.put g ⟨_, upd_same, ?_⟩)⟩
    exact place_rel (Paired.mapP p fun _ _ ⟨e, r⟩ => ⟨e, r.go g⟩) kk (r3.go g)
theorem wset_N (hu : X.A.units + 64 < cLine) : SetW X fun o i v M Q => ∃ a kvs, o = .ref a ∧ M a = some (.dN kvs) ∧ KeyOk i ∧ kvs.length < sizeLine ∧ Q (put M a (.dN (placeN kvs i v))) :=
  fun pins s σ H o i v ov iv u Q I q1 q2 q3 ⟨wo, wi, wv, M, Qw, r1, r2, r3, m, ⟨a, kvs, e1, h, hk, hl, q⟩, k⟩ => by
    subst e1
    rw [un_ref r1] at q1
    cases q1
    obtain ⟨es, h1, hd, n⟩ := m a _ h
    obtain ⟨xs, p, dd⟩ := n_of I (.inl h1) n
    obtain ⟨b, e1, e2, ki⟩ := n_key I hk r2 q2
    subst e1 e2
    have pl : kvs.length = xs.length := Paired.length p
    refine wpAny_setItem_heap (n_room hu) ki dd (fun h' dd' hs => ?_) (by rw [← pl]; exact n.sz)
    obtain ⟨o', es', ep', g1, g2, g3, g4, _, g5⟩ := dd'
    have g : GoH H (upd H a (.ext (DRaw a es'))) := GoH.write h1 (fun _ z => nomatch z) (fun _ _ z => nomatch z)
    have I' : Inv X pins σ (upd H a (.ext (DRaw a es'))) { s with heap := h', toks := s.toks + (nestedKind X.prog X.w).draws (nk wi) } :=
      I.write (x := a) (e := a) (by rw [h1]; exact True.intro) (.inl rfl) (fun c u hc z => (hs.2 c hc).trans z) ⟨o', g1⟩
        ⟨⟨o', ep', g1, g2, g3⟩, ⟨o', g1⟩, fun h1 h2 ⟨o2, ep2, z1, z2⟩ st => ⟨o2, ep2, st _ z1, z2⟩⟩
    have p2 : Paired (NRow X.kx (upd H a (.ext (DRaw a es')))) (placeN kvs wi wv) (storedH xs (nk wi) b u) :=
      n_place (Paired.mapP p fun _ _ ⟨e1, r, kk, vv, rv, r2⟩ => ⟨e1, r.go g, kk, vv, rv, r2.go g⟩) hk (r2.go g) q3 (r3.go g)
    have len : (placeN kvs wi wv).length ≤ kvs.length + 1 := by
      unfold placeN
      split
      · rw [List.length_map]; omega
      · rw [List.length_append]; simp
    refine ⟨_, I', k _ _ q (Go.put g h) (m.put g ⟨es', upd_same, hd, ⟨by omega, _, p2, g4, g5⟩⟩)⟩
theorem w_set (hu : X.A.units + 64 < cLine) : SetW X rSet3 := PSet_imp (PSet.or wset_L (PSet.or (wset_K hu) (wset_N hu))) fun o i v H Q ⟨wo, wi, wv, M, Qw, r1, r2, r3, m, q, k⟩ => by
  have mk : ∀ {r : R3W}, r wo wi wv M Qw → up3 X.kx r o i v H Q := fun {r} q => ⟨wo, wi, wv, M, Qw, r1, r2, r3, m, q, k⟩
  unfold rSet3 at q
  split at q
  · split at q
    · rename_i e0
      split at q
      · split at q
        · rename_i e
          exact .inl (mk ⟨_, _, _, _, rfl, e0, rfl, e, q⟩)
        · exact q.elim
      · exact q.elim
    · rename_i e0
      split at q
      · rename_i e
        exact .inr (.inl (mk ⟨_, _, _, rfl, e0, e, q.1, q.2⟩))
      · exact q.elim
    · rename_i e0
      exact .inr (.inr (mk ⟨_, _, rfl, e0, q.1, q.2.1, q.2.2⟩))
    · exact q.elim
  · exact q.elim

/-! ### methods of lists -/
abbrev RMW := W → List W → Me → WK → Prop
def upM (B : Kx) (r : RMW) : V → List V → Hp → VK → Prop := fun x xs H Q => ∃ wx ws M Qw, Rep B.K H wx x ∧ Reps B.K H ws xs ∧ Mo B H M ∧ r wx ws M Qw ∧ ∀ w M' v H', Qw w M' → Go H M H' M' → Rep B.K H' w v → Mo B H' M' → Q v H'
theorem MtR_imp {id : String} {r r' : V → List V → Hp → VK → Prop} (h : MtR X id r) (i : ∀ x xs H Q, r' x xs H Q → r x xs H Q) : MtR X id r' := fun pins s σ H x xs v us Q I rx rs q => h pins s σ H x xs v us Q I rx rs (i x xs H Q q)
def rApp : RMW := fun x ws M Q => match x, ws with
  | .ref a, [w] => match M a with
    | some (.lst xs) => xs.length < sizeLine ∧ Q .non (put M a (.lst (xs ++ [w])))
    | _ => False
  | _, _ => False
theorem w_app : MtR X "list.append" (upM X.kx rApp) := MtR_imp mt_append fun x vs H Q ⟨wx, ws, M, Qw, rx, rs, m, q, k⟩ => by
  unfold rApp at q
  split at q
  · rename_i a w
    split at q
    · rename_i xs e
      obtain ⟨us, h1, r1⟩ := m a _ e
      obtain ⟨y, r, e2, ry, rn⟩ := rs.uncons
      have e3 := rn.unnil
      subst e2 e3
      have g : GoH H (upd H a (.lst (us ++ [y]))) := GoH.write h1 (fun _ z => nomatch z) (fun _ _ z => nomatch z)
      exact ⟨a, us, y, un_ref rx, rfl, h1, by rw [r1.length]; exact q.1, k _ _ _ _ q.2 (Go.put g e) rep_non (m.put g ⟨_, upd_same, (r1.go g).append (.cons (ry.go g) .nil)⟩)⟩
    · exact q.elim
  · exact q.elim
def rExt : RMW := fun x ws M Q => match x, ws with
  | .ref a, [.ref b] => match M a, M b with
    | some (.lst xs), some (.lst ys) => xs.length + ys.length ≤ sizeLine ∧ Q .non (put M a (.lst (xs ++ ys)))
    | _, _ => False
  | _, _ => False
theorem w_ext : MtR X "list.extend" (upM X.kx rExt) := MtR_imp mt_extend fun x vs H Q ⟨wx, ws, M, Qw, rx, rs, m, q, k⟩ => by
  unfold rExt at q
  split at q
  · rename_i a b
    split at q
    · rename_i xs ys e e'
      obtain ⟨us, h1, r1⟩ := m a _ e
      obtain ⟨zs, h2, r2⟩ := m b _ e'
      obtain ⟨y, r, e2, ry, rn⟩ := rs.uncons
      have e3 := rn.unnil
      have e4 := un_ref ry
      subst e2 e3 e4
      have g : GoH H (upd H a (.lst (us ++ zs))) := GoH.write h1 (fun _ z => nomatch z) (fun _ _ z => nomatch z)
      exact ⟨a, b, us, zs, un_ref rx, rfl, h1, h2, by rw [r1.length, r2.length]; exact q.1, k _ _ _ _ q.2 (Go.put g e) rep_non (m.put g ⟨_, upd_same, (r1.go g).append (r2.go g)⟩)⟩
    · exact q.elim
  · exact q.elim
/-- pop(), pop(i) -/
def rPop : RMW := fun x ws M Q => match x, ws with
  | .ref a, [] => match M a with
    | some (.lst xs) => match xs[xs.length - 1]? with
      | some w => Q w (put M a (.lst xs.dropLast))
      | none => False
    | _ => False
  | .ref a, [.int i] => match M a with
    | some (.lst xs) => (-(2 ^ 63) ≤ i ∧ i < 2 ^ 63) ∧ match seqIndex? i xs.length with
      | some j => match xs[j]? with
        | some w => Q w (put M a (.lst (xs.eraseIdx j)))
        | none => False
      | none => False
    | _ => False
  | _, _ => False
theorem w_pop : MtR X "list.pop" (upM X.kx rPop) := MtR_imp (MtR.or mt_pop mt_popAt) fun x vs H Q ⟨wx, ws, M, Qw, rx, rs, m, q, k⟩ => by
  unfold rPop at q
  split at q
  · rename_i a
    split at q
    · rename_i xs e
      split at q
      · rename_i w e'
        obtain ⟨us, h1, r1⟩ := m a _ e
        obtain ⟨y, h2, ry⟩ := r1.get e'
        have g : GoH H (upd H a (.lst us.dropLast)) := GoH.write h1 (fun _ z => nomatch z) (fun _ _ z => nomatch z)
        exact .inl ⟨a, us, y, un_ref rx, rs.unnil, h1, by rw [r1.length]; exact h2, k _ _ _ _ q (Go.put g e) (ry.go g) (m.put g ⟨_, upd_same, (r1.go g).dropLast⟩)⟩
      · exact q.elim
    · exact q.elim
  · rename_i a i
    split at q
    · rename_i xs e
      obtain ⟨hb, q⟩ := q
      split at q
      · rename_i j ej
        split at q
        · rename_i w e'
          obtain ⟨us, h1, r1⟩ := m a _ e
          obtain ⟨y, h2, ry⟩ := r1.get e'
          obtain ⟨z, r, e2, rz, rn⟩ := rs.uncons
          have e3 := rn.unnil
          have e4 := un_int rz
          subst e2 e3 e4
          have g : GoH H (upd H a (.lst (us.eraseIdx j))) := GoH.write h1 (fun _ z => nomatch z) (fun _ _ z => nomatch z)
          exact .inr ⟨a, us, i, j, y, un_ref rx, rfl, h1, hb.1, hb.2, by rw [r1.length]; exact ej, h2, k _ _ _ _ q (Go.put g e) (ry.go g) (m.put g ⟨_, upd_same, (r1.go g).eraseIdx j⟩)⟩
        · exact q.elim
      · exact q.elim
    · exact q.elim
  · exact q.elim
def rClr : RMW := fun x ws M Q => match x, ws with
  | .ref a, [] => match M a with
    | some (.lst xs) => Q .non (put M a (.lst []))
    | _ => False
  | _, _ => False
end
section
variable {Y : Cy} {o e : Expr} {es : List Expr} {name : Str} {apos cpos : Pos} {id : String} {r : RMW}
/-- a list's method with arguments, without -/
def wMt (r : RMW) (t : WE) (u : WA) : WE := fun ρ M Q => t ρ M fun x M1 => match x with
  | .ref a => (rdl (M1 a)).isSome = true ∧ u ρ M1 fun ws M2 => r (.ref a) ws M2 Q
  | _ => False
def wMt0 (r : RMW) (t : WE) : WE := fun ρ M Q => t ρ M fun x M1 => match x with
  | .ref a => (rdl (M1 a)).isSome = true ∧ r (.ref a) [] M1 Q
  | _ => False
theorem q_mt {t : WE} {u : WA} (slot : Slot "list" name id) (hty : typeOf (.builtin id) = pure (.type "method_descriptor")) (hm : MtR Y.X id (upM Y.X.kx r)) (ho : QE Y o t) (ha : QA Y (e :: es) u)
    (hbase : attributeBase o name Y.X.env (eval o Y.X.env) = eval o Y.X.env := by rfl)
    (hfew : ((backTo cpos (starEach (e :: es) Y.X.env)).all (fun x => !x.1) && (backToKw cpos (keywordEach [] Y.X.env)).all (fun x => x.1.isSome) && decide ((e :: es).length + ([] : List Keyword).length + (if ([] : List Keyword).isEmpty then 0 else 1) < 30)) = true := by rfl)
    (hline : (apos.endLine == cpos.line) = true := by rfl) (hs : starEach (e :: es) Y.X.env = (false, eval e Y.X.env) :: starEach es Y.X.env := by rfl) (hplain : (backTo cpos (starEach es Y.X.env)).any (·.1) = false := by rfl) :
    QE Y (.Call (.Attribute o name apos) (e :: es) [] cpos) (wMt r t u) :=
  PE_imp (pe_bm PySem.F.plainAttrs_list slot hty hm ho ha hbase hfew hline hs hplain) fun σ H Q ⟨ρ, M, Qw, so, q, k⟩ => ⟨ρ, M, _, so, q, fun wx M1 vx H1 q1 g1 r1 m1 => by
    split at q1
    · rename_i a
      obtain ⟨hr, q1⟩ := q1
      obtain ⟨xs, hx⟩ := Option.isSome_iff_exists.mp hr
      obtain ⟨vs, sq, _⟩ := rdl_sq m1 hx
      have e := un_ref r1
      subst e
      exact ⟨.inl ⟨rfl, vs, sq⟩, ρ, M1, _, so.step g1 m1, q1, fun ws M2 us H2 q2 g2 rs m2 => ⟨.ref a, ws, M2, Qw, rep_ref, rs, m2, q2, fun w M' v H' q g r m => k w M' v H' q ((g1.trans g2).trans g) r m⟩⟩
    · exact q1.elim⟩
theorem q_mt0 {t : WE} (slot : Slot "list" name id) (hty : typeOf (.builtin id) = pure (.type "method_descriptor")) (hm : MtR Y.X id (upM Y.X.kx r)) (ho : QE Y o t)
    (hbase : attributeBase o name Y.X.env (eval o Y.X.env) = eval o Y.X.env := by rfl) (hline : (apos.endLine == cpos.line) = true := by rfl) :
    QE Y (.Call (.Attribute o name apos) [] [] cpos) (wMt0 r t) :=
  PE_imp (pe_bm0 PySem.F.plainAttrs_list slot hty hm ho hbase hline) fun σ H Q ⟨ρ, M, Qw, so, q, k⟩ => ⟨ρ, M, _, so, q, fun wx M1 vx H1 q1 g1 r1 m1 => by
    split at q1
    · rename_i a
      obtain ⟨hr, q1⟩ := q1
      obtain ⟨xs, hx⟩ := Option.isSome_iff_exists.mp hr
      obtain ⟨vs, sq, _⟩ := rdl_sq m1 hx
      have e := un_ref r1
      subst e
      exact ⟨.inl ⟨rfl, vs, sq⟩, .ref a, [], M1, Qw, rep_ref, Reps.nil, m1, q1, fun w M' v H' q g r m => k w M' v H' q (g1.trans g) r m⟩
    · exact q1.elim⟩
end

/-! ### built-ins -/
section
variable {X : Cx} {B : Kx} {K : PySem.W.Frag} {H : Hp} {M : Me}
theorem args1 {w : W} {vs : List V} (r : Reps K H [w] vs) : ∃ v, vs = [v] ∧ Rep K H w v := by
  obtain ⟨v, vr, e, h1, h2⟩ := r.uncons
  rw [h2.unnil] at e
  exact ⟨v, e, h1⟩
theorem args2 {w x : W} {vs : List V} (r : Reps K H [w, x] vs) : ∃ v u, vs = [v, u] ∧ Rep K H w v ∧ Rep K H x u := by
  obtain ⟨v, vr, e, h1, h2⟩ := r.uncons
  obtain ⟨u, e2, h3⟩ := args1 h2
  rw [e2] at e
  exact ⟨v, u, e, h1, h3⟩
def rLen : RLW := fun ws M Q => match ws with
  | [.tup xs] => Q (.int (xs.length : Int)) M
  | [.str z] => z.length ≤ sizeLine ∧ Q (.int (z.length : Int)) M
  | [.cl xs] => Q (.int (xs.length : Int)) M
  | [.ref a] => match rdl (M a) with
    | some xs => Q (.int (xs.length : Int)) M
    | none => False
  | _ => False
theorem w_len : CallW X (.builtin "len") rLen := CallR_imp call_len fun xs H Q ⟨ws, M, Qw, rs, m, q, k⟩ => by
  unfold rLen at q
  split at q
  · obtain ⟨v, e, r⟩ := args1 rs
    subst e
    obtain ⟨a, vs, e, s, r2⟩ := r.untup
    subst e
    exact ⟨_, vs.length, rfl, .inr ⟨vs, s, rfl⟩, by rw [r2.length]; exact k _ M _ H q (Go.refl _ _) rep_int m⟩
  · obtain ⟨v, e, r⟩ := args1 rs
    subst e
    have e := un_str r
    subst e
    exact ⟨_, _, rfl, ⟨q.1, rfl⟩, k _ M _ H q.2 (Go.refl _ _) rep_int m⟩
  · obtain ⟨v, e, r⟩ := args1 rs
    subst e
    obtain ⟨a, vs, e, s, r2⟩ := r.uncl
    subst e
    exact ⟨_, vs.length, rfl, .inl ⟨vs, s.sq, rfl⟩, by rw [r2.length]; exact k _ M _ H q (Go.refl _ _) rep_int m⟩
  · obtain ⟨v, e, r⟩ := args1 rs
    subst e
    have e := un_ref r
    subst e
    split at q
    · rename_i e
      obtain ⟨vs, s, r2⟩ := rdl_sq m e
      exact ⟨_, vs.length, rfl, .inl ⟨vs, s, rfl⟩, by rw [r2.length]; exact k _ M _ H q (Go.refl _ _) rep_int m⟩
    · exact q.elim
  · exact q.elim
def rAbs : RLW := fun ws M Q => match ws with
  | [.int i] => Q (.int (i.natAbs : Int)) M
  | _ => False
theorem w_abs : CallW X (.builtin "abs") rAbs := CallR_imp call_abs fun xs H Q ⟨ws, M, Qw, rs, m, q, k⟩ => by
  unfold rAbs at q
  split at q
  · rename_i i
    obtain ⟨v, e, r⟩ := args1 rs
    subst e
    have e := un_int r
    subst e
    refine ⟨i, rfl, ?_⟩
    have e : (if i < 0 then -i else i) = (i.natAbs : Int) := by split <;> omega
    rw [e]
    exact k _ M _ H q (Go.refl _ _) rep_int m
  · exact q.elim
def rMax2W : RLW := fun ws M Q => match ws with
  | [.int i, .int j] => Q (.int (max i j)) M
  | _ => False
def rMin2W : RLW := fun ws M Q => match ws with
  | [.int i, .int j] => Q (.int (min i j)) M
  | _ => False
theorem w_max2 (hc : X.calm = true) : CallW X (.builtin "max") rMax2W := CallR_imp (call_max2 hc) fun xs H Q ⟨ws, M, Qw, rs, m, q, k⟩ => by
  unfold rMax2W at q
  split at q
  · rename_i i j
    obtain ⟨v, u, e, r1, r2⟩ := args2 rs
    have e1 := un_int r1
    have e2 := un_int r2
    subst e e1 e2
    refine ⟨i, j, rfl, ?_⟩
    have e : (if j > i then j else i) = max i j := by rw [Int.max_def]; split <;> split <;> omega
    rw [e]
    exact k _ M _ H q (Go.refl _ _) rep_int m
  · exact q.elim
theorem w_min2 (hc : X.calm = true) : CallW X (.builtin "min") rMin2W := CallR_imp (call_min2 hc) fun xs H Q ⟨ws, M, Qw, rs, m, q, k⟩ => by
  unfold rMin2W at q
  split at q
  · rename_i i j
    obtain ⟨v, u, e, r1, r2⟩ := args2 rs
    have e1 := un_int r1
    have e2 := un_int r2
    subst e e1 e2
    refine ⟨i, j, rfl, ?_⟩
    have e : (if j < i then j else i) = min i j := by rw [Int.min_def]; split <;> split <;> omega
    rw [e]
    exact k _ M _ H q (Go.refl _ _) rep_int m
  · exact q.elim
def b2i (b : Bool) : Int := if b then 1 else 0
def rInt : RLW := fun ws M Q => match ws with
  | [.int i] => Q (.int i) M
  | [.bl b] => Q (.int (b2i b)) M
  | _ => False
theorem w_int : CallW X (.type "int") rInt := CallR_imp call_int1 fun xs H Q ⟨ws, M, Qw, rs, m, q, k⟩ => by
  unfold rInt at q
  split at q
  · obtain ⟨v, e, r⟩ := args1 rs
    have e1 := un_int r
    subst e e1
    exact .inl ⟨_, rfl, k _ M _ H q (Go.refl _ _) rep_int m⟩
  · obtain ⟨v, e, r⟩ := args1 rs
    have e1 := un_bl r
    subst e e1
    exact .inr ⟨_, rfl, k _ M _ H q (Go.refl _ _) rep_int m⟩
  · exact q.elim
/-- tuple(x), list(x) of lists and tuples -/
def rTup : RLW := fun ws M Q => match ws with
  | [.tup xs] => Q (.tup xs) M
  | [.ref a] => match rdl (M a) with
    | some xs => Q (.tup xs) M
    | none => False
  | _ => False
theorem w_tup : CallW X (.type "tuple") rTup := CallR_imp call_tuple_of fun xs H Q ⟨ws, M, Qw, rs, m, q, k⟩ => by
  unfold rTup at q
  split at q
  · obtain ⟨v, e, r⟩ := args1 rs
    subst e
    obtain ⟨a, vs, e, s, r2⟩ := r.untup
    subst e
    exact ⟨a, vs, rfl, .inr ⟨s, k _ M _ H q (Go.refl _ _) (Rep.tup s r2) m⟩⟩
  · obtain ⟨v, e, r⟩ := args1 rs
    subst e
    have e := un_ref r
    subst e
    split at q
    · rename_i e
      obtain ⟨vs, s, r2⟩ := rdl_sq m e
      exact ⟨_, vs, rfl, .inl ⟨s, fun l hl => k _ M _ _ q (Go.same (sameNew hl)) (Rep.tup (SqT.of upd_same) (r2.go (GoH.new hl))) (m.new hl)⟩⟩
    · exact q.elim
  · exact q.elim
def rLst : RLW := fun ws M Q => match ws with
  | [.tup xs] => ∀ p, M p = none → Q (.ref p) (put M p (.lst xs))
  | [.cl xs] => ∀ p, M p = none → Q (.ref p) (put M p (.lst xs))
  | [.ref a] => match rdl (M a) with
    | some xs => ∀ p, M p = none → Q (.ref p) (put M p (.lst xs))
    | none => False
  | _ => False
theorem w_lst : CallW X (.type "list") rLst := CallR_imp call_list_of fun xs H Q ⟨ws, M, Qw, rs, m, q, k⟩ => by
  have fin : ∀ {ys : List W} {vs : List V} {l : Addr}, Reps X.K H ys vs → H l = none → (∀ p, M p = none → Qw (.ref p) (put M p (.lst ys))) → Q (.ref l) (upd H l (.lst vs)) := fun {ys vs l} r hl q =>
    k _ _ _ _ (q l (m.free hl)) (Go.new hl) rep_ref (m.put (GoH.new hl) ⟨vs, upd_same, r.go (GoH.new hl)⟩)
  unfold rLst at q
  split at q
  · obtain ⟨v, e, r⟩ := args1 rs
    subst e
    obtain ⟨a, vs, e, s, r2⟩ := r.untup
    subst e
    exact ⟨a, vs, rfl, .inr s, fun l hl => fin r2 hl q⟩
  · obtain ⟨v, e, r⟩ := args1 rs
    subst e
    obtain ⟨a, vs, e, s, r2⟩ := r.uncl
    subst e
    exact ⟨a, vs, rfl, .inl s.sq, fun l hl => fin r2 hl q⟩
  · obtain ⟨v, e, r⟩ := args1 rs
    subst e
    have e := un_ref r
    subst e
    split at q
    · rename_i e
      obtain ⟨vs, s, r2⟩ := rdl_sq m e
      exact ⟨_, vs, rfl, .inl s, fun l hl => fin r2 hl q⟩
    · exact q.elim
  · exact q.elim
/-- all(list of truths) -/
def rAll2 : RLW := fun ws M Q => match ws with
  | [.ref a] => ∃ bs : List Bool, rdl (M a) = some (bs.map W.bl) ∧ Q (.bl (bs.all fun b => b)) M
  | _ => False
theorem bls_rep : ∀ {bs : List Bool} {vs : List V}, Reps K H (bs.map W.bl) vs → vs = bs.map V.bl
  | [], _, r => r.unnil
  | b :: bs, vs, r => by
    obtain ⟨v, vr, e, h1, h2⟩ := r.uncons
    rw [e, un_bl h1, bls_rep h2]; rfl
theorem w_all (hc : X.calm = true) : CallW X (.builtin "all") rAll2 := CallR_imp (cr_all hc) fun xs H Q ⟨ws, M, Qw, rs, m, q, k⟩ => by
  unfold rAll2 at q
  split at q
  · obtain ⟨v, e, r⟩ := args1 rs
    subst e
    have e := un_ref r
    subst e
    obtain ⟨bs, h, q⟩ := q
    obtain ⟨vs, s, r2⟩ := rdl_sq m h
    rw [bls_rep r2] at s
    exact ⟨_, bs, rfl, s, k _ M _ H q (Go.refl _ _) rep_bl m⟩
  · exact q.elim
/-- sum(list of whole numbers) -/
def rSum2 : RLW := fun ws M Q => match ws with
  | [.ref a] => ∃ ns : List Int, rdl (M a) = some (ns.map W.int) ∧ Q (.int ns.sum) M
  | _ => False
theorem w_sum (hc : X.calm = true) : CallW X (.builtin "sum") rSum2 := CallR_imp (cr_sum hc) fun xs H Q ⟨ws, M, Qw, rs, m, q, k⟩ => by
  unfold rSum2 at q
  split at q
  · obtain ⟨v, e, r⟩ := args1 rs
    subst e
    have e := un_ref r
    subst e
    obtain ⟨ns, h, q⟩ := q
    obtain ⟨vs, s, r2⟩ := rdl_sq m h
    rw [r2.ints] at s
    exact ⟨_, ns, rfl, s, k _ M _ H q (Go.refl _ _) rep_int m⟩
  · exact q.elim
/-- sorted(list of whole numbers), sorted(dict by whole numbers: below 64) -/
def rSorted2 : RLW := fun ws M Q => match ws with
  | [.ref a] => (∃ ns : List Int, rdl (M a) = some (ns.map W.int) ∧ ∀ ns' : List Int, ns'.Perm ns → ns'.Pairwise (· ≤ ·) → ∀ p, M p = none → Q (.ref p) (put M p (.lst (ns'.map W.int)))) ∨
    (∃ (kvs : List (Key × W)) (ks : List Int), rdK (M a) = some kvs ∧ kvs.map (·.1) = ks.map Sum.inl ∧ ks.length < 64 ∧ ∀ ns' : List Int, ns'.Perm ks → ns'.Pairwise (· ≤ ·) → ∀ p, M p = none → Q (.ref p) (put M p (.lst (ns'.map W.int))))
  | _ => False
theorem w_sorted (hc : X.calm = true) : CallW X (.builtin "sorted") rSorted2 := CallR_imp (CallR.or cr_sortedI (call_sortedDI hc)) fun xs H Q ⟨ws, M, Qw, rs, m, q, k⟩ => by
  unfold rSorted2 at q
  split at q
  · obtain ⟨v, e, r⟩ := args1 rs
    subst e
    have e := un_ref r
    subst e
    rcases q with ⟨ns, h, q⟩ | ⟨kvs, ks, h, e1, h2, q⟩
    · obtain ⟨vs, s, r2⟩ := rdl_sq m h
      rw [r2.ints] at s
      refine .inl ⟨_, ns, rfl, s, fun ns' p h1 h2 hp => ?_⟩
      exact k _ _ _ _ (q ns' h1 h2 p (m.free hp)) (Go.new hp) rep_ref (m.put (GoH.new hp) ⟨_, upd_same, Reps.of_ints⟩)
    · obtain ⟨xs, rd, p⟩ := rdK_rd m h
      have e2 : xs.map (·.1) = kvs.map (·.1) := by
        clear rd h e1 q
        induction p with
        | nil => rfl
        | cons r _ ih => rw [List.map_cons, List.map_cons, ih, r.1]
      refine .inr ⟨_, xs, ks, rfl, rd, e2.trans e1, h2, fun ns' p h1 h2 hp => ?_⟩
      exact k _ _ _ _ (q ns' h1 h2 p (m.free hp)) (Go.new hp) rep_ref (m.put (GoH.new hp) ⟨_, upd_same, Reps.of_ints⟩)
  · exact q.elim
end

/-! ### isinstance, a new dict, module constants -/
inductive Tn where
  | int | bool | str | tuple | list | dict
def Tn.nm : Tn → String
  | .int => "int" | .bool => "bool" | .str => "str" | .tuple => "tuple" | .list => "list" | .dict => "dict"
def Tn.has : Tn → W → Option Ob → Option Bool
  | .int, .int _, _ => some true
  | .int, .bl _, _ => some true
  | .bool, .bl _, _ => some true
  | .str, .str _, _ => some true
  | .tuple, .tup _, _ => some true
  | .list, .ref _, some (.lst _) => some true
  | .list, .cl _, _ => some true
  | .dict, .ref _, some (.dK _) => some true
  | .dict, .ref _, some (.lkK _) => some true
  | _, .ref _, some (.lst _) => some false
  | _, .ref _, some (.dK _) => some false
  | _, .ref _, some (.lkK _) => some false
  | _, .ref _, _ => none
  | _, _, _ => some false
end PV
set_option maxHeartbeats 1000000
/-! PV: isinstance, new dicts, constants of the module. -/
namespace PV
open PySem PySem.Spec PyProof.Rows L2

section
variable {Y : Cy} {e : Expr} {pos p p2 : Pos} {K : PySem.W.Frag} {H : Hp} {B : Kx} {M : Me}
def obOf (M : Me) : W → Option Ob
  | .ref a => M a
  | _ => none
def wIsi (T : Tn) (t : WE) : WE := fun ρ M Q => t ρ M fun x M1 => match T.has x (obOf M1 x) with
  | some b => Q (.bl b) M1
  | none => False
theorem ty_tup {ws : List W} {v : V} (r : Rep K H (.tup ws) v) : TyX K H v (.type "tuple") := by
  obtain ⟨a, vs, e, s, _⟩ := r.untup
  subst e
  rcases s with (h | ⟨o, h⟩) | ⟨o, its, n, h1, h2, _⟩
  · exact .base (.tup h)
  · exact .fTuple h
  · exact .kTuple h1 h2
/-- a value's type by its form -/
def tyN : W → Option Ob → Option String
  | .non, _ => some "NoneType"
  | .bl _, _ => some "bool"
  | .int _, _ => some "int"
  | .str _, _ => some "str"
  | .tup _, _ => some "tuple"
  | .ref _, some (.lst _) => some "list"
  | .cl _, _ => some "list"
  | .ref _, some (.dK _) => some "dict"
  | .ref _, some (.lkK _) => some "dict"
  | .ref _, _ => none
theorem ty_of {w : W} {v : V} {n : String} (m : Mo B H M) (r : Rep B.K H w v) (h : tyN w (obOf M w) = some n) : TyX B.K H v (.type n) := by
  cases w with
  | non => cases h; rw [un_non r]; exact .base .non
  | bl b => cases h; rw [un_bl r]; exact .base (.bl b)
  | int i => cases h; rw [un_int r]; exact .base (.int i)
  | str x => cases h; rw [un_str r]; exact .base (.str x)
  | tup ws => cases h; exact ty_tup r
  | cl ws =>
    cases h
    obtain ⟨a, vs, e, s, _⟩ := r.uncl
    subst e
    rcases s with ⟨o, s⟩ | ⟨o, its, n, h1, h2, _⟩
    · exact .base (.frz s)
    · exact .kList h1 h2
  | ref a =>
    rw [un_ref r]
    cases e : M a with
    | none => simp only [obOf, e, tyN] at h; cases h
    | some o =>
      simp only [obOf, e] at h
      cases o with
      | lst xs =>
        cases h
        obtain ⟨vs, h1, _⟩ := m a _ e
        exact .base (.lst h1)
      | dK xs =>
        cases h
        obtain ⟨vs, h1, _⟩ := m a _ e
        exact .base (.dK h1)
      | lkK xs =>
        cases h
        obtain ⟨o, vs, h1, _⟩ := m a _ e
        exact .fDict h1
      | _ => cases h
def kitN (n : String) (T : Tn) : Bool := n == T.nm || (n == "bool" && T.nm == "int")
theorem kit_all (T : Tn) : kitB "NoneType" T.nm = some (kitN "NoneType" T) ∧ kitB "bool" T.nm = some (kitN "bool" T) ∧ kitB "int" T.nm = some (kitN "int" T) ∧ kitB "str" T.nm = some (kitN "str" T) ∧
    kitB "tuple" T.nm = some (kitN "tuple" T) ∧ kitB "list" T.nm = some (kitN "list" T) ∧ kitB "dict" T.nm = some (kitN "dict" T) := by
  cases T <;> decide +kernel
theorem has_kit {T : Tn} {w : W} {o : Option Ob} {b : Bool} (h : T.has w o = some b) : ∃ n, tyN w o = some n ∧ kitB n T.nm = some b := by
  obtain ⟨k1, k2, k3, k4, k5, k6, k7⟩ := kit_all T
  cases w with
  | non => refine ⟨_, rfl, ?_⟩; cases T <;> cases h <;> exact k1
  | bl x => refine ⟨_, rfl, ?_⟩; cases T <;> cases h <;> exact k2
  | int x => refine ⟨_, rfl, ?_⟩; cases T <;> cases h <;> exact k3
  | str x => refine ⟨_, rfl, ?_⟩; cases T <;> cases h <;> exact k4
  | tup x => refine ⟨_, rfl, ?_⟩; cases T <;> cases h <;> exact k5
  | cl x => refine ⟨_, rfl, ?_⟩; cases T <;> cases h <;> exact k6
  | ref a =>
    cases o with
    | none => cases T <;> cases h
    | some o =>
      cases o with
      | lst x => refine ⟨_, rfl, ?_⟩; cases T <;> cases h <;> exact k6
      | dK x => refine ⟨_, rfl, ?_⟩; cases T <;> cases h <;> exact k7
      | lkK x => refine ⟨_, rfl, ?_⟩; cases T <;> cases h <;> exact k7
      | _ => cases T <;> cases h
theorem q_isi {x : Str} (T : Tn) {t : WE} (h : QE Y e t) (hg : Gl Y.X "isinstance") (hm : Y.X.mg "isinstance" = none) (hgT : Gl Y.X x) (hmT : Y.X.mg x = none) (hv : bootBuiltins x = some (.type T.nm) := by decide +kernel) (hn : x ≠ "__name__" := by decide)
    (hdb : (x == ("__debug__" : Str)) = false := by decide) (hs : starEach [e, .Name x p2] Y.X.env = (false, eval e Y.X.env) :: starEach [.Name x p2] Y.X.env := by rfl) (hs2 : starEach [.Name x p2] Y.X.env = (false, eval (.Name x p2) Y.X.env) :: starEach [] Y.X.env := by rfl)
    (hpl : (backTo pos (starEach [.Name x p2] Y.X.env)).any (·.1) = false := by rfl) :
    QE Y (.Call (.Name "isinstance" p) [e, .Name x p2] [] pos) (wIsi T t) :=
  PE_imp (pe_callB (id := "isinstance") call_isi hg hm (by decide +kernel) (pa_cons h (pa_cons (pe_bltn (v := .ty T.nm) hgT hmT hv rfl hn hdb) pa_nil hs2) hs) (by decide) (by decide) hs hpl) fun σ H Q ⟨ρ, M, Qw, so, q, k⟩ => ⟨ρ, M, _, so, q, fun w M1 v H1 q1 g r m => by
    split at q1
    · rename_i b e
      obtain ⟨n, h1, h2⟩ := has_kit e
      exact ⟨v, .ty T.nm, .type n, .type T.nm, b, rfl, .ty _, ty_of m r h1, kit_ty h2, k _ M1 _ H1 q1 g rep_bl m⟩
    · exact q1.elim⟩
def wNewK : WE := fun _ M Q => ∀ p, M p = none → Q (.ref p) (put M p (.dK []))
def wNewN : WE := fun _ M Q => ∀ p, M p = none → Q (.ref p) (put M p (.dN []))
theorem q_newK : QE Y (.Dict [] [] pos) wNewK := PE_imp pe_dnewK fun σ H Q ⟨ρ, M, Qw, so, q, k⟩ => fun p hp => k _ _ _ _ (q p (so.mo.free hp)) (Go.new hp) rep_ref (so.mo.put (GoH.new hp) ⟨[], upd_same, .nil⟩)
theorem pe_newN {X : Cx} : PE X (.Dict [] [] pos) (fun _ H Q => ∀ p, H p = none → (p == sysModules) = false → Q (.ref p) (upd H p (.ext (DRaw p #[])))) := ⟨fun pins s σ H Q I h => by
  have nb : (s.heap.objs.size == sysModules) = false := beq_eq_false_iff_ne.mpr (Nat.ne_of_gt I.big)
  have hn : H s.heap.objs.size = none := I.hok.fresh (Nat.le_refl _)
  refine wpAny_Dict_empty ⟨.ref s.heap.objs.size, upd H s.heap.objs.size (.ext (DRaw s.heap.objs.size #[])), I.laid (t' := s.toks) (fun b u e => Heap.get?_push_of_some _ e) (Nat.le_refl _) ?_, rfl, h _ hn nb⟩
  have hd : DRaw s.heap.objs.size #[] (s.heap.push { cls := .type "dict", data := .dict #[] }) := ⟨_, 0, Heap.get?_push_size _ rfl, ⟨rfl, rfl, rfl⟩, rfl⟩
  exact ⟨hd, ⟨_, Heap.get?_push_size _ rfl⟩, fun h1 h2 ⟨o2, ep2, z1, z2⟩ st => ⟨o2, ep2, st _ z1, z2⟩⟩⟩
theorem q_newN : QE Y (.Dict [] [] pos) wNewN := PE_imp pe_newN fun σ H Q ⟨ρ, M, Qw, so, q, k⟩ => fun p hp hs =>
  k _ _ _ _ (q p (so.mo.free hp)) (Go.new hp) rep_ref (so.mo.put (GoH.new hp) ⟨#[], upd_same, hs, ⟨Nat.zero_le _, [], .nil, rfl, List.nodup_nil⟩⟩)
/-- a constant of the module -/
theorem q_glob {x : Str} {v : V} {w : W} {u : Value} (hg : Gl Y.X x) (hm : Y.X.mg x = some u) (rv : RelV v u) (r : ∀ H, Rep Y.X.K H w v) (hd : (x == ("__debug__" : Str)) = false := by decide) : QE Y (.Name x pos) (wC w) := q_const (pe_glob hg hm rv hd) r
theorem q_globI {x : Str} {i : Int} (hm : ∃ t, Y.X.mg x = some (.int i t)) (hg : Gl Y.X x := by rfl) (hd : (x == ("__debug__" : Str)) = false := by decide) : QE Y (.Name x pos) (wC (.int i)) := hm.elim fun t hm => q_glob (v := .int i) hg hm ⟨_, rfl⟩ (fun _ => rep_int) hd
theorem q_globS {x z : Str} (hm : ∃ t, Y.X.mg x = some (.str z t)) (hg : Gl Y.X x := by rfl) (hd : (x == ("__debug__" : Str)) = false := by decide) : QE Y (.Name x pos) (wC (.str z)) := hm.elim fun t hm => q_glob (v := .str z) hg hm ⟨_, rfl⟩ (fun _ => rep_str) hd
theorem q_chain {op op' : CmpOp} {r r' : R2W} {a b c : Expr} {ta tb tc : WE} (ho : OpW Y.X (compareOp op) r) (ho' : OpW Y.X (compareOp op') r') (ha : QE Y a ta) (hb : QE Y b tb) (hc : QE Y c tc)
    (hm : lastMarks [op, op'] [b, c] = false := by with_unfolding_all rfl) : QE Y (.Compare a [op, op'] [b, c] pos) (wChain r r' ta tb tc) := PE_imp (pe_chain ho ho' ha hb hc hm) fun _ _ _ h => up_chain h
theorem qt_chain {op op' : CmpOp} {r r' : R2W} {a b c : Expr} {ta tb tc : WE} (ho : OpW Y.X (compareOp op) r) (ho' : OpW Y.X (compareOp op') r') (ha : QE Y a ta) (hb : QE Y b tb) (hc : QE Y c tc)
    (hm : lastMarks [op, op'] [b, c] = false := by with_unfolding_all rfl) : QT Y (.Compare a [op, op'] [b, c] pos) (wB (wChain r r' ta tb tc)) := PT_imp (pt_chain ho ho' ha hb hc hm) fun σ H Q ⟨ρ, M, Qw, so, q, k⟩ =>
  up_chain (Q := fun v H1 => ∃ k, v = .bl k ∧ Q k H1) ⟨ρ, M, _, so, q, fun w M1 v H1 q1 g r m => by
    split at q1
    · exact ⟨_, un_bl r, k _ M1 H1 q1 g m⟩
    · exact q1.elim⟩
end
end PV
set_option maxHeartbeats 1000000
/-! PV: loops in use, the law's end. -/
namespace PV
open PySem PySem.Spec PyProof.Rows L2

section
variable {f : ItW} {g : WG} {tt : WT} {te : WE} {tb : WS} {D : Eds} {ρ : En} {M : Me} {Q : WK} {vs : List Nat}
/-- what a turn is to reach -/
abbrev nxt (D : Eds) (I : En → Me → Prop) : Eds := { D with nx := fun ρ' M' => ∃ M0, Sub M0 M' ∧ I ρ' M0, ct := fun ρ' M' => ∃ M0, Sub M0 M' ∧ I ρ' M0, bk := D.nx }
theorem for_c {ws : List W} (I : Nat → En → Me → Prop) (h0 : I 0 ρ M) (hs : ∀ i w ρ M, ws[i]? = some w → I i ρ M → g w ρ M (tb (nxt D (I (i + 1))))) (hd : ∀ ρ M, I ws.length ρ M → D.nx ρ M) : wForB (fun _ => some ws) g tb D ρ M :=
  ⟨fun i ρ M => i ≤ ws.length ∧ I i ρ M, ws.length, ⟨Nat.zero_le _, h0⟩, fun i ρ M h => h.1, fun i ρ M ⟨hi, h⟩ => ⟨ws, rfl, fun w hw => by
    have hl : i + 1 ≤ ws.length := (List.getElem?_eq_some_iff.mp hw).1
    have z := hs i w ρ M hw h
    have e : (fun i => (fun ρ' (M' : Me) => ∃ M0, Sub M0 M' ∧ I i ρ' M0)) = fun i => fun ρ' M' => ∃ M0, Sub M0 M' ∧ I i ρ' M0 := rfl
    have e2 : (fun (ρ' : En) (M' : Me) => ∃ M0, Sub M0 M' ∧ I (i + 1) ρ' M0) = fun ρ' M' => ∃ M0, Sub M0 M' ∧ (i + 1 ≤ ws.length ∧ I (i + 1) ρ' M0) := by
      funext ρ' M'
      exact propext ⟨fun ⟨M0, a, b⟩ => ⟨M0, a, hl, b⟩, fun ⟨M0, a, _, b⟩ => ⟨M0, a, b⟩⟩
    unfold nxt at z
    rw [e2] at z
    exact z, fun hl => hd ρ M (by
      have e : i = ws.length := by omega
      rw [← e]; exact h)⟩⟩
theorem for_l {a : Addr} {ws : List W} (I : Nat → En → Me → Prop) (h0 : I 0 ρ M) (hl : ∀ i ρ M, I i ρ M → M a = some (.lst ws)) (hs : ∀ i w ρ M, ws[i]? = some w → I i ρ M → g w ρ M (tb (nxt D (I (i + 1))))) (hd : ∀ ρ M, I ws.length ρ M → D.nx ρ M) : wForB (fun M => rdl (M a)) g tb D ρ M :=
  ⟨fun i ρ M => i ≤ ws.length ∧ I i ρ M, ws.length, ⟨Nat.zero_le _, h0⟩, fun i ρ M h => h.1, fun i ρ M ⟨hi, h⟩ => ⟨ws, by show rdl (M a) = some ws; rw [hl i ρ M h]; rfl, fun w hw => by
    have hl : i + 1 ≤ ws.length := (List.getElem?_eq_some_iff.mp hw).1
    have z := hs i w ρ M hw h
    have e2 : (fun (ρ' : En) (M' : Me) => ∃ M0, Sub M0 M' ∧ I (i + 1) ρ' M0) = fun ρ' M' => ∃ M0, Sub M0 M' ∧ (i + 1 ≤ ws.length ∧ I (i + 1) ρ' M0) := by
      funext ρ' M'
      exact propext ⟨fun ⟨M0, a, b⟩ => ⟨M0, a, hl, b⟩, fun ⟨M0, a, _, b⟩ => ⟨M0, a, b⟩⟩
    unfold nxt at z
    rw [e2] at z
    exact z, fun hl => hd ρ M (by
      have e : i = ws.length := by omega
      rw [← e]; exact h)⟩⟩
theorem rngW_len (lo hi : Int) : (rngW lo hi).length = (hi - lo).toNat := by unfold rngW; rw [List.length_map, List.length_range]
theorem rngW_get {lo hi : Int} {i : Nat} {w : W} (h : (rngW lo hi)[i]? = some w) : w = .int (lo + (i : Int)) ∧ (i : Int) < hi - lo := by
  unfold rngW at h
  rw [List.getElem?_map] at h
  by_cases hl : i < (hi - lo).toNat
  · rw [List.getElem?_range hl] at h
    exact ⟨(by simpa using h.symm), by omega⟩
  · rw [List.getElem?_eq_none (by simpa using hl)] at h; cases h
/-- over range(lo, hi) -/
theorem for_r {lo hi : Int} (I : Nat → En → Me → Prop) (h0 : I 0 ρ M) (hs : ∀ (i : Nat) ρ M, (i : Int) < hi - lo → I i ρ M → g (.int (lo + (i : Int))) ρ M (tb (nxt D (I (i + 1))))) (hd : ∀ ρ M, I (hi - lo).toNat ρ M → D.nx ρ M) : wForB (fun _ => some (rngW lo hi)) g tb D ρ M :=
  for_c I h0 (fun i w ρ M hw h => by
    obtain ⟨e, hl⟩ := rngW_get hw
    rw [e]
    exact hs i ρ M hl h) (fun ρ M h => hd ρ M (by rw [rngW_len] at h; exact h))
/-- a while -/
theorem while_w {c : WT} (I : Nat → En → Me → Prop) (m : Nat) (h0 : I m ρ M) (hs : ∀ m ρ M, I m ρ M → c ρ M fun x M1 => match x with
    | true => tb (nxt D (fun ρ' M' => ∃ m', m' < m ∧ I m' ρ' M')) ρ M1
    | false => D.nx ρ M1) : wWhile c tb D ρ M := ⟨I, ⟨m, h0⟩, hs⟩

/-! comprehensions -/
theorem lc_c {ws : List W} (hz : ws.length ≤ 16000000) (I : Nat → List W → Me → Prop) (h0 : I 0 [] M)
    (hs : ∀ i acc w M, ws[i]? = some w → I i acc M → g w (wWipe ρ vs) M fun ρ2 M2 => tt ρ2 M2 fun b M3 => match b with
      | true => te ρ2 M3 fun y M4 => ∃ M0, Sub M0 M4 ∧ I (i + 1) (acc ++ [y]) M0
      | false => ∃ M0, Sub M0 M3 ∧ I (i + 1) acc M0) (hd : ∀ acc M, I ws.length acc M → ∀ p, M p = none → Q (.ref p) (put M p (.lst acc))) : wLcB (fun _ => some ws) g tt te vs ρ M Q := by
  refine ⟨fun i acc M => i ≤ ws.length ∧ acc.length ≤ i ∧ I i acc M, ws.length, ⟨Nat.zero_le _, Nat.le_refl _, h0⟩, fun i acc M h => h.1, fun i acc M ⟨hi, ha, h⟩ => ⟨?_, ws, rfl, fun w hw => ?_, fun hl => hd acc M (by
      have e : i = ws.length := by omega
      rw [← e]; exact h)⟩⟩
  · have : (16777216 : Nat) = sizeLine := sizeLine_eq.symm
    omega
  · have hl : i + 1 ≤ ws.length := (List.getElem?_eq_some_iff.mp hw).1
    have z := hs i acc w M hw h
    have e1 : ∀ (y : W) (M4 : Me), (∃ M0, Sub M0 M4 ∧ I (i + 1) (acc ++ [y]) M0) = ∃ M0, Sub M0 M4 ∧ (i + 1 ≤ ws.length ∧ (acc ++ [y]).length ≤ i + 1 ∧ I (i + 1) (acc ++ [y]) M0) := fun y M4 =>
      propext ⟨fun ⟨M0, a, b⟩ => ⟨M0, a, hl, by rw [List.length_append]; simp; omega, b⟩, fun ⟨M0, a, _, _, b⟩ => ⟨M0, a, b⟩⟩
    have e2 : ∀ (M3 : Me), (∃ M0, Sub M0 M3 ∧ I (i + 1) acc M0) = ∃ M0, Sub M0 M3 ∧ (i + 1 ≤ ws.length ∧ acc.length ≤ i + 1 ∧ I (i + 1) acc M0) := fun M3 =>
      propext ⟨fun ⟨M0, a, b⟩ => ⟨M0, a, hl, by omega, b⟩, fun ⟨M0, a, _, _, b⟩ => ⟨M0, a, b⟩⟩
    simp only [e1, e2] at z
    exact z
theorem lc_l {a : Addr} {ws : List W} (hz : ws.length ≤ 16000000) (I : Nat → List W → Me → Prop) (h0 : I 0 [] M) (hr : ∀ i acc M, I i acc M → M a = some (.lst ws))
    (hs : ∀ i acc w M, ws[i]? = some w → I i acc M → g w (wWipe ρ vs) M fun ρ2 M2 => tt ρ2 M2 fun b M3 => match b with
      | true => te ρ2 M3 fun y M4 => ∃ M0, Sub M0 M4 ∧ I (i + 1) (acc ++ [y]) M0
      | false => ∃ M0, Sub M0 M3 ∧ I (i + 1) acc M0) (hd : ∀ acc M, I ws.length acc M → ∀ p, M p = none → Q (.ref p) (put M p (.lst acc))) : wLcB (fun M => rdl (M a)) g tt te vs ρ M Q := by
  refine ⟨fun i acc M => i ≤ ws.length ∧ acc.length ≤ i ∧ I i acc M, ws.length, ⟨Nat.zero_le _, Nat.le_refl _, h0⟩, fun i acc M h => h.1, fun i acc M ⟨hi, ha, h⟩ => ⟨?_, ws, by show rdl (M a) = some ws; rw [hr i acc M h]; rfl, fun w hw => ?_, fun hl => hd acc M (by
      have e : i = ws.length := by omega
      rw [← e]; exact h)⟩⟩
  · have : (16777216 : Nat) = sizeLine := sizeLine_eq.symm
    omega
  · have hl : i + 1 ≤ ws.length := (List.getElem?_eq_some_iff.mp hw).1
    have z := hs i acc w M hw h
    have e1 : ∀ (y : W) (M4 : Me), (∃ M0, Sub M0 M4 ∧ I (i + 1) (acc ++ [y]) M0) = ∃ M0, Sub M0 M4 ∧ (i + 1 ≤ ws.length ∧ (acc ++ [y]).length ≤ i + 1 ∧ I (i + 1) (acc ++ [y]) M0) := fun y M4 =>
      propext ⟨fun ⟨M0, a, b⟩ => ⟨M0, a, hl, by rw [List.length_append]; simp; omega, b⟩, fun ⟨M0, a, _, _, b⟩ => ⟨M0, a, b⟩⟩
    have e2 : ∀ (M3 : Me), (∃ M0, Sub M0 M3 ∧ I (i + 1) acc M0) = ∃ M0, Sub M0 M3 ∧ (i + 1 ≤ ws.length ∧ acc.length ≤ i + 1 ∧ I (i + 1) acc M0) := fun M3 =>
      propext ⟨fun ⟨M0, a, b⟩ => ⟨M0, a, hl, by omega, b⟩, fun ⟨M0, a, _, _, b⟩ => ⟨M0, a, b⟩⟩
    simp only [e1, e2] at z
    exact z
theorem filter_take {ws : List W} {i : Nat} {w : W} {p : W → Bool} {v : W → W} (h : ws[i]? = some w) : ((ws.take (i + 1)).filter p).map v = ((ws.take i).filter p).map v ++ (if p w = true then [v w] else []) := by
  have e : ws.take (i + 1) = ws.take i ++ [w] := by rw [List.take_succ, h]; rfl
  rw [e, List.filter_append, List.map_append]
  by_cases hp : p w = true
  · rw [if_pos hp, List.filter_cons, if_pos hp]; rfl
  · rw [if_neg hp, List.filter_cons, if_neg hp]; rfl
/-- the block changes nothing -/
theorem lc_fm {ws : List W} (hf : f M = some ws) (hz : ws.length ≤ 16000000) (p : W → Bool) (v : W → W)
    (hs : ∀ (i : Nat) (w : W), ws[i]? = some w → ∀ (R : WK) (R0 : Me → Prop), (p w = true → ∀ M4, Sub M M4 → R (v w) M4) → (p w = false → ∀ M3, Sub M M3 → R0 M3) →
      g w (wWipe ρ vs) M fun ρ2 M2 => tt ρ2 M2 fun b M3 => match b with
      | true => te ρ2 M3 R
      | false => R0 M3) (hd : ∀ q, M q = none → Q (.ref q) (put M q (.lst ((ws.filter p).map v)))) : wLcB f g tt te vs ρ M Q := by
  refine ⟨fun i acc M' => M' = M ∧ i ≤ ws.length ∧ acc = ((ws.take i).filter p).map v, ws.length, ⟨rfl, Nat.zero_le _, by simp⟩, fun i acc M h => h.2.1, fun i acc M' ⟨e, hi, ha⟩ => ⟨?_, ws, by rw [e]; exact hf, fun w hw => ?_, fun hl => ?_⟩⟩
  · have : (16777216 : Nat) = sizeLine := sizeLine_eq.symm
    have h1 : acc.length ≤ i := by
      rw [ha, List.length_map]
      have := List.length_filter_le p (ws.take i)
      rw [List.length_take] at this
      omega
    omega
  · subst e
    have hl : i + 1 ≤ ws.length := (List.getElem?_eq_some_iff.mp hw).1
    have ft := filter_take (p := p) (v := v) hw
    exact hs i w hw _ _ (fun hp M4 s => ⟨M', s, rfl, hl, by rw [ft, if_pos hp, ha]⟩) (fun hp M3 s => ⟨M', s, rfl, hl, by rw [ft, if_neg (by rw [hp]; exact Bool.false_ne_true), ha, List.append_nil]⟩)
  · subst e
    have e2 : acc = (ws.filter p).map v := by
      rw [ha]
      have : i = ws.length := by omega
      rw [this, List.take_length]
    rw [e2]
    exact hd
/-- .. and keeps all -/
theorem lc_m {ws : List W} (hf : f M = some ws) (hz : ws.length ≤ 16000000) (v : W → W)
    (hs : ∀ (i : Nat) (w : W), ws[i]? = some w → ∀ (R : WK), (∀ M4, Sub M M4 → R (v w) M4) → g w (wWipe ρ vs) M fun ρ2 M2 => te ρ2 M2 R) (hd : ∀ q, M q = none → Q (.ref q) (put M q (.lst (ws.map v)))) : wLcB f g wYes te vs ρ M Q :=
  lc_fm hf hz (fun _ => true) v (fun i w hw R R0 h1 _ => hs i w hw R (h1 rfl)) (by rw [show ws.filter (fun _ => true) = ws from List.filter_eq_self.mpr (fun _ _ => rfl)]; exact hd)
end
/-! ### draws: a list of whole numbers that is used up -/
theorem put_none {M : Me} {a b : Addr} {o : Ob} : put M a o b = none ↔ b ≠ a ∧ M b = none := by
  unfold put
  by_cases h : b = a
  · simp [h]
  · simp [h]
/-- all but a as it was (new things aside), at a a list of whole numbers -/
def DrS (a : Addr) (M M' : Me) : Prop := (∀ b o, b ≠ a → M b = some o → M' b = some o) ∧ ∃ ds : List Int, M' a = some (.lst (ds.map W.int))
section
variable {a p : Addr} {M M' : Me} {o : Ob} {ds : List Int}
theorem DrS.refl (h : M a = some (.lst (ds.map W.int))) : DrS a M M := ⟨fun _ _ _ h => h, ds, h⟩
theorem DrS.step (h : DrS a M M') : DrS a M (put M' a (.lst (ds.map W.int))) := ⟨fun b o n e => by rw [put_ne n]; exact h.1 b o n e, ds, put_same⟩
theorem DrS.new (h : DrS a M M') (n : M' p = none) : DrS a M (put M' p o) := ⟨fun b u ne e => put_old (h.1 b u ne e) n, h.2.elim fun ds e => ⟨ds, put_old e n⟩⟩
theorem DrS.trans {M2 : Me} (h : DrS a M M') (h2 : DrS a M' M2) : DrS a M M2 := ⟨fun b o n e => h2.1 b o n (h.1 b o n e), h2.2⟩
/-- a local thing changes -/
theorem DrS.loc {u : Ob} (h : DrS a M M') (n : M p = none) (ne : p ≠ a) : DrS a M (put M' p u) := ⟨fun b x nb e => by
  rw [put_ne (fun z => by rw [z, n] at e; cases e)]; exact h.1 b x nb e, h.2.elim fun ds e => ⟨ds, by rw [put_ne (Ne.symm ne)]; exact e⟩⟩
theorem DrS.sub (h : DrS a M M') : ∃ ds : List Int, Sub (put M a (.lst (ds.map W.int))) M' := by
  obtain ⟨h1, ds, h2⟩ := h
  refine ⟨ds, fun b o e => ?_⟩
  by_cases n : b = a
  · subst n; rw [put_same] at e; cases e; exact h2
  · rw [put_ne n] at e; exact h1 b o n e
end
/-! ### places of short lists -/
section
variable {α : Type} {a b c d e : α} {r : List α}
theorem atI_of {xs : List α} {i : Int} {v : α} (h0 : 0 ≤ i) (h : xs[i.toNat]? = some v) : atI xs i = some v := by
  have h1 := atI_nat h
  rw [Int.toNat_of_nonneg h0] at h1
  exact h1
theorem atI_0 : atI (a :: r) 0 = some a := atI_of (by decide) rfl
theorem atI_1 : atI (a :: b :: r) 1 = some b := atI_of (by decide) rfl
theorem atI_2 : atI (a :: b :: c :: r) 2 = some c := atI_of (by decide) rfl
theorem atI_3 : atI (a :: b :: c :: d :: r) 3 = some d := atI_of (by decide) rfl
theorem atI_4 : atI (a :: b :: c :: d :: e :: r) 4 = some e := atI_of (by decide) rfl
theorem atI_m1 : atI [a] (-1) = some a := rfl
theorem atI_m2 : atI [a, b] (-1) = some b := rfl
theorem atI_m3 : atI [a, b, c] (-1) = some c := rfl
theorem atI_m4 : atI [a, b, c, d] (-1) = some d := rfl
theorem atI_m5 : atI [a, b, c, d, e] (-1) = some e := rfl
end
theorem cut_1 {a : W} {r : List W} : cutW (a :: r) (some 1) none = r := by
  unfold cutW
  rw [show HT.sIx (a :: r).length 0 (some 1) = min 1 (a :: r).length from HT.sIx_nat _ 0 1, HT.sIx_none, List.length_cons, show min 1 (r.length + 1) = 1 by omega]
  show List.take (r.length + 1 - 1) r = r
  rw [Nat.add_sub_cancel, List.take_length]
theorem sIx_n (n d k : Nat) : HT.sIx n d (some (k : Int)) = min k n := HT.sIx_nat n d k
/-- xs[:k], xs[k:] -/
theorem cut_to {xs : List W} (k : Nat) : cutW xs none (some (k : Int)) = xs.take k := by
  unfold cutW
  rw [sIx_n, HT.sIx_none, List.drop_zero, Nat.sub_zero, List.take_eq_take_iff]
  omega
theorem cut_from {xs : List W} (k : Nat) : cutW xs (some (k : Int)) none = xs.drop k := by
  unfold cutW
  rw [sIx_n, HT.sIx_none]
  by_cases h : k ≤ xs.length
  · rw [Nat.min_eq_left h, List.take_of_length_le (by rw [List.length_drop]; omega)]
  · rw [Nat.min_eq_right (by omega), List.drop_length, List.drop_eq_nil_of_le (by omega)]
    simp
theorem rdl_l {xs : List W} : rdl (some (.lst xs)) = some xs := rfl
theorem wst1 {N : List Str} {a : W} : wStart N [a] = some a :: List.replicate (N.length - 1) none := rfl
theorem wst2 {N : List Str} {a b : W} : wStart N [a, b] = some a :: some b :: List.replicate (N.length - 2) none := rfl
theorem wst3 {N : List Str} {a b c : W} : wStart N [a, b, c] = some a :: some b :: some c :: List.replicate (N.length - 3) none := rfl
theorem wst4 {N : List Str} {a b c d : W} : wStart N [a, b, c, d] = some a :: some b :: some c :: some d :: List.replicate (N.length - 4) none := rfl
theorem wst5 {N : List Str} {a b c d e : W} : wStart N [a, b, c, d, e] = some a :: some b :: some c :: some d :: some e :: List.replicate (N.length - 5) none := rfl
/-! ### the law's end -/
/-- the promise of a law -/
def spLaw : PSp := fun ws _ Q _ => ∃ ns : List Int, ws = [.cl (ns.map W.int)] ∧ ns.length ≤ 63 ∧ (∀ z ∈ ns, Builtin.Int.intBits z ≤ 1048576) ∧ ∀ M', Q (.bl true) M'
def spEnd (K : PySem.W.Frag) : Sp := fun vs H Q _ => ∃ (a : Addr) (ns : List Int), vs = [.ref a] ∧ SqL K H a (ns.map V.int) ∧ Only H ∧ ns.length ≤ 63 ∧ (∀ z ∈ ns, Builtin.Int.intBits z ≤ 1048576) ∧ ∀ H', Q (.bl true) H'
theorem end_of {P : Program} {w : World} {K : PySem.W.Frag} {mg : Str → Option Value} {base : Heap} {k : Nat} {f : Addr} {fd : FuncData} (F : FnOk P w K mg base CX0 k f fd ["script"] (upSp ⟨P, w, K⟩ spLaw)) : FnOk P w K mg base CX0 k f fd ["script"] (spEnd K) :=
  F.imp fun vs H Q E ⟨a, ns, e, s, ho, h1, h2, q⟩ => by
    have c : Cl K H a (ns.map V.int) := by
      rcases s with (h | ⟨o, h⟩) | h
      · rcases ho a with z | ⟨o, xs, z⟩
        · rw [h] at z; cases z
        · rw [h] at z; cases z
      · exact .inl ⟨o, h⟩
      · exact .inr h
    refine ⟨[.cl (ns.map W.int)], fun _ => none, fun w _ => w = .bl true, fun _ _ => False, ?_, fun b o z => (nomatch z), ⟨ns, rfl, h1, h2, fun _ => rfl⟩, fun w M' v H' hw _ r _ => ?_, fun _ _ _ z => z.elim⟩
    · rw [e]
      refine .cons ?_ .nil
      unfold Rep
      exact ⟨a, _, rfl, c, Reps.of_ints⟩
    · subst hw
      rw [un_bl r]
      exact q H'
theorem walkB {l : PySem.W.OpenLaw} {k : Nat} {q : Program} {loose : List Str} {XP : (Str → Option Value) → Heap → Prop} {YP : World → Heap → Prop} {d : DefRec} {K : Params → PySem.W.Frag}
    (hn : l.most = some 63) (hdf : d.params.defaults = []) (hr : Room k callerA) (hY : ∀ (w : World) (h : Heap), YP w h → (K w.params).In h)
    (F : ∀ (w : World) (mg : Str → Option Value) (fa : Addr) (h : Heap), (K w.params).In h → h.Ns mainGlobals mg → mg d.name = some (.ref fa) →
      ∃ fd : FuncData, (∀ (s : Shared) (u : Value), BindsTo s fd ⟨[u], []⟩ [("script", u)]) ∧ ∀ base : Heap, (K w.params).In base → base.Ns mainGlobals mg → FnOk l.prog w (K w.params) mg base CX0 k fa fd ["script"] (upSp ⟨l.prog, w, K w.params⟩ spLaw)) :
    PySem.W.WalkO q loose XP YP l.row.toRowW d [] (fun f vs => PySem.call f vs) :=
  L2.walk_ofB (n := 63) (k := k) (x := "script") (CX := fun _ => CX0) (sp := fun w => spEnd (K w.params)) hn (by decide) hdf hr hY
    (fun w mg fa h X G e => by
      obtain ⟨fd, h1, h2⟩ := F w mg fa h X G e
      exact ⟨fd, h1, fun base X G => end_of (h2 base X G)⟩)
    (fun _ _ a ns hl hb ho hS => ⟨a, ns, rfl, hS, ho, hl, hb, fun _ => rfl⟩) fun _ _ _ _ _ z => z
/-- a def of the top: where it stands and what it is -/
theorem top_fn {K : PySem.W.Frag} {h : Heap} {mg : Str → Option Value} (X : K.In h) (G : h.Ns mainGlobals mg) {x : Str} {st : Stmt} {f : Addr} {oc : Value} {od an : Option Addr} {osl : Array (Option Value)} {kV dc pm cd ct : Value}
    (a : PySem.W.nsIn K mainGlobals x = some (some (.ref f))) (l : K.lookup f = some ⟨oc, od, .func (PySem.W.fnOf x x (defArgs st) (defBody st) (defScope st) .none kV dc pm an cd ct), osl⟩) (c : PySem.W.codeIn K cd x = true) (k : PySem.W.keepIn K (.ref f) = true) :
    mg x = some (.ref f) ∧ PySem.W.keepIn K (.ref f) = true ∧ Fun K x x st f (PySem.W.fnOf x x (defArgs st) (defBody st) (defScope st) .none kV dc pm an cd ct) :=
  ⟨PySem.W.mg_of X G a, k, fun_mk (st := st) l c k⟩
end PV
set_option maxHeartbeats 1000000
/-! PV: stepping. -/
namespace PV
open PySem PySem.Spec PyProof.Rows L2
inductive Tg {κ : Type _} (k : κ) : Type where
  | mk | mk2
/-- simp keeps off k -/
def lz {κ : Type _} (P : κ → Prop) (k : κ) (_ : Tg k) : Prop := P k
def brn (b : Bool) (pq : Prop × Prop) : Prop := match b with
  | true => pq.1
  | false => pq.2
theorem brn_t {P Q : Prop} {tg : Tg (P, Q)} : lz (brn true) (P, Q) tg = P := propext Iff.rfl
theorem brn_f {P Q : Prop} {tg : Tg (P, Q)} : lz (brn false) (P, Q) tg = Q := propext Iff.rfl
theorem brn_dec {p : Prop} [Decidable p] {P Q : Prop} {tg : Tg (P, Q)} (h1 : p → P) (h2 : ¬ p → Q) : lz (brn (decide p)) (P, Q) tg := by
  by_cases h : p
  · rw [decide_eq_true h]; exact h1 h
  · rw [decide_eq_false h]; exact h2 h
theorem brn_i {b : Bool} {P Q : Prop} {tg : Tg (P, Q)} (h1 : b = true → P) (h2 : b = false → Q) : lz (brn b) (P, Q) tg := by
  cases b
  · exact h2 rfl
  · exact h1 rfl
def gt {α : Type} (o : Option α) (k : α → Prop) : Prop := match o with
  | some w => k w
  | none => False
theorem gt_some {α : Type} {w : α} {k : α → Prop} {tg : Tg k} : lz (gt (some w)) k tg = k w := propext Iff.rfl
theorem gt_of {α : Type} {o : Option α} {k : α → Prop} {tg : Tg k} {w : α} (h : o = some w) (q : k w) : lz (gt o) k tg := by rw [h]; exact q
def onB (x : W) (k : Bool → Prop) : Prop := match x with
  | .bl b => k b
  | _ => False
theorem onB_b {b : Bool} {k : Bool → Prop} {tg : Tg k} : lz (onB (.bl b)) k tg = k b := propext Iff.rfl
def frs (o : Ob) (M : Me) (k : WK) : Prop := ∀ p, M p = none → k (.ref p) (put M p o)
def spc (sp : PSp) (ws : List W) (M : Me) (Q : WK) : Prop := sp ws M Q noX
section
variable {t u : WT} {ta tb tc : WE} {r r' : R2W} {sp : PSp} {wa : WA} {s1 s2 : WS} {D : Eds} {ρ : En} {M : Me} {Q : WK} {QB : Bool → Me → Prop} {R : ItW → Me → Prop} {tgQ : Tg Q} {tgR : Tg R}
theorem s_and : wAnd t u ρ M QB = t ρ M fun x M1 => lz (brn x) (u ρ M1 QB, QB false M1) .mk := propext Iff.rfl
theorem s_or : wOr t u ρ M QB = t ρ M fun x M1 => lz (brn x) (QB true M1, u ρ M1 QB) .mk := propext Iff.rfl
theorem s_andV : wAndV ta tb ρ M Q = ta ρ M fun x M1 => lz (onB x) (fun b => lz (brn b) (tb ρ M1 Q, Q (.bl false) M1) .mk) .mk := by
  unfold wAndV; congr; funext x M1; cases x <;> try rfl
  rename_i b; cases b <;> rfl
theorem s_orV : wOrV ta tb ρ M Q = ta ρ M fun x M1 => lz (onB x) (fun b => lz (brn b) (Q (.bl true) M1, tb ρ M1 Q) .mk) .mk := by
  unfold wOrV; congr; funext x M1; cases x <;> try rfl
  rename_i b; cases b <;> rfl
theorem s_notV : wNotV ta ρ M Q = ta ρ M fun x M1 => lz (onB x) (fun b => Q (.bl (!b)) M1) .mk := propext Iff.rfl
theorem s_B : wB ta ρ M QB = ta ρ M fun x M1 => lz (onB x) (fun b => QB b M1) .mk := propext Iff.rfl
theorem s_if : wIf t ta tb ρ M Q = t ρ M fun x M1 => lz (brn x) (ta ρ M1 Q, tb ρ M1 Q) .mk := propext Iff.rfl
theorem s_ifS : wIfS t s1 s2 D ρ M = t ρ M fun x M1 => lz (brn x) (s1 D ρ M1, s2 D ρ M1) .mk := propext Iff.rfl
theorem s_chain : wChain r r' ta tb tc ρ M Q = ta ρ M fun x M1 => tb ρ M1 fun y M2 => lz (r x y M2) (fun z M3 => lz (onB z) (fun b => lz (brn b) (tc ρ M3 fun u M4 => lz (r' y u M4) Q .mk, Q (.bl false) M3) .mk) .mk) .mk := by
  unfold wChain; congr; funext x M1; congr; funext y M2; congr; funext z M3; cases z <;> try rfl
  rename_i b; cases b <;> rfl
theorem s_fn : wFn sp wa ρ M Q = wa ρ M fun ws M1 => lz (spc sp ws M1) Q .mk := propext Iff.rfl
def itS (x : W) (M : Me) (R : ItW → Me → Prop) : Prop := match x with
  | .tup ws => R (fun _ => some ws) M
  | .cl ws => R (fun _ => some ws) M
  | .ref a => (rdl (M a)).isSome = true ∧ R (fun M => rdl (M a)) M
  | _ => False
def tg1 (n : Nat) (w : W) (k : List W → Prop) : Prop := match w with
  | .tup ws => ws.length = n ∧ k ws
  | _ => False
theorem tg1_t {n : Nat} {ws : List W} {k : List W → Prop} {tg : Tg k} : lz (tg1 n (.tup ws)) k tg = (ws.length = n ∧ k ws) := propext Iff.rfl
theorem s_gtup {n : Nat} {gs : WGs} {w : W} {QE : En → Me → Prop} : wgTup n gs w ρ M QE = lz (tg1 n w) (fun ws => gs ws ρ M QE) .mk := propext Iff.rfl
theorem s_seq : wSeq s1 s2 D ρ M = s1 { D with nx := s2 D } ρ M := propext Iff.rfl
theorem s_next : wNext D ρ M = D.nx ρ M := propext Iff.rfl
theorem s_ret : wRet ta D ρ M = ta ρ M D.rt := propext Iff.rfl
theorem s_retN : wRetN D ρ M = D.rt .non M := propext Iff.rfl
theorem s_drop : wDrop ta D ρ M = ta ρ M fun _ M1 => D.nx ρ M1 := propext Iff.rfl
theorem s_set {i : Nat} : wSet i ta D ρ M = ta ρ M fun w M1 => D.nx (ρ.set i (some w)) M1 := propext Iff.rfl
theorem s_asg {g : WG} : wAsg ta g D ρ M = ta ρ M fun w M1 => g w ρ M1 D.nx := propext Iff.rfl
theorem s_gname {i : Nat} {w : W} {QE : En → Me → Prop} : wgName i w ρ M QE = QE (ρ.set i (some w)) M := propext Iff.rfl
theorem s_gnil {QE : En → Me → Prop} : wgNil [] ρ M QE = QE ρ M := propext Iff.rfl
theorem s_gcons {g : WG} {gs : WGs} {w : W} {ws : List W} {QE : En → Me → Prop} : wgCons g gs (w :: ws) ρ M QE = g w ρ M fun ρ' M' => gs ws ρ' M' QE := propext Iff.rfl
def ov (o : Option (Option W)) (k : W → Prop) : Prop := match o with
  | some (some w) => k w
  | _ => False
theorem ov_some {w : W} {k : W → Prop} {tg : Tg k} : lz (ov (some (some w))) k tg = k w := propext Iff.rfl
theorem s_var {i : Nat} : wVar i ρ M Q = lz (ov ρ[i]?) (fun w => Q w M) .mk := by
  unfold wVar lz ov; rcases ρ[i]? with _ | _ | w <;> rfl
theorem s_aug {i : Nat} {r : R2W} : wAug i ta r D ρ M = lz (ov ρ[i]?) (fun x => ta ρ M fun y M1 => lz (r x y M1) (fun z M2 => D.nx (ρ.set i (some z)) M2) .mk) .mk := by
  unfold wAug lz ov; rcases ρ[i]? with _ | _ | w <;> rfl
def par2 (ws : List W) (k : W × W → Prop) : Prop := match ws with
  | [x, y] => k (x, y)
  | _ => False
theorem par2_e {x y : W} {k : W × W → Prop} {tg : Tg k} : lz (par2 [x, y]) k tg = k (x, y) := propext Iff.rfl
theorem s_par {i j : Nat} : wPar i j wa D ρ M = wa ρ M fun ws M1 => lz (par2 ws) (fun xy => D.nx ((ρ.set i (some xy.1)).set j (some xy.2)) M1) .mk := by
  unfold wPar; congr
theorem s_c {w : W} : wC w ρ M Q = Q w M := propext Iff.rfl
theorem s_not : wNot t ρ M QB = t ρ M fun x M1 => QB (!x) M1 := propext Iff.rfl
variable {QL : List W → Me → Prop}
theorem s_nil : wNil ρ M QL = QL [] M := propext Iff.rfl
theorem s_cons : wCons ta wa ρ M QL = ta ρ M fun x M1 => wa ρ M1 fun xs M2 => QL (x :: xs) M2 := propext Iff.rfl
theorem s_tup : wTup wa ρ M Q = wa ρ M fun ws M1 => ws.length ≤ sizeLine ∧ Q (.tup ws) M1 := propext Iff.rfl
theorem s_lst : wLst wa ρ M Q = wa ρ M fun ws M1 => ws.length ≤ sizeLine ∧ lz (frs (.lst ws) M1) Q .mk := propext Iff.rfl
theorem s_nopart {QO : Option Int → Me → Prop} : wNoPart ρ M QO = QO none M := propext Iff.rfl
theorem s_newK : wNewK ρ M Q = lz (frs (.dK []) M) Q .mk := propext Iff.rfl
theorem s_newN : wNewN ρ M Q = lz (frs (.dN []) M) Q .mk := propext Iff.rfl
theorem s_yes : wYes ρ M QB = QB true M := propext Iff.rfl
theorem s_for {wi : WI} {g : WG} : wFor wi g s1 D ρ M = wi ρ M fun f M1 => wForB f g s1 D ρ M1 := propext Iff.rfl
theorem s_lc {wi : WI} {g : WG} {te : WE} {vs : List Nat} : wLc wi g t te vs ρ M Q = wi ρ M fun f M1 => wLcB f g t te vs ρ M1 Q := propext Iff.rfl
theorem s_op {r : R2W} : wOp r ta tb ρ M Q = ta ρ M fun x M1 => tb ρ M1 fun y M2 => lz (r x y M2) Q .mk := propext Iff.rfl
theorem s_un {r : R1W} : wUn r ta ρ M Q = ta ρ M fun x M1 => lz (r x M1) Q .mk := propext Iff.rfl
theorem s_call {r : RLW} : wCall r wa ρ M Q = wa ρ M fun ws M1 => lz (r ws M1) Q .mk := propext Iff.rfl
theorem s_gsub {r : R3W} {w : W} {QE : En → Me → Prop} : wgSub ta tb r w ρ M QE = ta ρ M fun o M1 => tb ρ M1 fun i M2 => lz (r o i w M2) (fun M3 => QE ρ M3) .mk := propext Iff.rfl
theorem s_sl {tl th : WO} : wSl ta tl th ρ M Q = ta ρ M fun x M1 => tl ρ M1 fun l M2 => th ρ M2 fun u M3 => lz (rSl2 x l u M3) Q .mk := propext Iff.rfl
theorem s_seqI : wiSeq ta ρ M R = ta ρ M fun x M1 => lz (itS x M1) R .mk := propext Iff.rfl
theorem itS_tup {ws : List W} : lz (itS (.tup ws) M) R tgR = R (fun _ => some ws) M := propext Iff.rfl
theorem itS_cl {ws : List W} : lz (itS (.cl ws) M) R tgR = R (fun _ => some ws) M := propext Iff.rfl
theorem itS_ref {a : Addr} : lz (itS (.ref a) M) R tgR = ((rdl (M a)).isSome = true ∧ R (fun M => rdl (M a)) M) := propext Iff.rfl
def rgO (ws : List W) (M : Me) (R : ItW → Me → Prop) : Prop := match ws with
  | [.int j] => (-(2 ^ 62) ≤ j ∧ j < 2 ^ 62) ∧ R (fun _ => some (rngW 0 j)) M
  | _ => False
def rgT (ws : List W) (M : Me) (R : ItW → Me → Prop) : Prop := match ws with
  | [.int i, .int j] => (-(2 ^ 62) ≤ i ∧ i < 2 ^ 62 ∧ -(2 ^ 62) ≤ j ∧ j < 2 ^ 62) ∧ R (fun _ => some (rngW i j)) M
  | _ => False
theorem s_rng1 : wiRng1 wa ρ M R = wa ρ M fun ws M1 => lz (rgO ws M1) R .mk := propext Iff.rfl
theorem s_rng2 : wiRng2 wa ρ M R = wa ρ M fun ws M1 => lz (rgT ws M1) R .mk := propext Iff.rfl
/-- a bound that a range may have -/
def rgB (j : Int) : Prop := -(2 ^ 62) ≤ j ∧ j < 2 ^ 62
theorem rgB_of {j : Int} (h1 : -(2 ^ 60) ≤ j) (h2 : j ≤ 2 ^ 60) : rgB j := ⟨by omega, by omega⟩
theorem rgO_i {j : Int} : lz (rgO [.int j] M) R tgR = (rgB j ∧ R (fun _ => some (rngW 0 j)) M) := propext Iff.rfl
theorem rgT_i {i j : Int} : lz (rgT [.int i, .int j] M) R tgR = ((rgB i ∧ rgB j) ∧ R (fun _ => some (rngW i j)) M) := by
  show ((-(2 ^ 62) ≤ i ∧ i < 2 ^ 62 ∧ -(2 ^ 62) ≤ j ∧ j < 2 ^ 62) ∧ _) = (((-(2 ^ 62) ≤ i ∧ i < 2 ^ 62) ∧ (-(2 ^ 62) ≤ j ∧ j < 2 ^ 62)) ∧ _); rw [and_assoc (a := -(2 ^ 62) ≤ i ∧ i < 2 ^ 62)]; simp only [and_assoc]
def prt (x : W) (k : Option Int → Prop) : Prop := match x with
  | .int i => k (some i)
  | _ => False
theorem prt_i {i : Int} {k : Option Int → Prop} {tg : Tg k} : lz (prt (.int i)) k tg = k (some i) := propext Iff.rfl
theorem s_part {QO : Option Int → Me → Prop} : wPart ta ρ M QO = ta ρ M fun x M1 => lz (prt x) (fun i => QO i M1) .mk := propext Iff.rfl
def mtS (r : RMW) (x : W) (ρ : En) (u : WA) (M : Me) (Q : WK) : Prop := match x with
  | .ref a => (rdl (M a)).isSome = true ∧ u ρ M fun ws M2 => r (.ref a) ws M2 Q
  | _ => False
theorem s_mt {r : RMW} : wMt r ta wa ρ M Q = ta ρ M fun x M1 => lz (mtS r x ρ wa M1) Q .mk := propext Iff.rfl
theorem mtS_r {r : RMW} {a : Addr} : lz (mtS r (.ref a) ρ wa M) Q tgQ = ((rdl (M a)).isSome = true ∧ wa ρ M fun ws M2 => lz (r (.ref a) ws M2) Q .mk) := propext Iff.rfl
def mtZ (r : RMW) (x : W) (M : Me) (Q : WK) : Prop := match x with
  | .ref a => (rdl (M a)).isSome = true ∧ r (.ref a) [] M Q
  | _ => False
theorem s_mt0 {r : RMW} : wMt0 r ta ρ M Q = ta ρ M fun x M1 => lz (mtZ r x M1) Q .mk := propext Iff.rfl
theorem mtZ_r {r : RMW} {a : Addr} : lz (mtZ r (.ref a) M) Q tgQ = ((rdl (M a)).isSome = true ∧ lz (r (.ref a) [] M) Q .mk) := propext Iff.rfl
def isQ (T : Tn) (x : W) (o : Option Ob) (k : Bool → Prop) : Prop := match T.has x o with
  | some b => k b
  | none => False
theorem s_isi {T : Tn} : wIsi T ta ρ M Q = ta ρ M fun x M1 => lz (isQ T x (obOf M1 x)) (fun b => Q (.bl b) M1) .mk := propext Iff.rfl

variable {b : Bool} {i j : Int} {z z' : Str} {ws xs ys : List W} {o : Option Ob} {kb : Bool → Prop} {a a' : Addr} {x y v : W} {kk : List (Key × W)} {kn : List (W × W)} {tgB : Tg kb}
theorem isQ_int_non : lz (isQ .int .non o) kb tgB = kb false := propext Iff.rfl
theorem isQ_int_bl : lz (isQ .int (.bl b) o) kb tgB = kb true := propext Iff.rfl
theorem isQ_int_int : lz (isQ .int (.int i) o) kb tgB = kb true := propext Iff.rfl
theorem isQ_int_str : lz (isQ .int (.str z) o) kb tgB = kb false := propext Iff.rfl
theorem isQ_int_tup : lz (isQ .int (.tup ws) o) kb tgB = kb false := propext Iff.rfl
theorem isQ_int_l : lz (isQ .int (.ref a) (some (.lst ws))) kb tgB = kb false := propext Iff.rfl
theorem isQ_int_k : lz (isQ .int (.ref a) (some (.dK kk))) kb tgB = kb false := propext Iff.rfl
theorem isQ_bool_non : lz (isQ .bool .non o) kb tgB = kb false := propext Iff.rfl
theorem isQ_bool_bl : lz (isQ .bool (.bl b) o) kb tgB = kb true := propext Iff.rfl
theorem isQ_bool_int : lz (isQ .bool (.int i) o) kb tgB = kb false := propext Iff.rfl
theorem isQ_bool_str : lz (isQ .bool (.str z) o) kb tgB = kb false := propext Iff.rfl
theorem isQ_bool_tup : lz (isQ .bool (.tup ws) o) kb tgB = kb false := propext Iff.rfl
theorem isQ_bool_l : lz (isQ .bool (.ref a) (some (.lst ws))) kb tgB = kb false := propext Iff.rfl
theorem isQ_bool_k : lz (isQ .bool (.ref a) (some (.dK kk))) kb tgB = kb false := propext Iff.rfl
theorem isQ_str_non : lz (isQ .str .non o) kb tgB = kb false := propext Iff.rfl
theorem isQ_str_bl : lz (isQ .str (.bl b) o) kb tgB = kb false := propext Iff.rfl
theorem isQ_str_int : lz (isQ .str (.int i) o) kb tgB = kb false := propext Iff.rfl
theorem isQ_str_str : lz (isQ .str (.str z) o) kb tgB = kb true := propext Iff.rfl
theorem isQ_str_tup : lz (isQ .str (.tup ws) o) kb tgB = kb false := propext Iff.rfl
theorem isQ_str_l : lz (isQ .str (.ref a) (some (.lst ws))) kb tgB = kb false := propext Iff.rfl
theorem isQ_str_k : lz (isQ .str (.ref a) (some (.dK kk))) kb tgB = kb false := propext Iff.rfl
theorem isQ_tuple_non : lz (isQ .tuple .non o) kb tgB = kb false := propext Iff.rfl
theorem isQ_tuple_bl : lz (isQ .tuple (.bl b) o) kb tgB = kb false := propext Iff.rfl
theorem isQ_tuple_int : lz (isQ .tuple (.int i) o) kb tgB = kb false := propext Iff.rfl
theorem isQ_tuple_str : lz (isQ .tuple (.str z) o) kb tgB = kb false := propext Iff.rfl
theorem isQ_tuple_tup : lz (isQ .tuple (.tup ws) o) kb tgB = kb true := propext Iff.rfl
theorem isQ_tuple_l : lz (isQ .tuple (.ref a) (some (.lst ws))) kb tgB = kb false := propext Iff.rfl
theorem isQ_tuple_k : lz (isQ .tuple (.ref a) (some (.dK kk))) kb tgB = kb false := propext Iff.rfl
theorem isQ_list_non : lz (isQ .list .non o) kb tgB = kb false := propext Iff.rfl
theorem isQ_list_bl : lz (isQ .list (.bl b) o) kb tgB = kb false := propext Iff.rfl
theorem isQ_list_int : lz (isQ .list (.int i) o) kb tgB = kb false := propext Iff.rfl
theorem isQ_list_str : lz (isQ .list (.str z) o) kb tgB = kb false := propext Iff.rfl
theorem isQ_list_tup : lz (isQ .list (.tup ws) o) kb tgB = kb false := propext Iff.rfl
theorem isQ_list_l : lz (isQ .list (.ref a) (some (.lst ws))) kb tgB = kb true := propext Iff.rfl
theorem isQ_list_k : lz (isQ .list (.ref a) (some (.dK kk))) kb tgB = kb false := propext Iff.rfl
theorem isQ_dict_non : lz (isQ .dict .non o) kb tgB = kb false := propext Iff.rfl
theorem isQ_dict_bl : lz (isQ .dict (.bl b) o) kb tgB = kb false := propext Iff.rfl
theorem isQ_dict_int : lz (isQ .dict (.int i) o) kb tgB = kb false := propext Iff.rfl
theorem isQ_dict_str : lz (isQ .dict (.str z) o) kb tgB = kb false := propext Iff.rfl
theorem isQ_dict_tup : lz (isQ .dict (.tup ws) o) kb tgB = kb false := propext Iff.rfl
theorem isQ_dict_l : lz (isQ .dict (.ref a) (some (.lst ws))) kb tgB = kb false := propext Iff.rfl
theorem isQ_dict_k : lz (isQ .dict (.ref a) (some (.dK kk))) kb tgB = kb true := propext Iff.rfl
theorem add_i : lz (rAdd2 (.int i) (.int j) M) Q tgQ = Q (.int (i + j)) M := propext Iff.rfl
theorem add_s : lz (rAdd2 (.str z) (.str z') M) Q tgQ = (z.length + z'.length ≤ sizeLine ∧ Q (.str (z ++ z')) M) := propext Iff.rfl
theorem add_t : lz (rAdd2 (.tup xs) (.tup ys) M) Q tgQ = (xs.length + ys.length ≤ sizeLine ∧ Q (.tup (xs ++ ys)) M) := propext Iff.rfl
def addO (o o' : Option Ob) (M : Me) (Q : WK) : Prop := match o, o' with
    | some (.lst xs), some (.lst ys) => xs.length + ys.length ≤ sizeLine ∧ ∀ p, M p = none → Q (.ref p) (put M p (.lst (xs ++ ys)))
    | _, _ => False

theorem add_l : lz (rAdd2 (.ref a) (.ref a') M) Q tgQ = lz (addO (M a) (M a') M) Q .mk := propext Iff.rfl
theorem addO_l : lz (addO (some (.lst xs)) (some (.lst ys)) M) Q tgQ = (xs.length + ys.length ≤ sizeLine ∧ lz (frs (.lst (xs ++ ys)) M) Q .mk) := propext Iff.rfl
theorem sub_i : lz (rSub2 (.int i) (.int j) M) Q tgQ = Q (.int (i - j)) M := propext Iff.rfl
theorem mul_i : lz (rMul2 (.int i) (.int j) M) Q tgQ = (MulOk i j ∧ Q (.int (i * j)) M) := propext Iff.rfl
theorem mul_t : lz (rMul2 (.tup xs) (.int j) M) Q tgQ = ((j ≤ 1000 ∧ xs.length ≤ 1000 ∧ 2 ≤ j ∧ xs ≠ []) ∧ Q (.tup (List.replicate j.toNat xs).flatten) M) := propext Iff.rfl
def mulO (o : Option Ob) (k : Int) (M : Me) (Q : WK) : Prop := match o with
    | some (.lst xs) => (-(2 ^ 63) ≤ k ∧ k < 2 ^ 63 ∧ xs.length * k.toNat ≤ sizeLine) ∧ ∀ p, M p = none → Q (.ref p) (put M p (.lst (List.replicate k.toNat xs).flatten))
    | _ => False

theorem mul_l : lz (rMul2 (.ref a) (.int j) M) Q tgQ = lz (mulO (M a) j M) Q .mk := propext Iff.rfl
theorem mulO_l : lz (mulO (some (.lst xs)) j M) Q tgQ = ((-(2 ^ 63) ≤ j ∧ j < 2 ^ 63 ∧ xs.length * j.toNat ≤ sizeLine) ∧ lz (frs (.lst (List.replicate j.toNat xs).flatten) M) Q .mk) := propext Iff.rfl
theorem lt_i : lz (rLt2 (.int i) (.int j) M) Q tgQ = Q (.bl (decide (i < j))) M := propext Iff.rfl
theorem le_i : lz (rLe2 (.int i) (.int j) M) Q tgQ = Q (.bl (decide (i ≤ j))) M := propext Iff.rfl
theorem gt_i : lz (rGt2 (.int i) (.int j) M) Q tgQ = Q (.bl (decide (j < i))) M := propext Iff.rfl
theorem ge_i : lz (rGe2 (.int i) (.int j) M) Q tgQ = Q (.bl (decide (j ≤ i))) M := propext Iff.rfl
theorem is_n : lz (rIs2 x .non M) Q tgQ = Q (.bl (isN x)) M := propext Iff.rfl
theorem isnot_n : lz (rIsNot2 x .non M) Q tgQ = Q (.bl (!isN x)) M := propext Iff.rfl
theorem is_b : lz (rIs2 (.bl b) (.bl true) M) Q tgQ = Q (.bl (decide (b = true))) M := propext Iff.rfl
theorem is_bf : lz (rIs2 (.bl b) (.bl false) M) Q tgQ = Q (.bl (decide (b = false))) M := propext Iff.rfl
theorem isnot_b : lz (rIsNot2 (.bl b) (.bl true) M) Q tgQ = Q (.bl (!decide (b = true))) M := propext Iff.rfl
theorem isnot_bf : lz (rIsNot2 (.bl b) (.bl false) M) Q tgQ = Q (.bl (!decide (b = false))) M := propext Iff.rfl
theorem eq_i : lz (rEq2 (.int i) (.int j) M) Q tgQ = Q (.bl (decide (i = j))) M := propext Iff.rfl
theorem eq_s : lz (rEq2 (.str z) (.str z') M) Q tgQ = Q (.bl (decide (z = z'))) M := propext Iff.rfl
theorem eq_b {b c : Bool} : lz (rEq2 (.bl b) (.bl c) M) Q tgQ = Q (.bl (decide (b = c))) M := propext Iff.rfl
theorem eq_t : lz (rEq2 (.tup xs) (.tup ys) M) Q tgQ = ((flt (.tup xs) && flt (.tup ys)) = true ∧ Q (.bl (weq (.tup xs) (.tup ys))) M) := propext Iff.rfl
def eqO (o o' : Option Ob) (M : Me) (Q : WK) : Prop := match rdl o, rdl o' with
    | some xs, some [] => Q (.bl (xs.isEmpty)) M
    | some xs, some ys => (flts xs && flts ys) = true ∧ Q (.bl (weqs xs ys)) M
    | _, _ => False

theorem eq_l : lz (rEq2 (.ref a) (.ref a') M) Q tgQ = lz (eqO (M a) (M a') M) Q .mk := by
  unfold lz rEq2 rEqS eqO
  dsimp only
  all_goals rcases rdl (M a) with _ | xs <;> rcases rdl (M a') with _ | _ | ys <;> rfl
theorem eqO_l : lz (eqO (some (.lst xs)) (some (.lst [])) M) Q tgQ = Q (.bl (xs.isEmpty)) M := propext Iff.rfl
theorem eqO_ll {y : W} : lz (eqO (some (.lst xs)) (some (.lst (y :: ys))) M) Q tgQ = ((flts xs && flts (y :: ys)) = true ∧ Q (.bl (weqs xs (y :: ys))) M) := propext Iff.rfl
theorem ne_i : lz (rNe2 (.int i) (.int j) M) Q tgQ = Q (.bl (!decide (i = j))) M := propext Iff.rfl
theorem ne_s : lz (rNe2 (.str z) (.str z') M) Q tgQ = Q (.bl (!decide (z = z'))) M := propext Iff.rfl
theorem ne_b {b c : Bool} : lz (rNe2 (.bl b) (.bl c) M) Q tgQ = Q (.bl (!decide (b = c))) M := propext Iff.rfl
theorem ne_t : lz (rNe2 (.tup xs) (.tup ys) M) Q tgQ = ((flt (.tup xs) && flt (.tup ys)) = true ∧ Q (.bl (!weq (.tup xs) (.tup ys))) M) := propext Iff.rfl
def neO (o o' : Option Ob) (M : Me) (Q : WK) : Prop := match rdl o, rdl o' with
    | some xs, some [] => Q (.bl (!xs.isEmpty)) M
    | some xs, some ys => (flts xs && flts ys) = true ∧ Q (.bl (!weqs xs ys)) M
    | _, _ => False

theorem ne_l : lz (rNe2 (.ref a) (.ref a') M) Q tgQ = lz (neO (M a) (M a') M) Q .mk := by
  unfold lz rNe2 rEqS neO
  dsimp only
  all_goals rcases rdl (M a) with _ | xs <;> rcases rdl (M a') with _ | _ | ys <;> rfl
theorem neO_l : lz (neO (some (.lst xs)) (some (.lst [])) M) Q tgQ = Q (.bl (!xs.isEmpty)) M := propext Iff.rfl
theorem neO_ll {y : W} : lz (neO (some (.lst xs)) (some (.lst (y :: ys))) M) Q tgQ = ((flts xs && flts (y :: ys)) = true ∧ Q (.bl (!weqs xs (y :: ys))) M) := propext Iff.rfl
theorem ix_t : lz (rIx2 (.tup xs) (.int i) M) Q tgQ = lz (gt (atI xs i)) (fun w => Q w M) .mk := by unfold lz rIx2 gt; dsimp only; cases (atI xs i) <;> rfl
theorem ix_c : lz (rIx2 (.cl xs) (.int i) M) Q tgQ = lz (gt (atI xs i)) (fun w => Q w M) .mk := by unfold lz rIx2 gt; dsimp only; cases (atI xs i) <;> rfl
def ixO (o : Option Ob) (y : W) (M : Me) (Q : WK) : Prop := match o with
    | some (.lst xs) => match y with
      | .int i => match atI xs i with
        | some w => Q w M
        | none => False
      | _ => False
    | some (.dK kvs) => match (wkey y).bind (look kvs) with
      | some w => Q w M
      | none => False
    | some (.lkK kvs) => match (wkey y).bind (look kvs) with
      | some w => Q w M
      | none => False
    | some (.dN kvs) => KeyOk y ∧ match lookN kvs y with
      | some w => Q w M
      | none => False
    | some (.lkN kvs) => KeyOk y ∧ match lookN kvs y with
      | some w => Q w M
      | none => False
    | _ => False

theorem ix_r : lz (rIx2 (.ref a) y M) Q tgQ = lz (ixO (M a) y M) Q .mk := propext Iff.rfl
theorem ixO_l : lz (ixO (some (.lst xs)) (.int i) M) Q tgQ = lz (gt (atI xs i)) (fun w => Q w M) .mk := by unfold lz ixO gt; dsimp only; cases (atI xs i) <;> rfl
theorem ixO_k : lz (ixO (some (.dK kk)) y M) Q tgQ = lz (gt ((wkey y).bind (look kk))) (fun w => Q w M) .mk := by unfold lz ixO gt; dsimp only; cases ((wkey y).bind (look kk)) <;> rfl
theorem ixO_lk : lz (ixO (some (.lkK kk)) y M) Q tgQ = lz (gt ((wkey y).bind (look kk))) (fun w => Q w M) .mk := by unfold lz ixO gt; dsimp only; cases ((wkey y).bind (look kk)) <;> rfl
theorem ixO_n : lz (ixO (some (.dN kn)) y M) Q tgQ = (KeyOk y ∧ lz (gt (lookN kn y)) (fun w => Q w M) .mk) := by unfold lz ixO gt; dsimp only; cases (lookN kn y) <;> rfl
theorem ixO_ln : lz (ixO (some (.lkN kn)) y M) Q tgQ = (KeyOk y ∧ lz (gt (lookN kn y)) (fun w => Q w M) .mk) := by unfold lz ixO gt; dsimp only; cases (lookN kn y) <;> rfl
def inO (o : Option Ob) (x : W) (Q : Bool → Prop) : Prop := match o with
    | some (.lst xs) => (flatW x && xs.all flatW) = true ∧ Q (inW x xs)
    | some (.dK kvs) => match wkey x with
      | some k => Q (look kvs k).isSome
      | none => False
    | some (.lkK kvs) => match wkey x with
      | some k => Q (look kvs k).isSome
      | none => False
    | some (.dN kvs) => KeyOk x ∧ Q (lookN kvs x).isSome
    | some (.lkN kvs) => KeyOk x ∧ Q (lookN kvs x).isSome
    | _ => False

theorem in_t : lz (rIn2 x (.tup xs) M) Q tgQ = ((flatW x && xs.all flatW) = true ∧ Q (.bl (inW x xs)) M) := propext Iff.rfl
theorem in_r : lz (rIn2 x (.ref a) M) Q tgQ = lz (inO (M a) x) (fun b => Q (.bl b) M) .mk := propext Iff.rfl
theorem nin_t : lz (rNotIn2 x (.tup xs) M) Q tgQ = ((flatW x && xs.all flatW) = true ∧ Q (.bl (!inW x xs)) M) := propext Iff.rfl
theorem nin_r : lz (rNotIn2 x (.ref a) M) Q tgQ = lz (inO (M a) x) (fun b => Q (.bl (!b)) M) .mk := propext Iff.rfl
theorem inO_l : lz (inO (some (.lst xs)) x) kb tgB = ((flatW x && xs.all flatW) = true ∧ kb (inW x xs)) := propext Iff.rfl
theorem inO_k : lz (inO (some (.dK kk)) x) kb tgB = lz (gt (wkey x)) (fun k => kb (look kk k).isSome) .mk := by unfold lz inO gt; dsimp only; cases (wkey x) <;> rfl
theorem inO_lk : lz (inO (some (.lkK kk)) x) kb tgB = lz (gt (wkey x)) (fun k => kb (look kk k).isSome) .mk := by unfold lz inO gt; dsimp only; cases (wkey x) <;> rfl
theorem inO_n : lz (inO (some (.dN kn)) x) kb tgB = (KeyOk x ∧ kb (lookN kn x).isSome) := propext Iff.rfl
theorem inO_ln : lz (inO (some (.lkN kn)) x) kb tgB = (KeyOk x ∧ kb (lookN kn x).isSome) := propext Iff.rfl
theorem wkey_i : wkey (.int i) = some (Sum.inl i) := rfl
theorem wkey_s : wkey (.str z) = some (Sum.inr z) := rfl
variable {lo hi : Option Int}
theorem sl_t : lz (rSl2 (.tup xs) lo hi M) Q tgQ = Q (.tup (cutW xs lo hi)) M := propext Iff.rfl
theorem sl_c : lz (rSl2 (.cl xs) lo hi M) Q tgQ = lz (frs (.lst (cutW xs lo hi)) M) Q .mk := propext Iff.rfl
def slO (o : Option Ob) (lo hi : Option Int) (M : Me) (Q : WK) : Prop := match rdl o with
    | some xs => ∀ p, M p = none → Q (.ref p) (put M p (.lst (cutW xs lo hi)))
    | none => False

theorem sl_r : lz (rSl2 (.ref a) lo hi M) Q tgQ = lz (slO (M a) lo hi M) Q .mk := propext Iff.rfl
theorem slO_l : lz (slO (some (.lst xs)) lo hi M) Q tgQ = lz (frs (.lst (cutW xs lo hi)) M) Q .mk := propext Iff.rfl
theorem len_t : lz (rLen [.tup xs] M) Q tgQ = Q (.int (xs.length : Int)) M := propext Iff.rfl
theorem len_c : lz (rLen [.cl xs] M) Q tgQ = Q (.int (xs.length : Int)) M := propext Iff.rfl
theorem len_s : lz (rLen [.str z] M) Q tgQ = (z.length ≤ sizeLine ∧ Q (.int (z.length : Int)) M) := propext Iff.rfl
def lenO (o : Option Ob) (M : Me) (Q : WK) : Prop := match rdl o with
    | some xs => Q (.int (xs.length : Int)) M
    | none => False

theorem len_r : lz (rLen [.ref a] M) Q tgQ = lz (lenO (M a) M) Q .mk := propext Iff.rfl
theorem lenO_l : lz (lenO (some (.lst xs)) M) Q tgQ = Q (.int (xs.length : Int)) M := propext Iff.rfl
theorem abs_i : lz (rAbs [.int i] M) Q tgQ = Q (.int (i.natAbs : Int)) M := propext Iff.rfl
theorem max_i : lz (rMax2W [.int i, .int j] M) Q tgQ = Q (.int (max i j)) M := propext Iff.rfl
theorem min_i : lz (rMin2W [.int i, .int j] M) Q tgQ = Q (.int (min i j)) M := propext Iff.rfl
theorem int_i : lz (rInt [.int i] M) Q tgQ = Q (.int i) M := propext Iff.rfl
theorem int_b : lz (rInt [.bl b] M) Q tgQ = Q (.int (b2i b)) M := propext Iff.rfl
theorem tup_t : lz (rTup [.tup xs] M) Q tgQ = Q (.tup xs) M := propext Iff.rfl
def tuO (o : Option Ob) (M : Me) (Q : WK) : Prop := match rdl o with
    | some xs => Q (.tup xs) M
    | none => False

theorem tup_r : lz (rTup [.ref a] M) Q tgQ = lz (tuO (M a) M) Q .mk := propext Iff.rfl
theorem tuO_l : lz (tuO (some (.lst xs)) M) Q tgQ = Q (.tup xs) M := propext Iff.rfl
theorem lst_t : lz (rLst [.tup xs] M) Q tgQ = lz (frs (.lst xs) M) Q .mk := propext Iff.rfl
theorem lst_c : lz (rLst [.cl xs] M) Q tgQ = lz (frs (.lst xs) M) Q .mk := propext Iff.rfl
def lsO (o : Option Ob) (M : Me) (Q : WK) : Prop := match rdl o with
    | some xs => ∀ p, M p = none → Q (.ref p) (put M p (.lst xs))
    | none => False

theorem lst_r : lz (rLst [.ref a] M) Q tgQ = lz (lsO (M a) M) Q .mk := propext Iff.rfl
theorem lsO_l : lz (lsO (some (.lst xs)) M) Q tgQ = lz (frs (.lst xs) M) Q .mk := propext Iff.rfl
def seO (o : Option Ob) (a : Addr) (i v : W) (M : Me) (Q : Me → Prop) : Prop := match o with
    | some (.lst xs) => match i with
      | .int k => match ixN xs.length k with
        | some j => Q (put M a (.lst (xs.set j v)))
        | none => False
      | _ => False
    | some (.dK kvs) => match wkey i with
      | some k => kvs.length < sizeLine ∧ Q (put M a (.dK (place kvs k v)))
      | none => False
    | some (.dN kvs) => KeyOk i ∧ kvs.length < sizeLine ∧ Q (put M a (.dN (placeN kvs i v)))
    | _ => False
variable {QM : Me → Prop} {key : Key} {tgM : Tg QM}
theorem set_r : lz (rSet3 (.ref a) x v M) QM tgM = lz (seO (M a) a x v M) QM .mk := propext Iff.rfl
theorem seO_l : lz (seO (some (.lst xs)) a (.int i) v M) QM tgM = lz (gt (ixN xs.length i)) (fun j => QM (put M a (.lst (xs.set j v)))) .mk := by unfold lz seO gt; dsimp only; cases (ixN xs.length i) <;> rfl
theorem seO_k : lz (seO (some (.dK kk)) a x v M) QM tgM = lz (gt (wkey x)) (fun k => kk.length < sizeLine ∧ QM (put M a (.dK (place kk k v)))) .mk := by unfold lz seO gt; dsimp only; cases (wkey x) <;> rfl
theorem seO_n : lz (seO (some (.dN kn)) a x v M) QM tgM = (KeyOk x ∧ kn.length < sizeLine ∧ QM (put M a (.dN (placeN kn x v)))) := propext Iff.rfl
def apO (o : Option Ob) (a : Addr) (v : W) (M : Me) (Q : WK) : Prop := match o with
    | some (.lst xs) => xs.length < sizeLine ∧ Q .non (put M a (.lst (xs ++ [v])))
    | _ => False

theorem app_r : lz (rApp (.ref a) [v] M) Q tgQ = lz (apO (M a) a v M) Q .mk := propext Iff.rfl
theorem apO_l : lz (apO (some (.lst xs)) a v M) Q tgQ = (xs.length < sizeLine ∧ Q .non (put M a (.lst (xs ++ [v])))) := propext Iff.rfl
def exO (o o' : Option Ob) (a : Addr) (M : Me) (Q : WK) : Prop := match o, o' with
    | some (.lst xs), some (.lst ys) => xs.length + ys.length ≤ sizeLine ∧ Q .non (put M a (.lst (xs ++ ys)))
    | _, _ => False

theorem ext_r : lz (rExt (.ref a) [.ref a'] M) Q tgQ = lz (exO (M a) (M a') a M) Q .mk := propext Iff.rfl
theorem exO_l : lz (exO (some (.lst xs)) (some (.lst ys)) a M) Q tgQ = (xs.length + ys.length ≤ sizeLine ∧ Q .non (put M a (.lst (xs ++ ys)))) := propext Iff.rfl
def poZ (o : Option Ob) (a : Addr) (M : Me) (Q : WK) : Prop := match o with
    | some (.lst xs) => match xs[xs.length - 1]? with
      | some w => Q w (put M a (.lst xs.dropLast))
      | none => False
    | _ => False
def poO (o : Option Ob) (a : Addr) (i : Int) (M : Me) (Q : WK) : Prop := match o with
    | some (.lst xs) => (-(2 ^ 63) ≤ i ∧ i < 2 ^ 63) ∧ match seqIndex? i xs.length with
      | some j => match xs[j]? with
        | some w => Q w (put M a (.lst (xs.eraseIdx j)))
        | none => False
      | none => False
    | _ => False

theorem pop_z : lz (rPop (.ref a) [] M) Q tgQ = lz (poZ (M a) a M) Q .mk := propext Iff.rfl
theorem pop_i : lz (rPop (.ref a) [.int i] M) Q tgQ = lz (poO (M a) a i M) Q .mk := propext Iff.rfl
theorem poZ_l : lz (poZ (some (.lst xs)) a M) Q tgQ = lz (gt (xs[xs.length - 1]?)) (fun w => Q w (put M a (.lst xs.dropLast))) .mk := by unfold lz poZ gt; dsimp only; cases (xs[xs.length - 1]?) <;> rfl
theorem poO_l : lz (poO (some (.lst xs)) a i M) Q tgQ = ((-(2 ^ 63) ≤ i ∧ i < 2 ^ 63) ∧ lz (gt (seqIndex? i xs.length)) (fun j => lz (gt (xs[j]?)) (fun w => Q w (put M a (.lst (xs.eraseIdx j)))) .mk) .mk) := by
  unfold lz poO gt
  dsimp only
  congr 1
  cases seqIndex? i xs.length with
  | none => rfl
  | some j => dsimp only; cases xs[j]? <;> rfl
theorem neg_i : lz (rNeg1 (.int i) M) Q tgQ = Q (.int (-i)) M := propext Iff.rfl
theorem le_line {n : Nat} (h : n ≤ 1000) : (n ≤ sizeLine) = True := by
  have : (16777216 : Nat) = sizeLine := sizeLine_eq.symm
  exact eq_true (by omega)
theorem lt_line {n : Nat} (h : n ≤ 1000) : (n < sizeLine) = True := by
  have : (16777216 : Nat) = sizeLine := sizeLine_eq.symm
  exact eq_true (by omega)
theorem put_ne1 {M : Me} {a b : Addr} {o : Ob} (h : b ≠ a) : put M a o b = M b := put_ne h
theorem put_ne2 {M : Me} {a b : Addr} {o : Ob} (h : a ≠ b) : put M a o b = M b := put_ne (Ne.symm h)
end
end PV
set_option maxHeartbeats 1000000
/-! PV: local things, in use. -/
namespace PV
open PySem PySem.Spec PyProof.Rows L2
theorem map_snoc {ds : List Int} {i : Int} : ds.map W.int ++ [W.int i] = (ds ++ [i]).map W.int := by rw [List.map_append]; rfl
theorem small_line {n : Nat} (h : n ≤ 16000000) : n < sizeLine := by
  have : (16777216 : Nat) = sizeLine := sizeLine_eq.symm
  omega
theorem line_le {n : Nat} (h : n ≤ 16000000) : n ≤ sizeLine := Nat.le_of_lt (small_line h)
theorem mod_any {i j : Int} {M : Me} {Q : WK} (h : 0 < j) (k : ∀ r, 0 ≤ r → r < j → Q (.int r) M) : rMod2 (.int i) (.int j) M Q := ⟨h, k _ (Int.emod_nonneg i (by omega)) (Int.emod_lt_of_pos i h)⟩
theorem mod_go {i j : Int} {M : Me} {Q : WK} {tg : Tg Q} (h : 0 < j) (k : Q (.int (i % j)) M) : lz (rMod2 (.int i) (.int j) M) Q tg := ⟨h, k⟩
theorem div_any {i j : Int} {M : Me} {Q : WK} (h : DivOk i j) (k : ∀ r, Q (.int r) M) : rDiv2 (.int i) (.int j) M Q := ⟨h, k _⟩
theorem div_go {i j : Int} {M : Me} {Q : WK} {tg : Tg Q} (h1 : 0 < j) (h2 : j < 2 ^ 64) (k : Q (.int (i / j)) M) : lz (rDiv2 (.int i) (.int j) M) Q tg := ⟨⟨h1, h2⟩, k⟩
theorem pow_any {i j : Int} {M : Me} {Q : WK} (h : CPow i j) (k : ∀ r, Q (.int r) M) : rPow2 (.int i) (.int j) M Q := ⟨h, k _⟩
theorem pow_go {i j : Int} {M : Me} {Q : WK} {tg : Tg Q} (h : CPow i j) (k : Q (.int (i ^ j.toNat)) M) : lz (rPow2 (.int i) (.int j) M) Q tg := ⟨h, k⟩
theorem DrS.fresh {a q : Addr} {M M' : Me} (h : DrS a M M') (n : M' q = none) : M q = none ∧ q ≠ a := by
  have ne : q ≠ a := fun e => by
    obtain ⟨ds, h2⟩ := h.2
    rw [e, h2] at n; cases n
  refine ⟨?_, ne⟩
  cases e : M q with
  | none => rfl
  | some o => rw [h.1 q o ne e] at n; cases n
/-- what a stretch of the walk leaves: all, the draws at a aside -/
def Dr (a : Option Addr) (M M' : Me) : Prop := match a with
  | none => Sub M M'
  | some a => DrS a M M'
section
variable {a : Option Addr} {q : Addr} {fs gs : List (Addr × Ob)} {M0 M M' : Me} {o o' : Ob} {x y z : Addr × Ob}
theorem Dr.old (h : Dr a M M') (n : some q ≠ a) (e : M q = some o) : M' q = some o := by
  cases a with
  | none => exact h _ _ e
  | some a => exact h.1 _ _ (fun z => n (by rw [z])) e
theorem Dr.fresh (h : Dr a M M') (n : M' q = none) : M q = none ∧ some q ≠ a := by
  cases a with
  | none =>
    refine ⟨?_, fun z => nomatch z⟩
    cases e : M q with
    | none => rfl
    | some o => rw [h _ _ e] at n; cases n
  | some a => exact ⟨(DrS.fresh h n).1, fun z => (DrS.fresh h n).2 (Option.some.inj z)⟩
theorem Dr.trans {M2 : Me} (h : Dr a M M') (h2 : Dr a M' M2) : Dr a M M2 := by
  cases a with
  | none => exact Sub.trans h h2
  | some a => exact DrS.trans h h2
theorem Dr.new (h : Dr a M M') (n : M' q = none) : Dr a M (put M' q o) := by
  cases a with
  | none => exact Sub.trans h (Sub.new n)
  | some a => exact DrS.new h n
theorem Dr.loc (h : Dr a M M') (n : M q = none) (ne : some q ≠ a) : Dr a M (put M' q o) := by
  cases a with
  | none => exact Sub.put h n
  | some a => exact ⟨fun b x nb e => by rw [put_ne (fun z => by rw [z, n] at e; cases e)]; exact h.1 b x nb e, h.2.elim fun ds e => ⟨ds, by rw [put_ne (fun z => ne (by rw [z]))]; exact e⟩⟩
theorem Dr.refl0 : Dr none M M := Sub.refl M
theorem Dr.sub (h : Sub M M') (ok : ∀ b, a = some b → ∃ ds : List Int, M b = some (.lst (ds.map W.int))) : Dr a M M' := by
  cases a with
  | none => exact h
  | some a => exact ⟨fun b o _ e => h b o e, (ok a rfl).elim fun ds e => ⟨ds, h _ _ e⟩⟩
/-- the draws at a, and local things -/
def Kp (a : Option Addr) (fs : List (Addr × Ob)) (M0 M : Me) : Prop := Dr a M0 M ∧ fs.Pairwise (fun x y => x.1 ≠ y.1) ∧ ∀ x ∈ fs, some x.1 ≠ a ∧ M0 x.1 = none ∧ M x.1 = some x.2
theorem Kp.start {b : Addr} {ds : List Int} (h : M b = some (.lst (ds.map W.int))) : Kp (some b) [] M M := ⟨DrS.refl h, .nil, fun x hx => nomatch hx⟩
theorem Kp.start0 : Kp none [] M M := ⟨Sub.refl M, .nil, fun x hx => nomatch hx⟩
theorem Kp.dr (k : Kp a fs M0 M) : Dr a M0 M := k.1
theorem Kp.take (k : Kp a fs M0 M) (d : Dr a M M') : Kp a fs M0 M' := ⟨k.1.trans d, k.2.1, fun x hx => ⟨(k.2.2 x hx).1, (k.2.2 x hx).2.1, d.old (k.2.2 x hx).1 (k.2.2 x hx).2.2⟩⟩
theorem Kp.new (k : Kp a fs M0 M) (n : M q = none) : Kp a ((q, o) :: fs) M0 (put M q o) := by
  obtain ⟨n0, ne⟩ := k.1.fresh n
  refine ⟨k.1.new n, .cons (fun y hy e => ?_) k.2.1, fun x hx => ?_⟩
  · have := (k.2.2 y hy).2.2
    rw [← show q = y.1 from e, n] at this; cases this
  · rcases List.mem_cons.mp hx with rfl | hx
    · exact ⟨ne, n0, put_same⟩
    · exact ⟨(k.2.2 x hx).1, (k.2.2 x hx).2.1, put_old (k.2.2 x hx).2.2 n⟩
theorem Kp.set (k : Kp a ((q, o) :: fs) M0 M) : Kp a ((q, o') :: fs) M0 (put M q o') := by
  have h := k.2.2 (q, o) (.head _)
  refine ⟨k.1.loc h.2.1 h.1, .cons (fun y hy => (List.rel_of_pairwise_cons k.2.1 hy : q ≠ y.1)) k.2.1.of_cons, fun x hx => ?_⟩
  rcases List.mem_cons.mp hx with rfl | hx
  · exact ⟨h.1, h.2.1, put_same⟩
  · refine ⟨(k.2.2 x (.tail _ hx)).1, (k.2.2 x (.tail _ hx)).2.1, ?_⟩
    rw [put_ne (Ne.symm (List.rel_of_pairwise_cons k.2.1 hx : q ≠ x.1))]
    exact (k.2.2 x (.tail _ hx)).2.2
theorem Kp.perm (k : Kp a fs M0 M) (p : gs.Perm fs) : Kp a gs M0 M := ⟨k.1, (p.pairwise_iff (fun h e => h e.symm)).mpr k.2.1, fun x hx => k.2.2 x (p.mem_iff.mp hx)⟩
theorem Kp.come (k : Kp a fs M0 M) (d : Dr a M M') (n : M q = none) (e : M' q = some o) : Kp a ((q, o) :: fs) M0 M' := by
  have k2 := k.take d
  refine ⟨k2.1, .cons (fun y hy z => ?_) k.2.1, fun x hx => ?_⟩
  · have := (k.2.2 y hy).2.2
    rw [← show q = y.1 from z, n] at this; cases this
  · rcases List.mem_cons.mp hx with rfl | hx
    · exact ⟨(k.1.fresh n).2, (k.1.fresh n).1, e⟩
    · exact k2.2.2 x hx
theorem Kp.tail (k : Kp a (x :: fs) M0 M) : Kp a fs M0 M := ⟨k.1, k.2.1.of_cons, fun y hy => k.2.2 y (.tail _ hy)⟩
theorem Kp.tail2 (k : Kp a (x :: y :: fs) M0 M) : Kp a (x :: fs) M0 M := ⟨k.1, k.2.1.sublist (.cons_cons _ (.cons _ (List.Sublist.refl _))), fun z hz => k.2.2 z (by rcases List.mem_cons.mp hz with rfl | h; exact .head _; exact .tail _ (.tail _ h))⟩
theorem Kp.none (k : Kp a fs M0 M) : Kp a [] M0 M := ⟨k.1, .nil, fun y hy => nomatch hy⟩
theorem Kp.sw (k : Kp a (x :: y :: fs) M0 M) : Kp a (y :: x :: fs) M0 M := k.perm (.swap _ _ _)
/-- the third, the fourth to the front -/
theorem Kp.r2 (k : Kp a (x :: y :: z :: fs) M0 M) : Kp a (z :: x :: y :: fs) M0 M := k.perm ((List.Perm.swap x z _).trans ((List.Perm.swap y z _).cons x))
theorem Kp.g0 (k : Kp a ((q, o) :: fs) M0 M) : M q = some o := (k.2.2 _ (.head _)).2.2
theorem Kp.g1 (k : Kp a (x :: (q, o) :: fs) M0 M) : M q = some o := (k.2.2 _ (.tail _ (.head _))).2.2
theorem Kp.g2 (k : Kp a (x :: y :: (q, o) :: fs) M0 M) : M q = some o := (k.2.2 _ (.tail _ (.tail _ (.head _)))).2.2
theorem Kp.g3 (k : Kp a (x :: y :: z :: (q, o) :: fs) M0 M) : M q = some o := (k.2.2 _ (.tail _ (.tail _ (.tail _ (.head _))))).2.2
theorem Kp.g4 {u : Addr × Ob} (k : Kp a (x :: y :: z :: u :: (q, o) :: fs) M0 M) : M q = some o := (k.2.2 _ (.tail _ (.tail _ (.tail _ (.tail _ (.head _)))))).2.2
theorem Kp.f0 (k : Kp a ((q, o) :: fs) M0 M) : M0 q = Option.none := (k.2.2 _ (.head _)).2.1
theorem Kp.old (k : Kp a fs M0 M) (n : some q ≠ a) (e : M0 q = some o) : M q = some o := k.1.old n e
theorem Kp.old0 (k : Kp Option.none fs M0 M) (e : M0 q = some o) : M q = some o := k.1 _ _ e
theorem Kp.sub (k : Kp Option.none fs M0 M) : Sub M0 M := k.1
/-! steps -/
theorem Kp.fresh_go {Q : WK} {tg : Tg Q} (k : Kp a fs M0 M) (f : ∀ p M', Kp a ((p, o) :: fs) M0 M' → Sub M M' → Q (.ref p) M') : lz (frs o M) Q tg := fun p hp => f p _ (k.new hp) (Sub.new hp)
theorem Kp.app_go {xs : List W} {v : W} {Q : WK} {tg : Tg Q} (k : Kp a ((q, .lst xs) :: fs) M0 M) (h : xs.length ≤ 16000000) (f : ∀ M', Kp a ((q, .lst (xs ++ [v])) :: fs) M0 M' → Q .non M') : lz (rApp (.ref q) [v] M) Q tg := by
  show rApp (.ref q) [v] M Q
  unfold rApp
  dsimp only
  rw [k.g0]
  exact ⟨small_line h, f _ k.set⟩
theorem Kp.take_go' {sp : PSp} {ws : List W} {Q : WK} {tg : Tg Q} (h : sp ws M Q noX) : lz (spc sp ws M) Q tg := h
end
def sp_take : PSp := fun ws M Q _ => match ws with
  | [.ref a, .int m] => (∃ ds : List Int, M a = some (.lst (ds.map W.int))) ∧ 0 < m ∧ ∀ r M', 0 ≤ r → r < m → DrS a M M' → Q (.int r) M'
  | _ => False
theorem Kp.take_go {a : Addr} {fs : List (Addr × Ob)} {M0 M : Me} {m : Int} {Q : WK} {tg : Tg Q} (h : Kp (some a) fs M0 M) (hm : 0 < m) (k : ∀ r M', 0 ≤ r → r < m → Kp (some a) fs M0 M' → Q (.int r) M') : lz (spc sp_take [.ref a, .int m] M) Q tg :=
  ⟨h.1.2, hm, fun r M' h0 h1 d => k r M' h0 h1 (h.take d)⟩
theorem Kp.take_go2 {a : Addr} {fs : List (Addr × Ob)} {M0 M : Me} {m : Int} {Q : WK} {tg : Tg Q} (h : Kp (some a) fs M0 M) (hm : 0 < m) (k : ∀ r M', 0 ≤ r → r < m → DrS a M M' → Kp (some a) fs M0 M' → Q (.int r) M') : lz (spc sp_take [.ref a, .int m] M) Q tg :=
  ⟨h.1.2, hm, fun r M' h0 h1 d => k r M' h0 h1 d (h.take d)⟩
theorem b2i_0 {b : Bool} : 0 ≤ b2i b := by cases b <;> decide
theorem b2i_2 {b : Bool} : b2i b < 2 := by cases b <;> decide
theorem at_mem {xs : List W} {r : Int} (h0 : 0 ≤ r) (h1 : r < xs.length) : ∃ w ∈ xs, atI xs r = some w := by
  have hl : r.toNat < xs.length := by omega
  exact ⟨xs[r.toNat], List.getElem_mem hl, atI_of h0 (List.getElem?_eq_getElem hl)⟩
/-- places of a list of whole numbers -/
theorem at_int {ks : List Int} {r : Int} {P : Int → Prop} (h0 : 0 ≤ r) (h1 : r < ks.length) (hp : ∀ k ∈ ks, P k) : ∃ k, P k ∧ atI (ks.map W.int) r = some (.int k) := by
  have hl : r.toNat < ks.length := by omega
  exact ⟨ks[r.toNat], hp _ (List.getElem_mem hl), atI_of h0 (by rw [List.getElem?_map, List.getElem?_eq_getElem hl]; rfl)⟩
theorem cut_len {xs : List W} {lo hi : Option Int} : (cutW xs lo hi).length ≤ xs.length := by
  unfold cutW
  rw [List.length_take, List.length_drop]
  omega
theorem sq_0 {n : Nat} : seqIndex? 0 (n + 1) = some 0 := by
  unfold seqIndex?
  simp
end PV
set_option maxHeartbeats 4000000
namespace PV
open PySem PySem.Spec PyProof.Rows L2
def t_p_is_below  : WS := (wRet (wAndV (wIsi .int (wVar 0)) (wAndV (wNotV (wIsi .bool (wVar 0))) (wChain rLe2 rLt2 (wC (.int 0)) (wVar 0) (wVar 1)))))

def t_p_is_flow (c_p_is_below : PSp) : WS := (wSeq (wIfS (wOr (wNot (wB (wIsi .tuple (wVar 0)))) (wNot (wB (wChain rLe2 rLe2 (wC (.int 1)) (wCall rLen (wCons (wVar 0) wNil)) (wC (.int 24)))))) (wRet (wC (.bl false))) wNext) (wSeq (wFor (wiSeq (wVar 0)) (wgName 1) (wSeq (wIfS (wOr (wNot (wB (wIsi .tuple (wVar 1)))) (wOr (wB (wOp rNe2 (wCall rLen (wCons (wVar 1) wNil)) (wC (.int 3)))) (wNot (wB (wFn c_p_is_below (wCons (wOp rIx2 (wVar 1) (wC (.int 0))) (wCons (wC (.int 1000)) wNil))))))) (wRet (wC (.bl false))) wNext) (wSeq (wSet 2 (wLc (wiSeq (wSl (wVar 1) (wPart (wC (.int 1))) wNoPart)) (wgName 3) (wB (wOp rIsNot2 (wVar 3) (wC .non))) (wVar 3) [3])) (wIfS (wOr (wB (wOp rEq2 (wVar 2) (wLst wNil))) (wNot (wB (wCall rAll2 (wCons (wLc (wiSeq (wVar 2)) (wgName 3) wYes (wFn c_p_is_below (wCons (wVar 3) (wCons (wCall rLen (wCons (wVar 0) wNil)) wNil))) [3]) wNil))))) (wRet (wC (.bl false))) wNext)))) (wRet (wC (.bl true)))))

def t_l_draws  : WS := (wSeq (wSet 1 (wLst wNil)) (wSeq (wFor (wiRng1 (wCons (wCall rMin2W (wCons (wCall rLen (wCons (wVar 0) wNil)) (wCons (wC (.int 80)) wNil))) wNil)) (wgName 2) (wSeq (wSet 3 (wCall rAbs (wCons (wOp rIx2 (wVar 0) (wVar 2)) wNil))) (wIfS (wB (wOp rLt2 (wVar 3) (wOp rPow2 (wC (.int 10)) (wC (.int 18))))) (wSeq (wSet 4 (wOp rMod2 (wOp rMul2 (wOp rMod2 (wOp rAdd2 (wOp rAdd2 (wVar 3) (wOp rMul2 (wC (.int 7919)) (wVar 2))) (wC (.int 3))) (wC (.int 2147483647))) (wC (.int 48271))) (wC (.int 2147483647)))) (wSeq (wSet 4 (wOp rMod2 (wOp rMul2 (wVar 4) (wVar 4)) (wC (.int 2147483629)))) (wSeq (wDrop (wMt rApp (wVar 1) (wCons (wOp rMod2 (wOp rDiv2 (wVar 4) (wC (.int 16))) (wC (.int 1000))) wNil))) (wSeq (wDrop (wMt rApp (wVar 1) (wCons (wOp rMod2 (wOp rDiv2 (wVar 4) (wC (.int 16000))) (wC (.int 1000))) wNil))) (wSeq (wSet 4 (wOp rMod2 (wOp rAdd2 (wVar 4) (wOp rMul2 (wC (.int 40692)) (wOp rAdd2 (wVar 2) (wC (.int 7))))) (wC (.int 2147483587)))) (wDrop (wMt rApp (wVar 1) (wCons (wOp rMod2 (wOp rDiv2 (wOp rMod2 (wOp rMul2 (wVar 4) (wVar 4)) (wC (.int 2147483647))) (wC (.int 16))) (wC (.int 1000))) wNil)))))))) (wSeq (wSet 5 (wC (.int 0))) (wWhile (wAnd (wB (wOp rGe2 (wVar 3) (wC (.int 1000)))) (wB (wOp rLt2 (wVar 5) (wC (.int 60))))) (wSeq (wDrop (wMt rApp (wVar 1) (wCons (wOp rMod2 (wVar 3) (wC (.int 1000))) wNil))) (wSeq (wSet 3 (wOp rDiv2 (wVar 3) (wC (.int 1000)))) (wSet 5 (wOp rAdd2 (wVar 5) (wC (.int 1))))))))))) (wRet (wSl (wVar 1) wNoPart (wPart (wC (.int 240)))))))

def t_l_take  : WS := (wSeq (wIfS (wB (wOp rEq2 (wVar 0) (wLst wNil))) (wRet (wC (.int 0))) wNext) (wRet (wOp rMod2 (wMt rPop (wVar 0) (wCons (wC (.int 0)) wNil)) (wVar 1))))

def t_l_places (c_l_take : PSp) : WS := (wSeq (wSet 1 wNewK) (wSeq (wFor (wiRng1 (wCons (wOp rAdd2 (wC (.int 1)) (wFn c_l_take (wCons (wVar 0) (wCons (wOp rIx2 (wLst (wCons (wC (.int 2)) (wCons (wC (.int 4)) wNil))) (wFn c_l_take (wCons (wVar 0) (wCons (wC (.int 2)) wNil)))) wNil)))) wNil)) (wgName 2) (wAsg (wC (.bl true)) (wgSub (wVar 1) (wOp rIx2 (wLst (wCons (wVar 2) (wCons (wFn c_l_take (wCons (wVar 0) (wCons (wC (.int 20)) wNil))) (wCons (wFn c_l_take (wCons (wVar 0) (wCons (wC (.int 1000)) wNil))) (wCons (wC (.int 999)) wNil))))) (wFn c_l_take (wCons (wVar 0) (wCons (wC (.int 4)) wNil)))) rSet3))) (wRet (wCall rSorted2 (wCons (wVar 1) wNil)))))

def t_l_flow (c_l_take : PSp) (c_l_places : PSp) : WS := (wSeq (wSet 1 (wOp rIx2 (wLst (wCons (wC (.int 1)) (wCons (wC (.int 2)) (wCons (wC (.int 3)) (wCons (wC (.int 4)) (wCons (wC (.int 6)) (wCons (wC (.int 9)) (wCons (wC (.int 4)) (wCons (wC (.int 24)) wNil))))))))) (wFn c_l_take (wCons (wVar 0) (wCons (wC (.int 8)) wNil))))) (wSeq (wSet 2 (wFn c_l_places (wCons (wVar 0) wNil))) (wSeq (wSet 3 (wFn c_l_take (wCons (wVar 0) (wCons (wC (.int 3)) wNil)))) (wSeq (wSet 4 (wLst wNil)) (wSeq (wFor (wiRng1 (wCons (wVar 1) wNil)) (wgName 5) (wSeq (wSet 6 (wLc (wiRng1 (wCons (wC (.int 2)) wNil)) (wgName 9) wYes (wOp rIx2 (wLst (wCons (wFn c_l_take (wCons (wVar 0) (wCons (wVar 1) wNil))) (wCons (wOp rMod2 (wOp rAdd2 (wVar 5) (wC (.int 1))) (wVar 1)) wNil))) (wCall rInt (wCons (wOp rEq2 (wFn c_l_take (wCons (wVar 0) (wCons (wC (.int 3)) wNil))) (wC (.int 0))) wNil))) [9])) (wSeq (wIfS (wB (wOp rGt2 (wVar 3) (wC (.int 0)))) (wSet 6 (wLst (wCons (wOp rMod2 (wOp rAdd2 (wVar 5) (wC (.int 1))) (wVar 1)) (wCons (wOp rMod2 (wOp rAdd2 (wVar 5) (wC (.int 1))) (wVar 1)) wNil)))) wNext) (wSeq (wSet 7 (wFn c_l_take (wCons (wVar 0) (wCons (wC (.int 6)) wNil)))) (wSeq (wIfS (wB (wOp rLt2 (wVar 7) (wC (.int 4)))) (wAsg (wC .non) (wgSub (wVar 6) (wOp rMod2 (wVar 7) (wC (.int 2))) rSet3)) wNext) (wSeq (wSet 8 (wOp rIx2 (wVar 2) (wFn c_l_take (wCons (wVar 0) (wCons (wOp rIx2 (wLst (wCons (wCall rLen (wCons (wVar 2) wNil)) (wCons (wC (.int 1)) wNil))) (wCall rInt (wCons (wOp rEq2 (wVar 3) (wC (.int 1))) wNil))) wNil))))) (wDrop (wMt rApp (wVar 4) (wCons (wTup (wCons (wVar 8) (wCons (wOp rIx2 (wVar 6) (wC (.int 0))) (wCons (wOp rIx2 (wVar 6) (wC (.int 1))) wNil)))) wNil))))))))) (wRet (wCall rTup (wCons (wVar 4) wNil))))))))

def t_l_number  : WS := (wRet (wAndV (wIsi .int (wVar 0)) (wAndV (wNotV (wIsi .bool (wVar 0))) (wChain rLe2 rLt2 (wC (.int 0)) (wVar 0) (wVar 1)))))

def t_l_due (c_l_number : PSp) : WS := (wSeq (wIfS (wOr (wNot (wB (wIsi .tuple (wVar 0)))) (wOr (wB (wOp rLt2 (wCall rLen (wCons (wVar 0) wNil)) (wC (.int 1)))) (wB (wOp rGt2 (wCall rLen (wCons (wVar 0) wNil)) (wC (.int 24)))))) (wRet (wC (.bl false))) wNext) (wSeq (wFor (wiSeq (wVar 0)) (wgName 1) (wSeq (wIfS (wOr (wNot (wB (wIsi .tuple (wVar 1)))) (wOr (wB (wOp rNe2 (wCall rLen (wCons (wVar 1) wNil)) (wC (.int 3)))) (wNot (wB (wFn c_l_number (wCons (wOp rIx2 (wVar 1) (wC (.int 0))) (wCons (wC (.int 1000)) wNil))))))) (wRet (wC (.bl false))) wNext) (wSeq (wSet 2 (wLc (wiSeq (wSl (wVar 1) (wPart (wC (.int 1))) wNoPart)) (wgName 3) (wB (wOp rIsNot2 (wVar 3) (wC .non))) (wVar 3) [3])) (wIfS (wOr (wB (wOp rEq2 (wVar 2) (wLst wNil))) (wB (wOp rNe2 (wLc (wiSeq (wVar 2)) (wgName 3) (wNot (wB (wFn c_l_number (wCons (wVar 3) (wCons (wCall rLen (wCons (wVar 0) wNil)) wNil))))) (wVar 3) [3]) (wLst wNil)))) (wRet (wC (.bl false))) wNext)))) (wRet (wC (.bl true)))))

def t_l_other (c_l_take : PSp) : WS := (wSeq (wSet 2 (wCall rLen (wCons (wVar 1) wNil))) (wSeq (wSet 3 (wFn c_l_take (wCons (wVar 0) (wCons (wVar 2) wNil)))) (wSeq (wSet 4 (wFn c_l_take (wCons (wVar 0) (wCons (wC (.int 3)) wNil)))) (wSeq (wSet 5 (wFn c_l_take (wCons (wVar 0) (wCons (wC (.int 1000)) wNil)))) (wSeq (wSet 6 (wOp rIx2 (wVar 1) (wVar 3))) (wSeq (wSet 7 (wLst (wCons (wC (.bl true)) (wCons (wC (.bl false)) (wCons (wUn rNeg1 (wC (.int 1))) (wCons (wVar 2) (wCons (wOp rAdd2 (wVar 2) (wVar 5)) (wCons (wC (.int 999)) (wCons (wC (.int 1000)) (wCons (wOp rPow2 (wC (.int 10)) (wC (.int 30))) (wCons (wOp rSub2 (wUn rNeg1 (wC (.int 1))) (wVar 5)) (wCons (wC (.str "0")) (wCons (wC .non) (wCons (wLst (wCons (wC (.int 0)) wNil)) (wCons (wTup (wCons (wC (.int 0)) wNil)) (wCons (wC (.int 0)) (wCons (wOp rSub2 (wVar 2) (wC (.int 1))) (wCons wNewK wNil)))))))))))))))))) (wSeq (wSet 8 (wOp rAdd2 (wOp rAdd2 (wSl (wVar 6) wNoPart (wPart (wVar 4))) (wTup (wCons (wOp rIx2 (wVar 7) (wFn c_l_take (wCons (wVar 0) (wCons (wC (.int 16)) wNil)))) wNil))) (wSl (wVar 6) (wPart (wOp rAdd2 (wVar 4) (wC (.int 1)))) wNoPart))) (wSeq (wIfS (wB (wOp rEq2 (wFn c_l_take (wCons (wVar 0) (wCons (wC (.int 3)) wNil))) (wC (.int 0)))) (wSet 8 (wOp rIx2 (wLst (wCons (wCall rLst (wCons (wVar 6) wNil)) (wCons (wSl (wVar 6) wNoPart (wPart (wC (.int 2)))) (wCons (wOp rAdd2 (wVar 6) (wTup (wCons (wC (.int 0)) wNil))) (wCons (wC .non) (wCons (wC (.int 7)) (wCons (wC (.str "node")) (wCons (wTup wNil) (wCons wNewK wNil))))))))) (wFn c_l_take (wCons (wVar 0) (wCons (wC (.int 8)) wNil))))) wNext) (wRet (wOp rAdd2 (wOp rAdd2 (wSl (wVar 1) wNoPart (wPart (wVar 3))) (wTup (wCons (wVar 8) wNil))) (wSl (wVar 1) (wPart (wOp rAdd2 (wVar 3) (wC (.int 1)))) wNoPart)))))))))))

def t_l_told (c_p_is_flow : PSp) (c_l_due : PSp) : WS := (wSeq (wSet 1 (wFn c_p_is_flow (wCons (wVar 0) wNil))) (wRet (wAndV (wIsi .bool (wVar 1)) (wOp rEq2 (wVar 1) (wFn c_l_due (wCons (wVar 0) wNil))))))

def t_lawm (c_l_draws : PSp) (c_l_told : PSp) (c_l_flow : PSp) (c_p_is_flow : PSp) (c_l_other : PSp) : WS := (wSeq (wSet 1 (wFn c_l_draws (wCons (wVar 0) wNil))) (wSeq (wSet 2 (wTup (wCons (wC (.int 0)) (wCons (wC (.int 0)) (wCons (wC (.int 0)) wNil))))) (wSeq (wSet 3 (wLst (wCons (wTup wNil) (wCons (wLst wNil) (wCons (wC .non) (wCons (wC (.int 0)) (wCons (wC (.bl true)) (wCons (wC (.str "flow")) (wCons wNewK (wCons (wVar 2) (wCons (wTup (wCons (wVar 2) wNil)) (wCons (wLst (wCons (wVar 2) wNil)) (wCons (wOp rMul2 (wTup (wCons (wVar 2) wNil)) (wC (.int 24))) (wCons (wOp rMul2 (wTup (wCons (wVar 2) wNil)) (wC (.int 25))) (wCons (wTup (wCons (wCall rLst (wCons (wVar 2) wNil)) wNil)) wNil))))))))))))))) (wSeq (wSet 3 (wOp rAdd2 (wVar 3) (wLst (wCons (wTup (wCons (wTup (wCons (wC (.int 999)) (wCons (wC (.int 0)) (wCons (wC (.int 0)) wNil)))) wNil)) (wCons (wTup (wCons (wTup (wCons (wC (.int 1000)) (wCons (wC (.int 0)) (wCons (wC (.int 0)) wNil)))) wNil)) (wCons (wTup (wCons (wTup (wCons (wC (.int 0)) (wCons (wC (.int 1)) (wCons (wC (.int 0)) wNil)))) wNil)) (wCons (wTup (wCons (wTup (wCons (wC (.int 0)) (wCons (wC (.int 0)) (wCons (wC (.int 1)) wNil)))) wNil)) (wCons (wTup (wCons (wTup (wCons (wC (.int 0)) (wCons (wC (.int 1)) (wCons (wC (.int 1)) wNil)))) (wCons (wTup (wCons (wC (.int 0)) (wCons (wC (.int 0)) (wCons (wC (.int 1)) wNil)))) wNil))) (wCons (wTup (wCons (wC .non) wNil)) wNil))))))))) (wSeq (wSet 3 (wOp rAdd2 (wVar 3) (wLst (wCons (wTup (wCons (wTup (wCons (wC (.int 0)) (wCons (wC .non) (wCons (wC (.int 0)) wNil)))) wNil)) (wCons (wTup (wCons (wTup (wCons (wC (.int 0)) (wCons (wC (.int 0)) (wCons (wC .non) wNil)))) wNil)) (wCons (wTup (wCons (wTup (wCons (wC (.int 0)) (wCons (wC .non) (wCons (wC .non) wNil)))) wNil)) (wCons (wTup (wCons (wTup (wCons (wC .non) (wCons (wC (.int 0)) (wCons (wC (.int 0)) wNil)))) wNil)) (wCons (wTup (wCons (wTup (wCons (wC (.int 0)) (wCons (wC .non) (wCons (wC (.int 1)) wNil)))) wNil)) wNil)))))))) (wSeq (wFor (wiSeq (wVar 3)) (wgName 4) (wIfS (wNot (wB (wFn c_l_told (wCons (wVar 4) wNil)))) (wRet (wC (.bl false))) wNext)) (wSeq (wSet 5 (wC (.int 0))) (wSeq (wWhile (wOr (wB (wOp rLt2 (wVar 5) (wC (.int 1)))) (wAnd (wB (wOp rNe2 (wVar 1) (wLst wNil))) (wB (wOp rLt2 (wVar 5) (wC (.int 8)))))) (wSeq (wSet 6 (wFn c_l_flow (wCons (wVar 1) wNil))) (wSeq (wIfS (wOr (wB (wOp rIsNot2 (wFn c_p_is_flow (wCons (wVar 6) wNil)) (wC (.bl true)))) (wB (wOp rIsNot2 (wFn c_p_is_flow (wCons (wCall rLst (wCons (wVar 6) wNil)) wNil)) (wC (.bl false))))) (wRet (wC (.bl false))) wNext) (wSeq (wFor (wiRng1 (wCons (wC (.int 2)) wNil)) (wgName 7) (wIfS (wNot (wB (wFn c_l_told (wCons (wFn c_l_other (wCons (wVar 1) (wCons (wVar 6) wNil))) wNil)))) (wRet (wC (.bl false))) wNext)) (wSet 5 (wOp rAdd2 (wVar 5) (wC (.int 1)))))))) (wRet (wC (.bl true)))))))))))

end PV
set_option maxHeartbeats 4000000
namespace PV
open PySem PySem.Spec PyProof.Rows L2
local macro_rules | `(tactic| walk_at "pv") => `(tactic| try simp only [↓s_seq, ↓s_next, ↓s_ret, ↓s_retN, ↓s_drop, ↓s_set, ↓s_ifS, ↓s_asg, ↓s_gname, ↓s_gnil, ↓s_gcons, ↓s_gtup, tg1_t, ↓s_gsub, ↓s_par, par2_e, ↓s_aug, ↓s_var, ov_some, ↓s_c, ↓s_op, ↓s_un, ↓s_B, ↓s_chain, ↓s_and, ↓s_or, ↓s_not, ↓s_andV, ↓s_orV, ↓s_notV, ↓s_if, ↓s_nil, ↓s_cons, ↓s_tup, ↓s_lst, ↓s_call, ↓s_fn, ↓s_isi, ↓s_mt, ↓s_mt0, ↓s_sl, ↓s_part, ↓s_nopart, ↓s_newK, ↓s_newN, ↓s_yes, wWipe, ↓s_for, ↓s_seqI, ↓s_rng1, ↓s_rng2, ↓s_lc,
  brn_t, brn_f, gt_some, onB_b, itS_tup, itS_cl, itS_ref, rgO_i, rgT_i, prt_i, mtS_r, mtZ_r,
  isQ_int_non, isQ_int_bl, isQ_int_int, isQ_int_str, isQ_int_tup, isQ_int_l, isQ_int_k, isQ_bool_non, isQ_bool_bl, isQ_bool_int, isQ_bool_str, isQ_bool_tup, isQ_bool_l, isQ_bool_k, isQ_str_non, isQ_str_bl, isQ_str_int, isQ_str_str, isQ_str_tup, isQ_str_l, isQ_str_k, isQ_tuple_non, isQ_tuple_bl, isQ_tuple_int, isQ_tuple_str, isQ_tuple_tup, isQ_tuple_l, isQ_tuple_k, isQ_list_non, isQ_list_bl, isQ_list_int, isQ_list_str, isQ_list_tup, isQ_list_l, isQ_list_k, isQ_dict_non, isQ_dict_bl, isQ_dict_int, isQ_dict_str, isQ_dict_tup, isQ_dict_l, isQ_dict_k,
  add_i, add_s, add_t, add_l, addO_l, sub_i, mul_i, mul_t, mul_l, mulO_l, lt_i, le_i, gt_i, ge_i, is_n, isnot_n, is_b, is_bf, isnot_b, isnot_bf, eq_i, eq_s, eq_b, eq_t, eq_l, eqO_l, eqO_ll, ne_i, ne_s, ne_b, ne_t, ne_l, neO_l, neO_ll, ix_t, ix_c, ix_r, ixO_l, ixO_k, ixO_lk, ixO_n, ixO_ln, in_t, in_r, nin_t, nin_r, inO_l, inO_k, inO_lk, inO_n, inO_ln, wkey_i, wkey_s, sl_t, sl_c, sl_r, slO_l, len_t, len_c, len_s, len_r, lenO_l, abs_i, max_i, min_i, int_i, int_b, tup_t, tup_r, tuO_l, lst_t, lst_c, lst_r, lsO_l, set_r, seO_l, seO_k, seO_n, app_r, apO_l, ext_r, exO_l, pop_z, pop_i, poZ_l, poO_l, neg_i,
  wst1, wst2, wst3, wst4, wst5, obOf, isN, rdl_l, put_same, put_put, Option.isSome_some, true_and, and_true, decide_true, decide_false, Option.bind_some, atI_0, atI_1, atI_2, atI_3, atI_4, atI_m1, atI_m2, atI_m3, atI_m4, atI_m5, cut_1, List.map_cons, List.map_nil, List.cons_append, List.nil_append, List.getElem?_cons_zero, List.getElem?_cons_succ, List.length_cons, List.length_nil, List.length_map, List.isEmpty_cons, List.isEmpty_nil, List.set_cons_zero, List.set_cons_succ, List.replicate, Nat.reduceAdd, Nat.reduceSub, Nat.reduceLeDiff, Int.reduceNeg, le_line, lt_line, Bool.not_true, Bool.not_false])
local macro_rules | `(tactic| walk_at "pvh") => `(tactic| try simp only [↓s_seq, ↓s_next, ↓s_ret, ↓s_retN, ↓s_drop, ↓s_set, ↓s_ifS, ↓s_asg, ↓s_gname, ↓s_gnil, ↓s_gcons, ↓s_gtup, tg1_t, ↓s_gsub, ↓s_par, par2_e, ↓s_aug, ↓s_var, ov_some, ↓s_c, ↓s_op, ↓s_un, ↓s_B, ↓s_chain, ↓s_and, ↓s_or, ↓s_not, ↓s_andV, ↓s_orV, ↓s_notV, ↓s_if, ↓s_nil, ↓s_cons, ↓s_tup, ↓s_lst, ↓s_call, ↓s_fn, ↓s_isi, ↓s_mt, ↓s_mt0, ↓s_sl, ↓s_part, ↓s_nopart, ↓s_newK, ↓s_newN, ↓s_yes, wWipe, ↓s_for, ↓s_seqI, ↓s_rng1, ↓s_rng2, ↓s_lc,
  brn_t, brn_f, gt_some, onB_b, itS_tup, itS_cl, itS_ref, rgO_i, rgT_i, prt_i, mtS_r, mtZ_r,
  isQ_int_non, isQ_int_bl, isQ_int_int, isQ_int_str, isQ_int_tup, isQ_int_l, isQ_int_k, isQ_bool_non, isQ_bool_bl, isQ_bool_int, isQ_bool_str, isQ_bool_tup, isQ_bool_l, isQ_bool_k, isQ_str_non, isQ_str_bl, isQ_str_int, isQ_str_str, isQ_str_tup, isQ_str_l, isQ_str_k, isQ_tuple_non, isQ_tuple_bl, isQ_tuple_int, isQ_tuple_str, isQ_tuple_tup, isQ_tuple_l, isQ_tuple_k, isQ_list_non, isQ_list_bl, isQ_list_int, isQ_list_str, isQ_list_tup, isQ_list_l, isQ_list_k, isQ_dict_non, isQ_dict_bl, isQ_dict_int, isQ_dict_str, isQ_dict_tup, isQ_dict_l, isQ_dict_k,
  add_i, add_s, add_t, add_l, addO_l, sub_i, mul_i, mul_t, mul_l, mulO_l, lt_i, le_i, gt_i, ge_i, is_n, isnot_n, is_b, is_bf, isnot_b, isnot_bf, eq_i, eq_s, eq_b, eq_t, eq_l, eqO_l, eqO_ll, ne_i, ne_s, ne_b, ne_t, ne_l, neO_l, neO_ll, ix_t, ix_c, ix_r, ixO_l, ixO_k, ixO_lk, ixO_n, ixO_ln, in_t, in_r, nin_t, nin_r, inO_l, inO_k, inO_lk, inO_n, inO_ln, wkey_i, wkey_s, sl_t, sl_c, sl_r, slO_l, len_t, len_c, len_s, len_r, lenO_l, abs_i, max_i, min_i, int_i, int_b, tup_t, tup_r, tuO_l, lst_t, lst_c, lst_r, lsO_l, set_r, seO_l, seO_k, seO_n, app_r, apO_l, ext_r, exO_l, pop_z, pop_i, poZ_l, poO_l, neg_i,
  wst1, wst2, wst3, wst4, wst5, obOf, isN, rdl_l, put_same, put_put, Option.isSome_some, true_and, and_true, decide_true, decide_false, Option.bind_some, atI_0, atI_1, atI_2, atI_3, atI_4, atI_m1, atI_m2, atI_m3, atI_m4, atI_m5, cut_1, List.map_cons, List.map_nil, List.cons_append, List.nil_append, List.getElem?_cons_zero, List.getElem?_cons_succ, List.length_cons, List.length_nil, List.length_map, List.isEmpty_cons, List.isEmpty_nil, List.set_cons_zero, List.set_cons_succ, List.replicate, Nat.reduceAdd, Nat.reduceSub, Nat.reduceLeDiff, Int.reduceNeg, le_line, lt_line, Bool.not_true, Bool.not_false, put_ne1, put_ne2, *])
theorem rd_take (ws M Q E) (h : sp_take ws M Q E) : t_l_take (wEnd Q) (wStart ["draws", "many"] ws) M := by
  unfold sp_take at h
  split at h
  · rename_i a m
    obtain ⟨⟨ds, e⟩, hm, q⟩ := h
    rw [wst2]
    unfold t_l_take
    walk_at "pv"
    refine fun p hp => ?_
    walk_at "pv"
    rw [put_old e hp]
    cases ds with
    | nil =>
      walk_at "pv"
      exact ⟨_, Sub.refl _, q 0 _ (Int.le_refl 0) hm ((DrS.refl (ds := []) e).new hp)⟩
    | cons d ds =>
      walk_at "pv"
      refine ⟨by rw [put_old e hp]; rfl, ?_⟩
      rw [put_old e hp]
      walk_at "pv"
      refine ⟨by decide, gt_of sq_0 ?_⟩
      walk_at "pv"
      exact mod_go hm ⟨_, Sub.refl _, q _ _ (Int.emod_nonneg d (by omega)) (Int.emod_lt_of_pos d hm) (((DrS.refl e).new hp).step (ds := ds))⟩
  · exact h.elim
def sp_places : PSp := fun ws M Q _ => match ws with
  | [.ref a] => (∃ ds : List Int, M a = some (.lst (ds.map W.int))) ∧ ∀ M' p (ps : List Int), DrS a M M' → M p = none → M' p = some (.lst (ps.map W.int)) → ps ≠ [] → ps.length < 64 → (∀ x ∈ ps, 0 ≤ x ∧ x < 1000) → Q (.ref p) M'
  | _ => False
def KI (kvs : List (Key × W)) (n : Nat) : Prop := ∃ ks : List Int, kvs.map (·.1) = ks.map Sum.inl ∧ ks.length ≤ n ∧ ∀ k ∈ ks, 0 ≤ k ∧ k < 1000
theorem place_ki {kvs : List (Key × W)} {n : Nat} {v : Int} {b : W} (h : KI kvs n) (h0 : 0 ≤ v) (h1 : v < 1000) : KI (place kvs (Sum.inl v) b) (n + 1) ∧ place kvs (Sum.inl v) b ≠ [] := by
  obtain ⟨ks, e, l, al⟩ := h
  unfold place
  by_cases hs : (look kvs (Sum.inl v)).isSome = true
  · rw [if_pos hs]
    refine ⟨⟨ks, ?_, by omega, al⟩, ?_⟩
    · rw [List.map_map, ← e]
      apply List.map_congr_left
      intro kv _
      show (if kv.1 = Sum.inl v then (kv.1, b) else kv).1 = kv.1
      split <;> rfl
    · intro z
      rw [List.map_eq_nil_iff] at z
      subst z
      cases hs
  · rw [if_neg hs]
    refine ⟨⟨ks ++ [v], by rw [List.map_append, e, List.map_append]; rfl, by rw [List.length_append]; simp; omega, fun k hk => ?_⟩, by simp⟩
    rcases List.mem_append.mp hk with hk | hk
    · exact al k hk
    · rw [List.mem_singleton.mp hk]; exact ⟨h0, h1⟩
def Ipl (a : Addr) (M : Me) (i : Nat) (ρ : En) (M' : Me) : Prop := ∃ (p : Addr) (kvs : List (Key × W)) (k : Option W), Kp (some a) [(p, .dK kvs)] M M' ∧ KI kvs i ∧ (1 ≤ i → kvs ≠ []) ∧ ρ = [some (.ref a), some (.ref p), k]
theorem int4 {r : Int} (h0 : 0 ≤ r) (h1 : r < 4) : r = 0 ∨ r = 1 ∨ r = 2 ∨ r = 3 := by omega
theorem rd_places (ws M Q E) (h : sp_places ws M Q E) : t_l_places sp_take (wEnd Q) (wStart ["draws", "some", "k"] ws) M := by
  unfold sp_places at h
  split at h
  · rename_i a
    obtain ⟨⟨ds, e⟩, q⟩ := h
    rw [wst1]
    unfold t_l_places
    walk_at "pv"
    refine (Kp.start e).fresh_go fun p M1 k _ => ?_
    walk_at "pv"
    refine k.fresh_go fun l M1 k _ => ?_
    walk_at "pv"
    refine k.take_go (by decide) fun r M1 h0 h1 k => ?_
    walk_at "pv"
    rw [k.g0]
    walk_at "pv"
    obtain ⟨m, ⟨hm, hm4⟩, ea⟩ := at_int (ks := [2, 4]) (P := fun m => 0 < m ∧ m ≤ 4) h0 h1 (by decide)
    refine gt_of ea ?_
    walk_at "pv"
    refine k.tail.take_go hm fun m' M2 h0' h1' k => ?_
    walk_at "pv"
    refine ⟨rgB_of (by omega) (by omega), for_r (fun i => Ipl a M i) ⟨p, [], _, k, ⟨[], rfl, Nat.le_refl _, fun k h => nomatch h⟩, fun h => absurd h (by decide), rfl⟩ ?_ ?_⟩
    · clear k
      rintro i ρ M3 hi ⟨p, kvs, kk, k, ki, hne, rfl⟩
      have hi5 : i < 5 := by omega
      walk_at "pv"
      refine k.take_go (by decide) fun r1 M4 a1 b1 k => ?_
      walk_at "pv"
      refine k.take_go (by decide) fun r2 M5 a2 b2 k => ?_
      walk_at "pv"
      refine k.fresh_go fun l M5 k _ => ?_
      walk_at "pv"
      refine k.take_go (by decide) fun r3 M6 a3 b3 k => ?_
      walk_at "pv"
      rw [k.g0]
      walk_at "pv"
      obtain ⟨v, ⟨v0, v1⟩, ea⟩ := at_int (ks := [0 + (i : Int), r1, r2, 999]) (P := fun v => 0 ≤ v ∧ v < 1000) a3 b3 (by simp; omega)
      refine gt_of ea ?_
      walk_at "pv"
      have k := k.tail
      rw [k.g0]
      walk_at "pv"
      have pk := place_ki (b := .bl true) ki v0 v1
      obtain ⟨ks, ek, lk, _⟩ := id ki
      have lkv : kvs.length ≤ i := by
        have := congrArg List.length ek
        rw [List.length_map, List.length_map] at this
        omega
      exact ⟨small_line (by omega), _, Sub.refl _, p, _, _, k.set, pk.1, fun _ => pk.2, rfl⟩
    · rintro ρ M' ⟨p, kvs, kk, k, ⟨ks, ek, lk, al⟩, hne, rfl⟩
      walk_at "pv"
      have kne : kvs ≠ [] := hne (by omega)
      refine .inr ⟨kvs, ks, by rw [k.g0]; rfl, ek, by omega, fun ns' pm _ r hr => ?_⟩
      have k := k.new (o := .lst (ns'.map W.int)) hr
      refine ⟨_, Sub.refl _, q _ r ns' k.1 k.f0 k.g0 (fun z => ?_) (by rw [pm.length_eq]; omega) fun x hx => al x (pm.mem_iff.mp hx)⟩
      subst z
      have hk0 : ks = [] := List.Perm.eq_nil pm.symm
      rw [hk0] at ek
      exact kne (List.map_eq_nil_iff.mp ek)
  · exact h.elim
def oW : Option Int → W
  | none => .non
  | some i => .int i
abbrev Nd := Int × Option Int × Option Int
def ndW (x : Nd) : W := .tup [.int x.1, oW x.2.1, oW x.2.2]
def below (n : Nat) : Option Int → Prop
  | none => True
  | some i => 0 ≤ i ∧ i < n
def ndOk (n : Nat) (x : Nd) : Prop := (0 ≤ x.1 ∧ x.1 < 1000) ∧ below n x.2.1 ∧ below n x.2.2 ∧ (x.2.1.isSome = true ∨ x.2.2.isSome = true)
def sp_flow : PSp := fun ws M Q _ => match ws with
  | [.ref a] => (∃ ds : List Int, M a = some (.lst (ds.map W.int))) ∧ ∀ M' (ns : List Nd), DrS a M M' → 1 ≤ ns.length → ns.length ≤ 24 → (∀ x ∈ ns, ndOk ns.length x) → Q (.tup (ns.map ndW)) M'
  | _ => False
def Ifw (a : Addr) (pl p : Addr) (ps : List Int) (many kind : Int) (M : Me) (i : Nat) (ρ : En) (M' : Me) : Prop := ∃ (ns : List Nd) (k to lk pc jj : Option W), Kp (some a) [(p, .lst (ns.map ndW)), (pl, .lst (ps.map W.int))] M M' ∧ ns.length = i ∧ (∀ x ∈ ns, ndOk many.toNat x) ∧
  ρ = [some (.ref a), some (.int many), some (.ref pl), some (.int kind), some (.ref p), k, to, lk, pc, jj]
def t_flow_fin : WS := wSeq (wSet 8 (wOp rIx2 (wVar 2) (wFn sp_take (wCons (wVar 0) (wCons (wOp rIx2 (wLst (wCons (wCall rLen (wCons (wVar 2) wNil)) (wCons (wC (.int 1)) wNil))) (wCall rInt (wCons (wOp rEq2 (wVar 3) (wC (.int 1))) wNil))) wNil))))) (wDrop (wMt rApp (wVar 4) (wCons (wTup (wCons (wVar 8) (wCons (wOp rIx2 (wVar 6) (wC (.int 0))) (wCons (wOp rIx2 (wVar 6) (wC (.int 1))) wNil)))) wNil)))
def t_flow_rest : WS := wSeq (wSet 7 (wFn sp_take (wCons (wVar 0) (wCons (wC (.int 6)) wNil)))) (wSeq (wIfS (wB (wOp rLt2 (wVar 7) (wC (.int 4)))) (wAsg (wC .non) (wgSub (wVar 6) (wOp rMod2 (wVar 7) (wC (.int 2))) rSet3)) wNext) t_flow_fin)
theorem rd_flow (ws M Q E) (h : sp_flow ws M Q E) : t_l_flow sp_take sp_places (wEnd Q) (wStart ["draws", "many", "places", "kind", "some", "k", "to", "lacks", "place", "j"] ws) M := by
  unfold sp_flow at h
  split at h
  · rename_i a
    obtain ⟨⟨ds, e⟩, q⟩ := h
    rw [wst1]
    unfold t_l_flow
    walk_at "pv"
    refine (Kp.start e).fresh_go fun l M1 k _ => ?_
    walk_at "pv"
    refine k.take_go (by decide) fun r M1 h0 h1 k => ?_
    walk_at "pv"
    rw [k.g0]
    walk_at "pv"
    obtain ⟨many, ⟨hm1, hm2⟩, ea⟩ := at_int (ks := [1, 2, 3, 4, 6, 9, 4, 24]) (P := fun m => 1 ≤ m ∧ m ≤ 24) h0 h1 (by decide)
    walk_at "pv"
    refine gt_of ea ?_
    walk_at "pv"
    have k := k.tail
    refine ⟨k.1.2, fun M2 pl ps d2 npl epl hne hlen hps => ?_⟩
    have k : Kp (some a) [(pl, .lst (ps.map W.int))] M M2 := k.come d2 npl epl
    walk_at "pv"
    refine k.take_go (by decide) fun kind M3 hk0 hk1 k => ?_
    walk_at "pv"
    refine k.fresh_go fun p M3 k _ => ?_
    walk_at "pv"
    refine ⟨rgB_of (by omega) (by omega), for_r (Ifw a pl p ps many kind M) ⟨[], _, _, _, _, _, k, rfl, (fun x h => nomatch h), rfl⟩ ?_ ?_⟩
    · clear k
      rintro i ρ M4 hi ⟨ns, kk, to, lk, pc, jj, k, hn, hok, rfl⟩
      walk_at "pv"
      have hi24 : i < 24 := by omega
      have rest : ∀ (t : Addr) (t1 t2 : Int) (jj : Option W) M5, Kp (some a) [(t, .lst [oW (some t1), oW (some t2)]), (p, .lst (ns.map ndW)), (pl, .lst (ps.map W.int))] M M5 → 0 ≤ t1 ∧ t1 < many → 0 ≤ t2 ∧ t2 < many → t_flow_rest (nxt { nx := wRet (wCall rTup (wCons (wVar 4) wNil)) (wEnd Q), rt := (wEnd Q).rt, bk := (wEnd Q).bk, ct := (wEnd Q).ct } (Ifw a pl p ps many kind M (i + 1)))
          [some (.ref a), some (.int many), some (.ref pl), some (.int kind), some (.ref p), some (.int (0 + (i : Int))), some (.ref t), lk, pc, jj] M5 := by
        clear k
        intro t t1 t2 jj M5 k h1 h2
        unfold t_flow_rest
        walk_at "pv"
        refine k.take_go (by decide) fun lk M6 _ _ k => ?_
        walk_at "pv"
        have fin : ∀ (x y : Option Int) (lk : Option W) M6, Kp (some a) [(t, .lst [oW x, oW y]), (p, .lst (ns.map ndW)), (pl, .lst (ps.map W.int))] M M6 → below many.toNat x → below many.toNat y → x.isSome = true ∨ y.isSome = true → t_flow_fin (nxt { nx := wRet (wCall rTup (wCons (wVar 4) wNil)) (wEnd Q), rt := (wEnd Q).rt, bk := (wEnd Q).bk, ct := (wEnd Q).ct } (Ifw a pl p ps many kind M (i + 1)))
          [some (.ref a), some (.int many), some (.ref pl), some (.int kind), some (.ref p), some (.int (0 + (i : Int))), some (.ref t), lk, pc, jj] M6 := by
          clear k h1 h2
          intro x y lk M6 k hx hy hxy
          unfold t_flow_fin
          walk_at "pv"
          rw [k.g2]
          walk_at "pv"
          refine k.fresh_go fun l M6 k _ => ?_
          walk_at "pv"
          rw [k.g0]
          walk_at "pv"
          obtain ⟨m, ⟨m0, m1⟩, ea⟩ := at_int (r := b2i (decide (kind = 1))) (ks := [(ps.length : Int), 1]) (P := fun m => 0 < m ∧ m ≤ ps.length) b2i_0 b2i_2 (by
            have : 0 < ps.length := List.length_pos_iff.mpr hne
            simp; omega)
          walk_at "pv"
          refine gt_of ea ?_
          walk_at "pv"
          refine k.take_go m0 fun r M7 r0 r1 k => ?_
          have k := k.tail
          walk_at "pv"
          rw [k.g2]
          walk_at "pv"
          obtain ⟨pc, hpc, ea⟩ := at_int (r := r) (ks := ps) (P := fun x => 0 ≤ x ∧ x < 1000) r0 (by omega) hps
          walk_at "pv"
          refine gt_of ea ?_
          walk_at "pv"
          refine ⟨by rw [k.g1]; rfl, ?_⟩
          rw [k.g0]
          walk_at "pv"
          rw [k.g0]
          walk_at "pv"
          rw [k.g1]
          walk_at "pv"
          refine ⟨small_line (by omega), _, Sub.refl _, ns ++ [(pc, x, y)], _, _, _, _, _, by
            rw [List.map_append]; exact k.tail.set, by rw [List.length_append, hn]; rfl, fun z hz => ?_, rfl⟩
          rcases List.mem_append.mp hz with hz | hz
          · exact hok z hz
          · rw [List.mem_singleton.mp hz]; exact ⟨hpc, hx, hy, hxy⟩
        have b1 : below many.toNat (some t1) := ⟨h1.1, by omega⟩
        have b2 : below many.toNat (some t2) := ⟨h2.1, by omega⟩
        walk_at "pv"
        refine brn_i (fun _ => ?_) (fun _ => ?_)
        · walk_at "pv"
          refine mod_any (by decide) fun r r0 r1 => ?_
          walk_at "pv"
          rw [k.g0]
          walk_at "pv"
          have : r = 0 ∨ r = 1 := by omega
          rcases this with rfl | rfl
          · refine gt_of (w := 0) rfl ?_
            exact fin none (some t2) _ _ k.set trivial b2 (.inr rfl)
          · refine gt_of (w := 1) rfl ?_
            exact fin (some t1) none _ _ k.set b1 trivial (.inl rfl)
        · walk_at "pv"
          exact fin (some t1) (some t2) _ _ k b1 b2 (.inl rfl)
      refine ⟨rgB_of (by decide) (by decide), lc_c (by rw [rngW_len]; decide) (fun j acc M' => ∃ ts : List Int, Kp (some a) [(p, .lst (ns.map ndW)), (pl, .lst (ps.map W.int))] M M' ∧ acc = ts.map W.int ∧ ts.length = j ∧ ∀ t ∈ ts, 0 ≤ t ∧ t < many) ⟨[], k, rfl, rfl, fun x h => nomatch h⟩ ?_ ?_⟩
      · clear k
        rintro j acc w M5 hw ⟨ts, k, rfl, hlj, hts⟩
        obtain ⟨rfl, hj⟩ := rngW_get hw
        walk_at "pv"
        refine k.take_go (by omega) fun t1 M6 a1 b1 k => ?_
        walk_at "pv"
        refine mod_any (by omega) fun t2 a2 b2 => ?_
        walk_at "pv"
        refine k.fresh_go fun l M6 k _ => ?_
        walk_at "pv"
        refine k.take_go (by decide) fun t3 M7 a3 b3 k => ?_
        walk_at "pv"
        walk_at "pv"
        rw [k.g0]
        have k := k.tail
        walk_at "pv"
        obtain ⟨t, ht, ea⟩ := at_int (r := b2i (decide (t3 = 0))) (ks := [t1, t2]) (P := fun m => 0 ≤ m ∧ m < many) b2i_0 b2i_2 (by simp [a1, b1, a2, b2])
        walk_at "pv"
        refine gt_of ea ⟨M7, Sub.refl _, ts ++ [t], k, map_snoc, by rw [List.length_append, hlj]; rfl, fun x hx => ?_⟩
        rcases List.mem_append.mp hx with hx | hx
        · exact hts x hx
        · rw [List.mem_singleton.mp hx]; exact ht
      · clear k
        rintro acc M5 ⟨ts, k, rfl, hl, hts⟩ t ht
        rw [rngW_len] at hl
        obtain ⟨t1, t2, rfl⟩ : ∃ t1 t2, ts = [t1, t2] := by
          match ts, hl with
          | [t1, t2], _ => exact ⟨t1, t2, rfl⟩
        have h1 := hts t1 (.head _)
        have h2 := hts t2 (.tail _ (.head _))
        have k := k.new (o := .lst [.int t1, .int t2]) ht
        clear hts
        walk_at "pv"
        have k : Kp (some a) [(t, .lst [oW (some t1), oW (some t2)]), (p, .lst (ns.map ndW)), (pl, .lst (ps.map W.int))] M (put M5 t (.lst [.int t1, .int t2])) := k
        walk_at "pv"
        refine brn_i (fun _ => ?_) (fun _ => ?_)
        · clear h1 h2
          walk_at "pv"
          refine mod_any (by omega) fun t1 a1 b1 => ?_
          walk_at "pv"
          refine mod_any (by omega) fun t2 a2 b2 => ?_
          walk_at "pv"
          refine k.tail.fresh_go fun t' M7 k _ => ?_
          exact rest t' t1 t2 jj _ k ⟨a1, b1⟩ ⟨a2, b2⟩
        · exact rest t t1 t2 jj _ k h1 h2
    · rintro ρ M' ⟨ns, kk, to, lk, pc, jj, k, hn, hok, rfl⟩
      walk_at "pv"
      rw [k.g0]
      walk_at "pv"
      refine ⟨_, Sub.refl _, q _ ns k.1 (by omega) (by omega) fun x hx => ?_⟩
      have := hok x hx
      rw [show ns.length = many.toNat by omega]
      exact this
  · exact h.elim
end PV
set_option maxHeartbeats 4000000
namespace PV
open PySem PySem.Spec PyProof.Rows L2
local macro_rules | `(tactic| walk_at "pv") => `(tactic| try simp only [wSeq, wNext, wRet, wRetN, wDrop, wSet, wIfS, wAsg, wgName, wgNil, wgCons, wgTup, wgSub, wPar, wAug, wVar, wC, wOp, wUn, wB, wChain, wAnd, wOr, wNot, wAndV, wOrV, wNotV, wIf, wNil, wCons, wTup, wLst, wCall, wFn, wIsi, wMt, wMt0, wSl, wPart, wNoPart, wNewK, wNewN, wYes, wWipe, wFor, wiSeq, wiRng1, wiRng2, wLc,
  rAdd2, rSub2, rMul2, rDiv2, rMod2, rPow2, rShl2, rShr2, rNeg1, rIAdd2, rLt2, rLe2, rGt2, rGe2, rI2, rIs2, rIsNot2, rIsS, rEq2, rNe2, rEqS, rIx2, rSl2, rSet3, rApp, rExt, rPop, rLen, rAbs, rMax2W, rMin2W, rInt, rTup, rLst, rAll2, rSum2, rSorted2,
  wst1, wst2, wst3, wst4, wst5, obOf, Tn.has, isN, rdl_l, put_same, put_put, Option.isSome_some, true_and, decide_true, decide_false, atI_0, atI_1, atI_2, atI_3, atI_4, atI_m1, atI_m2, atI_m3, atI_m4, atI_m5, cut_1, List.map_cons, List.map_nil, List.cons_append, List.nil_append, List.getElem?_cons_zero, List.getElem?_cons_succ, List.length_cons, List.length_nil, List.length_map, List.set_cons_zero, List.set_cons_succ, List.replicate, Nat.reduceAdd, Nat.reduceSub, Bool.not_true, Bool.not_false])

local macro_rules | `(tactic| walk_at "pvm") => `(tactic| try simp only [wSeq, wNext, wRet, wRetN, wDrop, wSet, wIfS, wAsg, wgName, wgNil, wgCons, wgTup, wgSub, wPar, wAug, wVar, wC, wOp, wUn, wB, wChain, wAnd, wOr, wNot, wAndV, wOrV, wNotV, wIf, wNil, wCons, wTup, wLst, wCall, wFn, wIsi, wMt, wMt0, wSl, wPart, wNoPart, wNewK, wNewN, wYes, wWipe, wFor, wiSeq, wiRng1, wiRng2, wLc,
  rAdd2, rSub2, rMul2, rShl2, rShr2, rNeg1, rIAdd2, rLt2, rLe2, rGt2, rGe2, rI2, rIs2, rIsNot2, rIsS, rEq2, rNe2, rEqS, rIx2, rSl2, rSet3, rApp, rExt, rPop, rLen, rAbs, rMax2W, rMin2W, rInt, rTup, rLst, rAll2, rSum2, rSorted2,
  wst1, wst2, wst3, wst4, wst5, obOf, Tn.has, isN, rdl_l, put_same, put_put, Option.isSome_some, true_and, decide_true, decide_false, atI_0, atI_1, atI_2, atI_3, atI_4, atI_m1, atI_m2, atI_m3, atI_m4, atI_m5, cut_1, List.map_cons, List.map_nil, List.cons_append, List.nil_append, List.getElem?_cons_zero, List.getElem?_cons_succ, List.length_cons, List.length_nil, List.length_map, List.set_cons_zero, List.set_cons_succ, List.replicate, Nat.reduceAdd, Nat.reduceSub, Bool.not_true, Bool.not_false])

def sp_draws : PSp := fun ws M Q _ => match ws with
  | [.cl xs] => (∃ ns : List Int, xs = ns.map W.int) ∧ ∀ p (ds : List Int), M p = none → ds.length ≤ 240 → Q (.ref p) (put M p (.lst (ds.map W.int)))
  | _ => False
def Idr (M : Me) (xs : List W) (b : Nat) (ρ : En) (M' : Me) : Prop := ∃ (p : Addr) (ds : List Int) (k r st mn : Option W), M p = none ∧ ds.length ≤ b ∧ M' = put M p (.lst (ds.map W.int)) ∧ ρ = [some (.cl xs), some (.ref p), k, r, st, mn]
theorem cpow_a : CPow 10 18 := ⟨by decide, by decide, by decide⟩
theorem div_16 {i : Int} : DivOk i 16 := ⟨by decide, by decide⟩
theorem div_16000 {i : Int} : DivOk i 16000 := ⟨by decide, by decide⟩
theorem div_1000 {i : Int} : DivOk i 1000 := ⟨by decide, by decide⟩
theorem big_any {M : Me} {i : Int} {Q : WK} {big : Int} (hb : ∀ b, Q (.bl b) M) : Q (.bl (decide (i < big))) M := hb _
def Idw (M : Me) (xs : List W) (b : Nat) (m : Nat) (ρ : En) (M' : Me) : Prop := ∃ (j : Nat) (p : Addr) (ds : List Int) (k st : Option W) (r : Int), j + m = 60 ∧ M p = none ∧ ds.length ≤ b + j ∧ M' = put M p (.lst (ds.map W.int)) ∧ ρ = [some (.cl xs), some (.ref p), k, some (.int r), st, some (.int j)]
theorem rd_draws (ws M Q E) (h : sp_draws ws M Q E) : t_l_draws (wEnd Q) (wStart ["script", "draws", "k", "rest", "stir", "many"] ws) M := by
  unfold sp_draws at h
  split at h
  · rename_i xs
    obtain ⟨⟨ns, rfl⟩, q⟩ := h
    rw [wst1]
    unfold t_l_draws
    walk_at "pv"
    refine ⟨Nat.zero_le _, fun p hp => ?_⟩
    refine ⟨⟨by omega, by omega⟩, for_r (fun i => Idr M (ns.map W.int) (60 * i)) ⟨p, [], _, _, _, _, hp, Nat.le_refl _, rfl, rfl⟩ ?_ ?_⟩
    · rintro i ρ M' hi ⟨p, ds, k, r, st, mn, hp, hl, rfl, rfl⟩
      have hi80 : i < 80 := by omega
      have hin : i < ns.length := by omega
      have hlt := small_line (n := ds.length + 100) (by omega)
      walk_at "pvm"
      rw [Int.zero_add, atI_of (v := .int ns[i]) (Int.natCast_nonneg i) (by rw [Int.toNat_natCast, List.getElem?_map, List.getElem?_eq_getElem hin]; rfl)]
      generalize ns[i] = n
      walk_at "pvm"
      refine pow_any cpow_a fun big => ?_
      walk_at "pvm"
      generalize ((n.natAbs : Nat) : Int) = a
      cases decide (a < big) with
      | true =>
        walk_at "pvm"
        refine ⟨.left (by decide) (by decide), mod_any (by decide) fun r1 h1 l1 => ?_⟩
        walk_at "pvm"
        refine ⟨.right (by decide) (by decide), mod_any (by decide) fun r2 h2 l2 => ?_⟩
        walk_at "pvm"
        refine ⟨.left (by omega) (by omega), mod_any (by decide) fun r3 h3 l3 => ?_⟩
        walk_at "pvm"
        refine div_any div_16 fun r4 => ?_
        refine mod_any (by decide) fun r5 h5 l5 => ?_
        walk_at "pvm"
        refine ⟨by omega, div_any div_16000 fun r6 => ?_⟩
        refine mod_any (by decide) fun r7 h7 l7 => ?_
        walk_at "pvm"
        simp only [map_snoc, List.length_map, List.length_append, List.length_cons, List.length_nil]
        refine ⟨by omega, .left (by decide) (by decide), mod_any (by decide) fun r8 h8 l8 => ?_⟩
        walk_at "pvm"
        refine ⟨.left (by omega) (by omega), mod_any (by decide) fun r9 h9 l9 => ?_⟩
        refine div_any div_16 fun r10 => ?_
        walk_at "pvm"
        refine mod_any (by decide) fun r11 h11 l11 => ?_
        walk_at "pvm"
        simp only [map_snoc, List.length_map, List.length_append, List.length_cons, List.length_nil]
        exact ⟨by omega, _, Sub.refl _, _, _, _, _, _, _, hp, by simp only [List.length_append, List.length_cons, List.length_nil]; omega, rfl, rfl⟩
      | false =>
        walk_at "pvm"
        refine while_w (Idw M (ns.map W.int) (60 * i)) 60 ⟨0, p, ds, _, _, a, rfl, hp, hl, rfl, rfl⟩ ?_
        rintro m ρ M' ⟨j, p, ds, k, st, r, hj, hp, hl, rfl, rfl⟩
        have hlt := small_line (n := ds.length + 100) (by omega)
        have done : (nxt { nx := wRet (wSl (wVar 1) wNoPart (wPart (wC (W.int 240)))) (wEnd Q), rt := (wEnd Q).rt, bk := (wEnd Q).bk, ct := (wEnd Q).ct } (Idr M (ns.map W.int) (60 * (i + 1)))).nx [some (.cl (ns.map W.int)), some (.ref p), k, some (.int r), st, some (.int j)] (put M p (.lst (ds.map W.int))) :=
          ⟨_, Sub.refl _, p, ds, _, _, _, _, hp, by omega, rfl, rfl⟩
        walk_at "pvm"
        by_cases h1 : 1000 ≤ r
        case neg =>
          simp only [h1, decide_false]
          exact done
        simp only [h1, decide_true]
        by_cases h2 : (j : Int) < 60
        case neg =>
          simp only [h2, decide_false]
          exact done
        simp only [h2, decide_true]
        refine mod_any (by decide) fun r1 _ _ => ?_
        walk_at "pvm"
        refine ⟨by omega, div_any div_1000 fun r2 => ?_⟩
        simp only [map_snoc]
        exact ⟨_, Sub.refl _, m - 1, by omega, j + 1, p, _, _, _, _, by omega, hp, by simp only [List.length_append, List.length_cons, List.length_nil]; omega, rfl, rfl⟩
    · rintro ρ M' ⟨p, ds, k, r, st, mn, hp, hl, rfl, rfl⟩
      walk_at "pvm"
      intro r hr
      obtain ⟨ne, hr⟩ := put_none.mp hr
      rw [show cutW (List.map W.int ds) none (some 240) = (ds.take 240).map W.int from (cut_to (xs := ds.map W.int) 240).trans (by rw [List.map_take])]
      exact ⟨_, Sub.both (Sub.new hp), q r _ hr (by rw [List.length_take]; omega)⟩
  · exact h.elim
end PV
set_option maxHeartbeats 4000000
namespace PV
open PySem PySem.Spec PyProof.Rows L2
local macro_rules | `(tactic| walk_at "pv") => `(tactic| try simp only [wSeq, wNext, wRet, wRetN, wDrop, wSet, wIfS, wAsg, wgName, wgNil, wgCons, wgTup, wgSub, wPar, wAug, wVar, wC, wOp, wUn, wB, wChain, wAnd, wOr, wNot, wAndV, wOrV, wNotV, wIf, wNil, wCons, wTup, wLst, wCall, wFn, wIsi, wMt, wMt0, wSl, wPart, wNoPart, wNewK, wNewN, wYes, wWipe, wFor, wiSeq, wiRng1, wiRng2, wLc,
  rAdd2, rSub2, rMul2, rDiv2, rMod2, rPow2, rShl2, rShr2, rNeg1, rIAdd2, rLt2, rLe2, rGt2, rGe2, rI2, rIs2, rIsNot2, rIsS, rEq2, rNe2, rEqS, rIx2, rSl2, rSet3, rApp, rExt, rPop, rLen, rAbs, rMax2W, rMin2W, rInt, rTup, rLst, rAll2, rSum2, rSorted2,
  wst1, wst2, wst3, wst4, wst5, obOf, Tn.has, isN, rdl_l, put_same, atI_0, atI_1, atI_2, atI_3, atI_4, atI_m1, atI_m2, atI_m3, atI_m4, atI_m5, cut_1, List.map_cons, List.map_nil, List.cons_append, List.nil_append, List.getElem?_cons_zero, List.getElem?_cons_succ, List.length_cons, List.length_nil, List.set_cons_zero, List.set_cons_succ, List.replicate, Nat.reduceAdd, Nat.reduceSub, Bool.not_true, Bool.not_false])
def isNum (x : W) (n : Int) : Bool := match x with
  | .int i => decide (0 ≤ i) && decide (i < n)
  | _ => false
mutual
def Kd (M : Me) : W → Prop
  | .ref a => (∃ xs, M a = some (.lst xs)) ∨ ∃ kvs, M a = some (.dK kvs)
  | .tup ws => Kds M ws
  | _ => True
def Kds (M : Me) : List W → Prop
  | [] => True
  | w :: ws => Kd M w ∧ Kds M ws
end
theorem kds_get {M : Me} : ∀ {ws : List W} {i : Nat} {w : W}, Kds M ws → ws[i]? = some w → Kd M w
  | [], _, _, _, h => by simp at h
  | x :: ws, 0, w, k, h => by
    have e : x = w := by simpa using h
    rw [← e]; unfold Kds at k; exact k.1
  | x :: ws, i + 1, w, k, h => by
    unfold Kds at k
    exact kds_get k.2 (by simpa using h)
mutual
theorem kd_sub {M M' : Me} (s : Sub M M') : ∀ w, Kd M w → Kd M' w
  | .ref a, h => by
    unfold Kd at h ⊢
    rcases h with ⟨xs, e⟩ | ⟨xs, e⟩
    · exact .inl ⟨xs, s _ _ e⟩
    · exact .inr ⟨xs, s _ _ e⟩
  | .tup ws, h => by unfold Kd at h ⊢; exact kds_sub s ws h
  | .non, _ => by unfold Kd; trivial
  | .bl _, _ => by unfold Kd; trivial
  | .int _, _ => by unfold Kd; trivial
  | .str _, _ => by unfold Kd; trivial
  | .cl _, _ => by unfold Kd; trivial
theorem kds_sub {M M' : Me} (s : Sub M M') : ∀ ws, Kds M ws → Kds M' ws
  | [], _ => by unfold Kds; trivial
  | w :: ws, h => by unfold Kds at h ⊢; exact ⟨kd_sub s w h.1, kds_sub s ws h.2⟩
end
def sp_below : PSp := fun ws M Q _ => match ws with
  | [x, .int n] => Kd M x ∧ Q (.bl (isNum x n)) M
  | _ => False
theorem rd_below (ws M Q E) (h : sp_below ws M Q E) : t_p_is_below (wEnd Q) (wStart ["thing", "many"] ws) M := by
  unfold sp_below at h
  split at h
  · rename_i x n
    obtain ⟨hk, q⟩ := h
    rw [wst2]
    unfold t_p_is_below
    cases x with
    | int i =>
      walk_at "pv"
      by_cases h0 : (0 : Int) ≤ i
      · simp only [h0, decide_true, wEnd]
        exact ⟨M, Sub.refl M, by simpa [isNum, h0] using q⟩
      · simp only [h0, decide_false, wEnd]
        exact ⟨M, Sub.refl M, by simpa [isNum, h0] using q⟩
    | ref a =>
      unfold Kd at hk
      rcases hk with ⟨xs, e⟩ | ⟨xs, e⟩
      · walk_at "pv"
        simp only [e, wEnd]
        exact ⟨M, Sub.refl M, q⟩
      · walk_at "pv"
        simp only [e, wEnd]
        exact ⟨M, Sub.refl M, q⟩
    | _ =>
      walk_at "pv"
      exact ⟨M, Sub.refl M, q⟩
  · exact h.elim
def taken (a b : W) : List W := [a, b].filter fun x => !isN x
def okNode (n : Nat) : W → Bool
  | .tup [p, a, b] => isNum p 1000 && (!(taken a b).isEmpty && (taken a b).all fun x => isNum x n)
  | _ => false
def flowW : W → Bool
  | .tup ns => decide (1 ≤ ns.length) && (decide (ns.length ≤ 24) && ns.all (okNode ns.length))
  | _ => false
theorem flow_bad {ns : List W} {i : Nat} {w : W} (h : ns[i]? = some w) (b : okNode ns.length w = false) : flowW (.tup ns) = false := by
  have : ns.all (okNode ns.length) = false := by
    rw [List.all_eq_false]
    exact ⟨w, List.mem_of_getElem? h, by rw [b]; exact Bool.false_ne_true⟩
  show (decide (1 ≤ ns.length) && (decide (ns.length ≤ 24) && ns.all (okNode ns.length))) = false
  rw [this, Bool.and_false, Bool.and_false]
def sp_is_flow : PSp := fun ws M Q _ => match ws with
  | [x] => Kd M x ∧ Q (.bl (flowW x)) M
  | _ => False
def Ifl (M : Me) (n : Nat) (ns : List W) (i : Nat) (ρ : En) (M' : Me) : Prop := M' = M ∧ (∃ a b c, ρ = [some (.tup ns), a, b, c]) ∧ ∀ (j : Nat) w, j < i → ns[j]? = some w → okNode n w = true
theorem Ifl.next {M : Me} {n i : Nat} {ns : List W} {w : W} {a b c x y z : Option W} (h : Ifl M n ns i [some (.tup ns), a, b, c] M) (hw : ns[i]? = some w) (ok : okNode n w = true) : Ifl M n ns (i + 1) [some (.tup ns), x, y, z] M :=
  ⟨rfl, ⟨x, y, z, rfl⟩, fun j v hj hx => by
    by_cases z : j = i
    · subst z; rw [hw] at hx; cases hx; exact ok
    · exact h.2.2 j v (by omega) hx⟩
theorem rd_is_flow (ws M Q E) (h : sp_is_flow ws M Q E) : t_p_is_flow sp_below (wEnd Q) (wStart ["thing", "node", "taken", "to"] ws) M := by
  unfold sp_is_flow at h
  split at h
  · rename_i x
    obtain ⟨hk, q⟩ := h
    rw [wst1]
    unfold t_p_is_flow
    cases x with
    | tup ns =>
      have hks : Kds M ns := by unfold Kd at hk; exact hk
      by_cases h1 : (1 : Int) ≤ (ns.length : Int)
      case neg =>
        have e : flowW (.tup ns) = false := by
          show (decide (1 ≤ ns.length) && _) = false
          rw [decide_eq_false (by omega)]; rfl
        rw [e] at q
        walk_at "pv"
        simp only [h1, decide_false, Bool.not_false]
        exact ⟨M, Sub.refl M, q⟩
      by_cases h2 : (ns.length : Int) ≤ 24
      case neg =>
        have e : flowW (.tup ns) = false := by
          show (decide (1 ≤ ns.length) && (decide (ns.length ≤ 24) && _)) = false
          rw [decide_eq_false (show ¬ ns.length ≤ 24 by omega), Bool.false_and, Bool.and_false]
        rw [e] at q
        walk_at "pv"
        simp only [h1, h2, decide_true, decide_false, Bool.not_false]
        exact ⟨M, Sub.refl M, q⟩
      walk_at "pv"
      simp only [h1, h2, decide_true, Bool.not_true]
      refine for_c (Ifl M ns.length ns) ⟨rfl, ⟨_, _, _, rfl⟩, fun j w hj => absurd hj (Nat.not_lt_zero _)⟩ ?_ ?_
      · intro i w ρ M' hw hI
        obtain ⟨rfl, ⟨a, b, c, rfl⟩, hall⟩ := id hI
        have bad : okNode ns.length w = false → Q (.bl false) M' := fun e => by rw [flow_bad hw e] at q; exact q
        have hkw := kds_get hks hw
        cases w with
        | tup xs =>
          by_cases hl : xs.length = 3
          case neg =>
            have e : okNode ns.length (.tup xs) = false := by
              unfold okNode
              split
              · rename_i e; cases e; exact absurd rfl hl
              · rfl
            walk_at "pv"
            simp only [show ((xs.length : Int) = 3) = False from eq_false (by omega), decide_false, Bool.not_false]
            exact ⟨M', Sub.refl M', bad e⟩
          obtain ⟨x0, x1, x2, rfl⟩ : ∃ x0 x1 x2, xs = [x0, x1, x2] := by
            match xs, hl with
            | [x0, x1, x2], _ => exact ⟨x0, x1, x2, rfl⟩
          have k0 : Kd M' x0 ∧ Kd M' x1 ∧ Kd M' x2 := by
            unfold Kd at hkw
            simp only [Kds] at hkw
            exact ⟨hkw.1, hkw.2.1, hkw.2.2.1⟩
          walk_at "pv"
          simp only [show ((3 : Nat) : Int) = 3 from rfl, decide_true, Bool.not_true, sp_below]
          refine ⟨k0.1, ?_⟩
          cases e0 : isNum x0 1000 with
          | false =>
            walk_at "pv"
            exact ⟨M', Sub.refl M', bad (by show (isNum x0 1000 && _) = false; rw [e0]; rfl)⟩
          | true =>
            walk_at "pv"
            refine lc_fm rfl (by simp) (fun x => !isN x) id (fun i y hy R R0 h1 h0 => ?_) fun q hq => ?_
            · walk_at "pv"
              cases y <;> first | exact h1 rfl _ (Sub.refl _) | exact h0 rfl _ (Sub.refl _)
            · rw [List.map_id]
              have hks : ∀ (i : Nat) y, (taken x1 x2)[i]? = some y → Kd M' y := fun i y hy => by
                have h := List.mem_of_getElem? hy
                unfold taken at h
                rw [List.mem_filter] at h
                rcases List.mem_cons.mp h.1 with rfl | h2
                · exact k0.2.1
                · rw [List.mem_singleton] at h2; subst h2; exact k0.2.2
              have hz : (taken x1 x2).length ≤ 16000000 := by
                have := List.length_filter_le (fun x => !isN x) [x1, x2]
                unfold taken
                simp only [List.length_cons, List.length_nil] at this
                omega
              have hok : okNode ns.length (.tup [x0, x1, x2]) = (!(taken x1 x2).isEmpty && (taken x1 x2).all fun x => isNum x ns.length) := by
                show (isNum x0 1000 && _) = _
                rw [e0, Bool.true_and]
              change _ ∧ _
              rw [show List.filter (fun x => !isN x) [x1, x2] = taken x1 x2 from rfl]
              generalize taken x1 x2 = ts at *
              refine ⟨Nat.zero_le _, fun p hp => ?_⟩
              obtain ⟨ne, hp⟩ := put_none.mp hp
              walk_at "pv"
              simp only [put_same, put_ne (Ne.symm ne), rdl_l]
              cases he : ts.isEmpty with
              | true =>
                rw [he] at hok
                walk_at "pv"
                exact ⟨M', (Sub.new hq).trans (Sub.new (put_none.mpr ⟨ne, hp⟩)), bad hok⟩
              | false =>
                rw [he, Bool.not_false, Bool.true_and] at hok
                walk_at "pv"
                refine ⟨rfl, ?_⟩
                refine lc_m (v := fun y => .bl (isNum y ns.length)) (by simp only [put_same, put_ne (Ne.symm ne), rdl_l]) hz (fun i y hy R h => ?_) fun r hr => ?_
                · walk_at "pv"
                  exact ⟨kd_sub (((Sub.new hq).trans (Sub.new (put_none.mpr ⟨ne, hp⟩)))) _ (hks i y hy), h _ (Sub.refl _)⟩
                · refine ⟨ts.map fun y => isNum y ns.length, ?_, ?_⟩
                  · rw [put_same, rdl_l, List.map_map]; rfl
                  have e3 : ((ts.map fun y => isNum y ns.length).all fun b => b) = okNode ns.length (.tup [x0, x1, x2]) := by rw [hok, List.all_map]; rfl
                  rw [e3]
                  cases ho : okNode ns.length (.tup [x0, x1, x2]) with
                  | false => 
                    walk_at "pv"
                    exact ⟨M', ((Sub.new hq).trans (Sub.new (put_none.mpr ⟨ne, hp⟩))).trans (Sub.new hr), bad ho⟩
                  | true => exact ⟨M', ((Sub.new hq).trans (Sub.new (put_none.mpr ⟨ne, hp⟩))).trans (Sub.new hr), hI.next hw ho⟩
        | ref a =>
          unfold Kd at hkw
          rcases hkw with ⟨xs, e⟩ | ⟨xs, e⟩
          · walk_at "pv"
            simp only [e]
            exact ⟨M', Sub.refl M', bad rfl⟩
          · walk_at "pv"
            simp only [e]
            exact ⟨M', Sub.refl M', bad rfl⟩
        | _ =>
          walk_at "pv"
          exact ⟨M', Sub.refl M', bad rfl⟩
      · rintro ρ M' ⟨rfl, ⟨a, b, c, rfl⟩, hall⟩
        have e : flowW (.tup ns) = true := by
          show (decide (1 ≤ ns.length) && (decide (ns.length ≤ 24) && ns.all (okNode ns.length))) = true
          rw [decide_eq_true (by omega), decide_eq_true (by omega), Bool.true_and, Bool.true_and, List.all_eq_true]
          intro w hw
          obtain ⟨j, hj⟩ := List.getElem?_of_mem hw
          exact hall j w (List.getElem?_eq_some_iff.mp hj).1 hj
        rw [e] at q
        exact ⟨M', Sub.refl M', q⟩
    | ref a =>
      unfold Kd at hk
      rcases hk with ⟨xs, e⟩ | ⟨xs, e⟩
      · walk_at "pv"
        simp only [e]
        exact ⟨M, Sub.refl M, q⟩
      · walk_at "pv"
        simp only [e]
        exact ⟨M, Sub.refl M, q⟩
    | _ =>
      walk_at "pv"
      exact ⟨M, Sub.refl M, q⟩
  · exact h.elim
theorem rd_due (ws M Q E) (h : sp_is_flow ws M Q E) : t_l_due sp_below (wEnd Q) (wStart ["thing", "node", "taken", "to"] ws) M := by
  unfold sp_is_flow at h
  split at h
  · rename_i x
    obtain ⟨hk, q⟩ := h
    rw [wst1]
    unfold t_l_due
    cases x with
    | tup ns =>
      have hks : Kds M ns := by unfold Kd at hk; exact hk
      by_cases h1 : (1 : Int) ≤ (ns.length : Int)
      case neg =>
        have e : flowW (.tup ns) = false := by
          show (decide (1 ≤ ns.length) && _) = false
          rw [decide_eq_false (by omega)]; rfl
        rw [e] at q
        walk_at "pv"
        simp only [show (ns.length : Int) < 1 from by omega, decide_true]
        exact ⟨M, Sub.refl M, q⟩
      by_cases h2 : (ns.length : Int) ≤ 24
      case neg =>
        have e : flowW (.tup ns) = false := by
          show (decide (1 ≤ ns.length) && (decide (ns.length ≤ 24) && _)) = false
          rw [decide_eq_false (show ¬ ns.length ≤ 24 by omega), Bool.false_and, Bool.and_false]
        rw [e] at q
        walk_at "pv"
        simp only [show ¬ (ns.length : Int) < 1 from by omega, show 24 < (ns.length : Int) from by omega, decide_true, decide_false]
        exact ⟨M, Sub.refl M, q⟩
      walk_at "pv"
      simp only [show ¬ (ns.length : Int) < 1 from by omega, show ¬ 24 < (ns.length : Int) from by omega, decide_false]
      refine for_c (Ifl M ns.length ns) ⟨rfl, ⟨_, _, _, rfl⟩, fun j w hj => absurd hj (Nat.not_lt_zero _)⟩ ?_ ?_
      · intro i w ρ M' hw hI
        obtain ⟨rfl, ⟨a, b, c, rfl⟩, hall⟩ := id hI
        have bad : okNode ns.length w = false → Q (.bl false) M' := fun e => by rw [flow_bad hw e] at q; exact q
        have hkw := kds_get hks hw
        cases w with
        | tup xs =>
          by_cases hl : xs.length = 3
          case neg =>
            have e : okNode ns.length (.tup xs) = false := by
              unfold okNode
              split
              · rename_i e; cases e; exact absurd rfl hl
              · rfl
            walk_at "pv"
            simp only [show ((xs.length : Int) = 3) = False from eq_false (by omega), decide_false, Bool.not_false]
            exact ⟨M', Sub.refl M', bad e⟩
          obtain ⟨x0, x1, x2, rfl⟩ : ∃ x0 x1 x2, xs = [x0, x1, x2] := by
            match xs, hl with
            | [x0, x1, x2], _ => exact ⟨x0, x1, x2, rfl⟩
          have k0 : Kd M' x0 ∧ Kd M' x1 ∧ Kd M' x2 := by
            unfold Kd at hkw
            simp only [Kds] at hkw
            exact ⟨hkw.1, hkw.2.1, hkw.2.2.1⟩
          walk_at "pv"
          simp only [show ((3 : Nat) : Int) = 3 from rfl, decide_true, Bool.not_true, sp_below]
          refine ⟨k0.1, ?_⟩
          cases e0 : isNum x0 1000 with
          | false =>
            walk_at "pv"
            exact ⟨M', Sub.refl M', bad (by show (isNum x0 1000 && _) = false; rw [e0]; rfl)⟩
          | true =>
            walk_at "pv"
            refine lc_fm rfl (by simp) (fun x => !isN x) id (fun i y hy R R0 h1 h0 => ?_) fun q hq => ?_
            · walk_at "pv"
              cases y <;> first | exact h1 rfl _ (Sub.refl _) | exact h0 rfl _ (Sub.refl _)
            · rw [List.map_id]
              have hks : ∀ (i : Nat) y, (taken x1 x2)[i]? = some y → Kd M' y := fun i y hy => by
                have h := List.mem_of_getElem? hy
                unfold taken at h
                rw [List.mem_filter] at h
                rcases List.mem_cons.mp h.1 with rfl | h2
                · exact k0.2.1
                · rw [List.mem_singleton] at h2; subst h2; exact k0.2.2
              have hz : (taken x1 x2).length ≤ 16000000 := by
                have := List.length_filter_le (fun x => !isN x) [x1, x2]
                unfold taken
                simp only [List.length_cons, List.length_nil] at this
                omega
              have hok : okNode ns.length (.tup [x0, x1, x2]) = (!(taken x1 x2).isEmpty && (taken x1 x2).all fun x => isNum x ns.length) := by
                show (isNum x0 1000 && _) = _
                rw [e0, Bool.true_and]
              change _ ∧ _
              rw [show List.filter (fun x => !isN x) [x1, x2] = taken x1 x2 from rfl]
              generalize taken x1 x2 = ts at *
              refine ⟨Nat.zero_le _, fun p hp => ?_⟩
              obtain ⟨ne, hp⟩ := put_none.mp hp
              walk_at "pv"
              simp only [put_same, put_ne (Ne.symm ne), rdl_l]
              cases he : ts.isEmpty with
              | true =>
                rw [he] at hok
                walk_at "pv"
                exact ⟨M', (Sub.new hq).trans (Sub.new (put_none.mpr ⟨ne, hp⟩)), bad hok⟩
              | false =>
                rw [he, Bool.not_false, Bool.true_and] at hok
                walk_at "pv"
                refine ⟨rfl, ?_⟩
                refine lc_fm (by simp only [put_same, put_ne (Ne.symm ne), rdl_l]) hz (fun y => !isNum y ns.length) id (fun i y hy R R0 h1 h0 => ?_) fun r hr => ?_
                · walk_at "pv"
                  refine ⟨kd_sub (((Sub.new hq).trans (Sub.new (put_none.mpr ⟨ne, hp⟩)))) _ (hks i y hy), ?_⟩
                  cases hn : isNum y ns.length with
                  | true => exact h0 (by rw [hn]; rfl) _ (Sub.refl _)
                  | false => exact h1 (by rw [hn]; rfl) _ (Sub.refl _)
                · rw [List.map_id]
                  refine ⟨Nat.zero_le _, fun u hu => ?_⟩
                  obtain ⟨ne2, hu2⟩ := put_none.mp hu
                  walk_at "pv"
                  simp only [put_same, put_ne (Ne.symm ne2), rdl_l]
                  have e3 : (!(List.filter (fun y => !isNum y ns.length) ts).isEmpty) = !okNode ns.length (.tup [x0, x1, x2]) := by
                    rw [hok]
                    congr 1
                    rw [Bool.eq_iff_iff, List.isEmpty_iff, List.filter_eq_nil_iff, List.all_eq_true]
                    exact ⟨fun h x hx => by have := h x hx; revert this; cases isNum x ns.length <;> simp, fun h x hx => by rw [h x hx]; simp⟩
                  have sb := (((Sub.new hq).trans (Sub.new (put_none.mpr ⟨ne, hp⟩))).trans (Sub.new hr)).trans (Sub.new (o := .lst []) hu)
                  rw [e3]
                  cases ho : okNode ns.length (.tup [x0, x1, x2]) with
                  | false => 
                    walk_at "pv"
                    exact ⟨M', sb, bad ho⟩
                  | true => exact ⟨M', sb, hI.next hw ho⟩
        | ref a =>
          unfold Kd at hkw
          rcases hkw with ⟨xs, e⟩ | ⟨xs, e⟩
          · walk_at "pv"
            simp only [e]
            exact ⟨M', Sub.refl M', bad rfl⟩
          · walk_at "pv"
            simp only [e]
            exact ⟨M', Sub.refl M', bad rfl⟩
        | _ =>
          walk_at "pv"
          exact ⟨M', Sub.refl M', bad rfl⟩
      · rintro ρ M' ⟨rfl, ⟨a, b, c, rfl⟩, hall⟩
        have e : flowW (.tup ns) = true := by
          show (decide (1 ≤ ns.length) && (decide (ns.length ≤ 24) && ns.all (okNode ns.length))) = true
          rw [decide_eq_true (by omega), decide_eq_true (by omega), Bool.true_and, Bool.true_and, List.all_eq_true]
          intro w hw
          obtain ⟨j, hj⟩ := List.getElem?_of_mem hw
          exact hall j w (List.getElem?_eq_some_iff.mp hj).1 hj
        rw [e] at q
        exact ⟨M', Sub.refl M', q⟩
    | ref a =>
      unfold Kd at hk
      rcases hk with ⟨xs, e⟩ | ⟨xs, e⟩
      · walk_at "pv"
        simp only [e]
        exact ⟨M, Sub.refl M, q⟩
      · walk_at "pv"
        simp only [e]
        exact ⟨M, Sub.refl M, q⟩
    | _ =>
      walk_at "pv"
      exact ⟨M, Sub.refl M, q⟩
  · exact h.elim
end PV
set_option maxHeartbeats 4000000
namespace PV
open PySem PySem.Spec PyProof.Rows L2
local macro_rules | `(tactic| walk_at "pv") => `(tactic| try simp only [↓s_seq, ↓s_next, ↓s_ret, ↓s_retN, ↓s_drop, ↓s_set, ↓s_ifS, ↓s_asg, ↓s_gname, ↓s_gnil, ↓s_gcons, ↓s_gtup, tg1_t, ↓s_gsub, ↓s_par, par2_e, ↓s_aug, ↓s_var, ov_some, ↓s_c, ↓s_op, ↓s_un, ↓s_B, ↓s_chain, ↓s_and, ↓s_or, ↓s_not, ↓s_andV, ↓s_orV, ↓s_notV, ↓s_if, ↓s_nil, ↓s_cons, ↓s_tup, ↓s_lst, ↓s_call, ↓s_fn, ↓s_isi, ↓s_mt, ↓s_mt0, ↓s_sl, ↓s_part, ↓s_nopart, ↓s_newK, ↓s_newN, ↓s_yes, wWipe, ↓s_for, ↓s_seqI, ↓s_rng1, ↓s_rng2, ↓s_lc,
  brn_t, brn_f, gt_some, onB_b, itS_tup, itS_cl, itS_ref, rgO_i, rgT_i, prt_i, mtS_r, mtZ_r,
  isQ_int_non, isQ_int_bl, isQ_int_int, isQ_int_str, isQ_int_tup, isQ_int_l, isQ_int_k, isQ_bool_non, isQ_bool_bl, isQ_bool_int, isQ_bool_str, isQ_bool_tup, isQ_bool_l, isQ_bool_k, isQ_str_non, isQ_str_bl, isQ_str_int, isQ_str_str, isQ_str_tup, isQ_str_l, isQ_str_k, isQ_tuple_non, isQ_tuple_bl, isQ_tuple_int, isQ_tuple_str, isQ_tuple_tup, isQ_tuple_l, isQ_tuple_k, isQ_list_non, isQ_list_bl, isQ_list_int, isQ_list_str, isQ_list_tup, isQ_list_l, isQ_list_k, isQ_dict_non, isQ_dict_bl, isQ_dict_int, isQ_dict_str, isQ_dict_tup, isQ_dict_l, isQ_dict_k,
  add_i, add_s, add_t, add_l, addO_l, sub_i, mul_i, mul_t, mul_l, mulO_l, lt_i, le_i, gt_i, ge_i, is_n, isnot_n, is_b, is_bf, isnot_b, isnot_bf, eq_i, eq_s, eq_b, eq_t, eq_l, eqO_l, eqO_ll, ne_i, ne_s, ne_b, ne_t, ne_l, neO_l, neO_ll, ix_t, ix_c, ix_r, ixO_l, ixO_k, ixO_lk, ixO_n, ixO_ln, in_t, in_r, nin_t, nin_r, inO_l, inO_k, inO_lk, inO_n, inO_ln, wkey_i, wkey_s, sl_t, sl_c, sl_r, slO_l, len_t, len_c, len_s, len_r, lenO_l, abs_i, max_i, min_i, int_i, int_b, tup_t, tup_r, tuO_l, lst_t, lst_c, lst_r, lsO_l, set_r, seO_l, seO_k, seO_n, app_r, apO_l, ext_r, exO_l, pop_z, pop_i, poZ_l, poO_l, neg_i,
  wst1, wst2, wst3, wst4, wst5, obOf, isN, rdl_l, put_same, put_put, Option.isSome_some, true_and, and_true, decide_true, decide_false, Option.bind_some, atI_0, atI_1, atI_2, atI_3, atI_4, atI_m1, atI_m2, atI_m3, atI_m4, atI_m5, cut_1, List.map_cons, List.map_nil, List.cons_append, List.nil_append, List.getElem?_cons_zero, List.getElem?_cons_succ, List.length_cons, List.length_nil, List.length_map, List.isEmpty_cons, List.isEmpty_nil, List.set_cons_zero, List.set_cons_succ, List.replicate, Nat.reduceAdd, Nat.reduceSub, Nat.reduceLeDiff, Int.reduceNeg, le_line, lt_line, Bool.not_true, Bool.not_false])
local macro_rules | `(tactic| walk_at "pvh") => `(tactic| try simp only [↓s_seq, ↓s_next, ↓s_ret, ↓s_retN, ↓s_drop, ↓s_set, ↓s_ifS, ↓s_asg, ↓s_gname, ↓s_gnil, ↓s_gcons, ↓s_gtup, tg1_t, ↓s_gsub, ↓s_par, par2_e, ↓s_aug, ↓s_var, ov_some, ↓s_c, ↓s_op, ↓s_un, ↓s_B, ↓s_chain, ↓s_and, ↓s_or, ↓s_not, ↓s_andV, ↓s_orV, ↓s_notV, ↓s_if, ↓s_nil, ↓s_cons, ↓s_tup, ↓s_lst, ↓s_call, ↓s_fn, ↓s_isi, ↓s_mt, ↓s_mt0, ↓s_sl, ↓s_part, ↓s_nopart, ↓s_newK, ↓s_newN, ↓s_yes, wWipe, ↓s_for, ↓s_seqI, ↓s_rng1, ↓s_rng2, ↓s_lc,
  brn_t, brn_f, gt_some, onB_b, itS_tup, itS_cl, itS_ref, rgO_i, rgT_i, prt_i, mtS_r, mtZ_r,
  isQ_int_non, isQ_int_bl, isQ_int_int, isQ_int_str, isQ_int_tup, isQ_int_l, isQ_int_k, isQ_bool_non, isQ_bool_bl, isQ_bool_int, isQ_bool_str, isQ_bool_tup, isQ_bool_l, isQ_bool_k, isQ_str_non, isQ_str_bl, isQ_str_int, isQ_str_str, isQ_str_tup, isQ_str_l, isQ_str_k, isQ_tuple_non, isQ_tuple_bl, isQ_tuple_int, isQ_tuple_str, isQ_tuple_tup, isQ_tuple_l, isQ_tuple_k, isQ_list_non, isQ_list_bl, isQ_list_int, isQ_list_str, isQ_list_tup, isQ_list_l, isQ_list_k, isQ_dict_non, isQ_dict_bl, isQ_dict_int, isQ_dict_str, isQ_dict_tup, isQ_dict_l, isQ_dict_k,
  add_i, add_s, add_t, add_l, addO_l, sub_i, mul_i, mul_t, mul_l, mulO_l, lt_i, le_i, gt_i, ge_i, is_n, isnot_n, is_b, is_bf, isnot_b, isnot_bf, eq_i, eq_s, eq_b, eq_t, eq_l, eqO_l, eqO_ll, ne_i, ne_s, ne_b, ne_t, ne_l, neO_l, neO_ll, ix_t, ix_c, ix_r, ixO_l, ixO_k, ixO_lk, ixO_n, ixO_ln, in_t, in_r, nin_t, nin_r, inO_l, inO_k, inO_lk, inO_n, inO_ln, wkey_i, wkey_s, sl_t, sl_c, sl_r, slO_l, len_t, len_c, len_s, len_r, lenO_l, abs_i, max_i, min_i, int_i, int_b, tup_t, tup_r, tuO_l, lst_t, lst_c, lst_r, lsO_l, set_r, seO_l, seO_k, seO_n, app_r, apO_l, ext_r, exO_l, pop_z, pop_i, poZ_l, poO_l, neg_i,
  wst1, wst2, wst3, wst4, wst5, obOf, isN, rdl_l, put_same, put_put, Option.isSome_some, true_and, and_true, decide_true, decide_false, Option.bind_some, atI_0, atI_1, atI_2, atI_3, atI_4, atI_m1, atI_m2, atI_m3, atI_m4, atI_m5, cut_1, List.map_cons, List.map_nil, List.cons_append, List.nil_append, List.getElem?_cons_zero, List.getElem?_cons_succ, List.length_cons, List.length_nil, List.length_map, List.isEmpty_cons, List.isEmpty_nil, List.set_cons_zero, List.set_cons_succ, List.replicate, Nat.reduceAdd, Nat.reduceSub, Nat.reduceLeDiff, Int.reduceNeg, le_line, lt_line, Bool.not_true, Bool.not_false, put_ne1, put_ne2, *])
mutual
theorem kd_dr {a : Addr} {M M' : Me} (s : DrS a M M') : ∀ w, Kd M w → Kd M' w
  | .ref b, h => by
    unfold Kd at h ⊢
    by_cases e : b = a
    · obtain ⟨ds, h2⟩ := s.2
      rw [e]
      exact .inl ⟨_, h2⟩
    rcases h with ⟨xs, h⟩ | ⟨xs, h⟩
    · exact .inl ⟨xs, s.1 _ _ e h⟩
    · exact .inr ⟨xs, s.1 _ _ e h⟩
  | .tup ws, h => by unfold Kd at h ⊢; exact kds_dr s ws h
  | .non, _ => by unfold Kd; trivial
  | .bl _, _ => by unfold Kd; trivial
  | .int _, _ => by unfold Kd; trivial
  | .str _, _ => by unfold Kd; trivial
  | .cl _, _ => by unfold Kd; trivial
theorem kds_dr {a : Addr} {M M' : Me} (s : DrS a M M') : ∀ ws, Kds M ws → Kds M' ws
  | [], _ => by unfold Kds; trivial
  | w :: ws, h => by unfold Kds at h ⊢; exact ⟨kd_dr s w h.1, kds_dr s ws h.2⟩
end
theorem kds_iff {M : Me} : ∀ {ws : List W}, Kds M ws ↔ ∀ w ∈ ws, Kd M w
  | [] => ⟨fun _ w h => (nomatch h), fun _ => by unfold Kds; trivial⟩
  | w :: ws => by
    unfold Kds
    rw [kds_iff (ws := ws)]
    exact ⟨fun h x hx => by rcases List.mem_cons.mp hx with rfl | hx; exact h.1; exact h.2 x hx, fun h => ⟨h w (.head _), fun x hx => h x (.tail _ hx)⟩⟩
theorem kds_app {M : Me} {xs ys : List W} (h1 : Kds M xs) (h2 : Kds M ys) : Kds M (xs ++ ys) := kds_iff.mpr fun w hw => by
  rcases List.mem_append.mp hw with h | h
  · exact kds_iff.mp h1 w h
  · exact kds_iff.mp h2 w h
theorem kds_cut {M : Me} {xs : List W} {lo hi : Option Int} (h : Kds M xs) : Kds M (cutW xs lo hi) := kds_iff.mpr fun w hw => kds_iff.mp h w (List.mem_of_mem_drop (List.mem_of_mem_take hw))
theorem kd_oW {M : Me} (x : Option Int) : Kd M (oW x) := by cases x <;> (unfold oW Kd; trivial)
theorem kd_nd {M : Me} (x : Nd) : Kd M (ndW x) := by
  unfold ndW Kd
  simp only [Kds]
  exact ⟨by unfold Kd; trivial, kd_oW _, kd_oW _, trivial⟩
theorem kds_nds {M : Me} (xs : List Nd) : Kds M (xs.map ndW) := kds_iff.mpr fun w hw => by
  obtain ⟨x, _, rfl⟩ := List.mem_map.mp hw
  exact kd_nd x
theorem kd_sing {M : Me} {w : W} (h : Kd M w) : Kds M [w] := kds_iff.mpr fun x hx => by rw [List.mem_singleton.mp hx]; exact h
def sp_told : PSp := fun ws M Q _ => match ws with
  | [x] => Kd M x ∧ Q (.bl true) M
  | _ => False
theorem rd_told (ws M Q E) (h : sp_told ws M Q E) : t_l_told sp_is_flow sp_is_flow (wEnd Q) (wStart ["thing", "found"] ws) M := by
  unfold sp_told at h
  split at h
  · rename_i x
    obtain ⟨hk, q⟩ := h
    rw [wst1]
    unfold t_l_told
    walk_at "pv"
    refine ⟨hk, ?_⟩
    walk_at "pv"
    refine ⟨hk, ?_⟩
    walk_at "pv"
    exact ⟨M, Sub.refl M, by simpa using q⟩
  · exact h.elim
def t_other_fin : WS := wRet (wOp rAdd2 (wOp rAdd2 (wSl (wVar 1) wNoPart (wPart (wVar 3))) (wTup (wCons (wVar 8) wNil))) (wSl (wVar 1) (wPart (wOp rAdd2 (wVar 3) (wC (.int 1)))) wNoPart))
def sp_other : PSp := fun ws M Q _ => match ws with
  | [.ref a, .tup xs] => (∃ ds : List Int, M a = some (.lst (ds.map W.int))) ∧ (∃ ns : List Nd, xs = ns.map ndW) ∧ 1 ≤ xs.length ∧ xs.length ≤ 24 ∧ ∀ M' x, DrS a M M' → Kd M' x → Q x M'
  | _ => False
theorem rd_other (ws M Q E) (h : sp_other ws M Q E) : t_l_other sp_take (wEnd Q) (wStart ["draws", "flow", "many", "at", "side", "far", "node", "some", "new"] ws) M := by
  unfold sp_other at h
  split at h
  · rename_i a xs
    obtain ⟨⟨ds, e⟩, ⟨ns, rfl⟩, hl1, hl2, q⟩ := h
    rw [List.length_map] at hl1 hl2
    rw [wst2]
    unfold t_l_other
    walk_at "pv"
    have k := Kp.start e
    walk_at "pv"
    refine k.take_go (by omega) fun at_ M1 a0 a1 k => ?_
    walk_at "pv"
    refine k.take_go (by decide) fun side M1 s0 s1 k => ?_
    walk_at "pv"
    refine k.take_go (by decide) fun far M1 f0 f1 k => ?_
    walk_at "pv"
    obtain ⟨nd, ea⟩ : ∃ nd : Nd, atI (ns.map ndW) at_ = some (ndW nd) := by
      have hl : at_.toNat < ns.length := by omega
      exact ⟨ns[at_.toNat], atI_of a0 (by rw [List.getElem?_map, List.getElem?_eq_getElem hl]; rfl)⟩
    walk_at "pv"
    refine gt_of ea ?_
    have kn : ∀ M, Kds M [.int nd.1, oW nd.2.1, oW nd.2.2] := fun M => by have := kd_nd (M := M) nd; unfold ndW Kd at this; exact this
    rw [show ndW nd = .tup [.int nd.1, oW nd.2.1, oW nd.2.2] from rfl]
    have ln : [W.int nd.1, oW nd.2.1, oW nd.2.2].length = 3 := rfl
    generalize [W.int nd.1, oW nd.2.1, oW nd.2.2] = nx at kn ln
    walk_at "pv"
    refine pow_any ⟨by decide, by decide, by decide⟩ fun big => ?_
    walk_at "pv"
    refine k.fresh_go fun l0 M2 k _ => ?_
    walk_at "pv"
    refine k.fresh_go fun l1 M2 k _ => ?_
    walk_at "pv"
    refine k.fresh_go fun l2 M2 k _ => ?_
    walk_at "pv"
    refine k.take_go (by decide) fun r M2 r0 r1 k => ?_
    walk_at "pv"
    rw [k.g0]
    walk_at "pv"
    have kv : ∀ w ∈ [W.bl true, .bl false, .int (-1), .int ns.length, .int (ns.length + far), .int 999, .int 1000, .int big, .int (-1 - far), .str "0", .non, .ref l0, .tup [.int 0], .int 0, .int (ns.length - 1), .ref l1], Kd M2 w := by
      rw [← kds_iff]
      simp only [Kds, Kd, and_true, true_and]
      exact ⟨.inl ⟨_, k.g2⟩, .inr ⟨_, k.g1⟩⟩
    obtain ⟨v, hv, ea⟩ := at_mem r0 (by simpa using r1) (xs := [W.bl true, .bl false, .int (-1), .int ns.length, .int (ns.length + far), .int 999, .int 1000, .int big, .int (-1 - far), .str "0", .non, .ref l0, .tup [.int 0], .int 0, .int (ns.length - 1), .ref l1])
    have kv := kv v hv
    refine gt_of ea ?_
    have k := k.tail.tail.tail
    clear hv ea
    walk_at "pv"
    have c1 := cut_len (xs := nx) (lo := none) (hi := some side)
    have c2 := cut_len (xs := nx) (lo := some (side + 1)) (hi := none)
    refine ⟨line_le (by omega), line_le (by simp only [List.length_append, List.length_cons, List.length_nil]; omega), ?_⟩
    have k8 : Kd M2 (.tup (cutW nx none (some side) ++ [v] ++ cutW nx (some (side + 1)) none)) := by
      unfold Kd
      exact kds_app (kds_app (kds_cut (kn _)) (kd_sing kv)) (kds_cut (kn _))
    generalize W.tup (cutW nx none (some side) ++ [v] ++ cutW nx (some (side + 1)) none) = nw at k8
    walk_at "pv"
    have fin : ∀ nw M3 (sm : Option W), Kp (some a) [] M M3 → Kd M3 nw → t_other_fin (wEnd Q) [some (.ref a), some (.tup (ns.map ndW)), some (.int (ns.map ndW).length), some (.int at_), some (.int side), some (.int far), some (.tup nx), sm, some nw] M3 := by
      clear k8 k
      intro nw M3 sm k k8
      unfold t_other_fin
      walk_at "pv"
      have c1 := cut_len (xs := ns.map ndW) (lo := none) (hi := some at_)
      have c2 := cut_len (xs := ns.map ndW) (lo := some (at_ + 1)) (hi := none)
      rw [List.length_map] at c1 c2
      refine ⟨line_le (by omega), line_le (by simp only [List.length_append, List.length_cons, List.length_nil]; omega), _, Sub.refl _, q _ _ k.1 ?_⟩
      unfold Kd
      exact kds_app (kds_app (kds_cut (kds_nds _)) (kd_sing k8)) (kds_cut (kds_nds _))
    walk_at "pv"
    refine k.take_go2 (by decide) fun r3 M3 _ _ d3 k => ?_
    walk_at "pv"
    refine brn_i (fun _ => ?_) (fun _ => ?_)
    · walk_at "pv"
      refine k.fresh_go fun l0 M2 k _ => ?_
      walk_at "pv"
      refine ⟨line_le (by omega), ?_⟩
      refine k.fresh_go fun l1 M2 k _ => ?_
      walk_at "pv"
      refine k.fresh_go fun l2 M2 k _ => ?_
      walk_at "pv"
      refine k.take_go (by decide) fun r M4 r0 r1 k => ?_
      walk_at "pv"
      rw [k.g0]
      walk_at "pv"
      have kv : ∀ w ∈ [W.ref l0, .tup (cutW nx none (some 2)), .tup (nx ++ [.int 0]), .non, .int 7, .str "node", .tup [], .ref l1], Kd M4 w := by
        rw [← kds_iff]
        simp only [Kds, Kd, and_true, true_and]
        exact ⟨.inl ⟨_, k.g2⟩, kds_cut (kn _), kds_app (kn _) (kd_sing (by unfold Kd; trivial)), .inr ⟨_, k.g1⟩⟩
      obtain ⟨v, hv, ea⟩ := at_mem r0 (by simpa using r1) (xs := [W.ref l0, .tup (cutW nx none (some 2)), .tup (nx ++ [.int 0]), .non, .int 7, .str "node", .tup [], .ref l1])
      refine gt_of ea ?_
      exact fin v _ _ k.tail.tail.tail (kv v hv)
    · exact fin nw _ _ k (kd_dr d3 _ k8)
  · exact h.elim
theorem isNum_i {i : Int} {n : Nat} (h0 : 0 ≤ i) (h1 : i < n) : isNum (.int i) n = true := by
  show (decide (0 ≤ i) && decide (i < (n : Int))) = true
  rw [decide_eq_true h0, decide_eq_true h1]; rfl
theorem nd_ok {n : Nat} {x : Nd} (h : ndOk n x) : okNode n (ndW x) = true := by
  obtain ⟨p, a, b⟩ := x
  obtain ⟨⟨h0, h1⟩, h2, h3, h4⟩ := h
  show (isNum (.int p) 1000 && (!(taken (oW a) (oW b)).isEmpty && (taken (oW a) (oW b)).all fun x => isNum x n)) = true
  rw [show isNum (.int p) 1000 = true from isNum_i (n := 1000) h0 h1, Bool.true_and]
  cases a with
  | none =>
    cases b with
    | none => rcases h4 with h | h <;> cases h
    | some b =>
      show (isNum (.int b) n && true) = true
      rw [isNum_i h3.1 h3.2]; rfl
  | some a =>
    cases b with
    | none =>
      show (isNum (.int a) n && true) = true
      rw [isNum_i h2.1 h2.2]; rfl
    | some b =>
      show (isNum (.int a) n && (isNum (.int b) n && true)) = true
      rw [isNum_i h2.1 h2.2, isNum_i h3.1 h3.2]; rfl
theorem is_flow_ok {ns : List Nd} (h1 : 1 ≤ ns.length) (h2 : ns.length ≤ 24) (h : ∀ x ∈ ns, ndOk ns.length x) : flowW (.tup (ns.map ndW)) = true := by
  show (decide (1 ≤ (ns.map ndW).length) && (decide ((ns.map ndW).length ≤ 24) && (ns.map ndW).all (okNode (ns.map ndW).length))) = true
  rw [List.length_map, decide_eq_true h1, decide_eq_true h2, Bool.true_and, Bool.true_and, List.all_eq_true]
  intro w hw
  obtain ⟨x, hx, rfl⟩ := List.mem_map.mp hw
  exact nd_ok (h x hx)
def t_law_body : WS := (wSeq (wSet 6 (wFn sp_flow (wCons (wVar 1) wNil))) (wSeq (wIfS (wOr (wB (wOp rIsNot2 (wFn sp_is_flow (wCons (wVar 6) wNil)) (wC (.bl true)))) (wB (wOp rIsNot2 (wFn sp_is_flow (wCons (wCall rLst (wCons (wVar 6) wNil)) wNil)) (wC (.bl false))))) (wRet (wC (.bl false))) wNext) (wSeq (wFor (wiRng1 (wCons (wC (.int 2)) wNil)) (wgName 7) (wIfS (wNot (wB (wFn sp_told (wCons (wFn sp_other (wCons (wVar 1) (wCons (wVar 6) wNil))) wNil)))) (wRet (wC (.bl false))) wNext)) (wSet 5 (wOp rAdd2 (wVar 5) (wC (.int 1)))))))
def Iwl (a : Addr) (M0 : Me) (s n t f v w : Option W) (m : Nat) (ρ : En) (M : Me) : Prop := ∃ (j : Nat) (x y z : Option W), j + m = 8 ∧ Kp (some a) [] M0 M ∧ ρ = [s, some (.ref a), n, t, x, some (.int j), y, z]
theorem rd_law (ws M Q E) (h : spLaw ws M Q E) : t_lawm sp_draws sp_told sp_flow sp_is_flow sp_other (wEnd Q) (wStart ["script", "draws", "node", "things", "thing", "many", "flow", "k"] ws) M := by
  obtain ⟨ns, rfl, hl, hb, q⟩ := h
  rw [wst1]
  unfold t_lawm
  walk_at "pv"
  refine ⟨⟨ns, rfl⟩, fun a ds ha hds => ?_⟩
  have k := Kp.start (b := a) (M := put M a (.lst (ds.map W.int))) put_same
  generalize put M a (.lst (ds.map W.int)) = M1 at k
  walk_at "pv"
  refine k.fresh_go fun l1 M2 k _ => ?_
  walk_at "pv"
  refine k.fresh_go fun l2 M2 k _ => ?_
  walk_at "pv"
  refine k.fresh_go fun l3 M2 k _ => ?_
  walk_at "pv"
  refine ⟨⟨by decide, by decide, List.cons_ne_nil _ _⟩, ?_⟩
  refine ⟨⟨by decide, by decide, List.cons_ne_nil _ _⟩, ?_⟩
  walk_at "pv"
  refine k.fresh_go fun l4 M2 k _ => ?_
  walk_at "pv"
  refine k.fresh_go fun l5 M2 k _ => ?_
  walk_at "pv"
  refine k.fresh_go fun l6 M2 k _ => ?_
  walk_at "pv"
  rw [k.g0, k.g1]
  walk_at "pv"
  refine k.tail.tail.fresh_go fun l7 M2 k _ => ?_
  walk_at "pv"
  refine k.fresh_go fun l8 M2 k _ => ?_
  walk_at "pv"
  rw [k.g0, k.g1]
  walk_at "pv"
  refine k.tail.tail.fresh_go fun l9 M3 k _ => ?_
  walk_at "pv"
  refine ⟨by rw [k.g0]; rfl, ?_⟩
  obtain ⟨ths, hths, eth⟩ : ∃ ths, (∀ w ∈ ths, Kd M3 w) ∧ M3 l9 = some (.lst ths) := by
    refine ⟨_, ?_, k.g0⟩
    rw [← kds_iff]
    have kr : ∀ n, Kds M3 (List.replicate n [W.tup [W.int 0, W.int 0, W.int 0]]).flatten := fun n => kds_iff.mpr fun w hw => by
      obtain ⟨l, h1, h2⟩ := List.mem_flatten.mp hw
      rw [(List.mem_replicate.mp h1).2, List.mem_singleton] at h2
      rw [h2]
      simp only [Kds, Kd, and_true]
    simp only [Kds, Kd, and_true, true_and]
    exact ⟨.inl ⟨_, k.g4⟩, .inr ⟨_, k.g3⟩, .inl ⟨_, k.g2⟩, kr _, kr _, .inl ⟨_, k.g1⟩⟩
  have k := k.none
  refine for_l (a := l9) (ws := ths) (fun i ρ M' => M' = M3 ∧ ∃ x, ρ = [some (.cl (List.map W.int ns)), some (.ref a), some (.tup [.int 0, .int 0, .int 0]), some (.ref l9), x, none, none, none]) ⟨rfl, _, rfl⟩ (fun i ρ M' h => by rw [h.1]; exact eth) ?_ ?_
  · rintro i w ρ M' hw ⟨rfl, x, rfl⟩
    walk_at "pv"
    refine ⟨hths w (List.mem_of_getElem? hw), ?_⟩
    walk_at "pv"
    exact ⟨_, Sub.refl _, rfl, _, rfl⟩
  · rintro ρ M' ⟨rfl, x, rfl⟩
    walk_at "pv"
    refine while_w (Iwl a M1 (some (.cl (List.map W.int ns))) (some (.tup [.int 0, .int 0, .int 0])) (some (.ref l9)) none none none) 8 ⟨0, _, _, _, rfl, k, rfl⟩ ?_
    clear k eth hths
    rintro m ρ M3 ⟨j, x, y, z, hj, k, rfl⟩
    have done : wRet (wC (.bl true)) (wEnd Q) [some (.cl (List.map W.int ns)), some (.ref a), some (.tup [.int 0, .int 0, .int 0]), some (.ref l9), x, some (.int j), y, z] M3 := ⟨_, Sub.refl _, q _⟩
    have body : ∀ M3, Kp (some a) [] M1 M3 → j < 8 → t_law_body (nxt { nx := wRet (wC (.bl true)) (wEnd Q), rt := (wEnd Q).rt, bk := (wEnd Q).bk, ct := (wEnd Q).ct } fun ρ' M' => ∃ m', m' < m ∧ Iwl a M1 (some (.cl (List.map W.int ns))) (some (.tup [.int 0, .int 0, .int 0])) (some (.ref l9)) none none none m' ρ' M')
        [some (.cl (List.map W.int ns)), some (.ref a), some (.tup [.int 0, .int 0, .int 0]), some (.ref l9), x, some (.int j), y, z] M3 := by
      clear k done
      intro M3 k hj8
      unfold t_law_body
      walk_at "pv"
      refine ⟨k.1.2, fun M4 nds d h1 h2 h3 => ?_⟩
      have k := k.take d
      have e := is_flow_ok h1 h2 h3
      have kf : ∀ M, Kd M (.tup (nds.map ndW)) := fun M => by unfold Kd; exact kds_nds nds
      walk_at "pv"
      refine ⟨kf _, ?_⟩
      rw [e]
      walk_at "pv"
      refine k.fresh_go fun l M5 k _ => ?_
      walk_at "pv"
      refine ⟨by unfold Kd; exact .inl ⟨_, k.g0⟩, ?_⟩
      walk_at "pv"
      refine ⟨rgB_of (by decide) (by decide), for_r (fun i ρ M' => Kp (some a) [] M1 M' ∧ ∃ z, ρ = [some (.cl (List.map W.int ns)), some (.ref a), some (.tup [.int 0, .int 0, .int 0]), some (.ref l9), x, some (.int j), some (.tup (nds.map ndW)), z]) ⟨k.none, _, rfl⟩ ?_ ?_⟩
      · rintro i ρ M6 hi ⟨k, z, rfl⟩
        walk_at "pv"
        refine ⟨k.1.2, ⟨nds, rfl⟩, by rw [List.length_map]; exact h1, by rw [List.length_map]; exact h2, fun M7 v d kv => ?_⟩
        walk_at "pv"
        refine ⟨kv, ?_⟩
        walk_at "pv"
        exact ⟨_, Sub.refl _, k.take d, _, rfl⟩
      · rintro ρ M6 ⟨k, z, rfl⟩
        walk_at "pv"
        exact ⟨_, Sub.refl _, m - 1, by omega, j + 1, _, _, _, by omega, k, rfl⟩
    walk_at "pv"
    by_cases c1 : (j : Int) < 1
    · simp only [c1, decide_true]
      walk_at "pv"
      exact body _ k (by omega)
    simp only [c1, decide_false]
    walk_at "pv"
    refine k.fresh_go fun l M4 k _ => ?_
    walk_at "pv"
    obtain ⟨ds', ed⟩ := k.1.2
    rw [ed, k.g0]
    walk_at "pv"
    refine brn_i (fun _ => ?_) (fun _ => ?_)
    · walk_at "pv"
      by_cases c2 : (j : Int) < 8
      · simp only [c2, decide_true]
        walk_at "pv"
        exact body _ k.none (by omega)
      · simp only [c2, decide_false]
        walk_at "pv"
        exact ⟨_, Sub.refl _, q _⟩
    · walk_at "pv"
      exact ⟨_, Sub.refl _, q _⟩
end PV
set_option maxHeartbeats 4000000
namespace PV
open PySem PySem.Spec PyProof.Rows L2
def topS (i : Nat) : Stmt := PySem.Challenge.pw_wayguess_k50_what_is_a_flow.main.body.getD i (.Pass ⟨0, 0, 0, 0⟩)
/-- what the module leaves, and leaves alone -/
structure Fx (mg : Str → Option Value) : Prop where
  b_abs : mg "abs" = none
  b_all : mg "all" = none
  b_bool : mg "bool" = none
  b_int : mg "int" = none
  b_isinstance : mg "isinstance" = none
  b_len : mg "len" = none
  b_list : mg "list" = none
  b_min : mg "min" = none
  b_range : mg "range" = none
  b_sorted : mg "sorted" = none
  b_tuple : mg "tuple" = none
  k_MOST_NODES : ∃ t, mg "MOST_NODES" = some (.int 24 t)
  k_PLACES : ∃ t, mg "PLACES" = some (.int 1000 t)
abbrev s_p_is_below : Stmt := topS 1
abbrev n_p_is_below : List Str := ["thing", "many"]
theorem sc_p_is_below : FnScope n_p_is_below ["thing", "many"] (defScope s_p_is_below) := ⟨rfl, rfl, rfl, by decide +kernel, rfl, by decide +kernel, by decide +kernel⟩
theorem tr_p_is_below {P : Program} {w : World} {K : PySem.W.Frag} {mg : Str → Option Value} {base : Heap} {k : Nat} (F : Fx mg) {f : Addr} {cdv : Value} {A : Around} {outer : List Env} {s : Shared} {H : Hp} {E : XK} {M : Me}
    (hr : Room k (A.deeper (envOfC "is_below" (defScope s_p_is_below) s.heap.objs.size f cdv))) : QSs (fnCy P w K mg base n_p_is_below "is_below" s_p_is_below f cdv A outer s H E M) (defBody s_p_is_below) (t_p_is_below) := by
  have ndN := sc_p_is_below.nd
  exact (qss_one (qs_ret (q_and (q_isi .int (q_var 0) rfl F.b_isinstance rfl F.b_int) (q_and (q_not (q_isi .bool (q_var 0) rfl F.b_isinstance rfl F.b_bool)) (q_one (q_chain w_le w_lt q_int (q_var 0) (q_var 1)))))))

abbrev s_p_is_flow : Stmt := topS 5
abbrev n_p_is_flow : List Str := ["thing", "node", "taken", "to"]
theorem sc_p_is_flow : FnScope n_p_is_flow ["thing"] (defScope s_p_is_flow) := ⟨rfl, rfl, rfl, by decide +kernel, rfl, by decide +kernel, by decide +kernel⟩
theorem tr_p_is_flow {P : Program} {w : World} {K : PySem.W.Frag} {mg : Str → Option Value} {base : Heap} {k : Nat} (F : Fx mg) {c_p_is_below : PSp} (d_p_is_below : Dk ⟨P, w, K⟩ mg base k "is_below" ["thing", "many"] c_p_is_below) {f : Addr} {cdv : Value} {A : Around} {outer : List Env} {s : Shared} {H : Hp} {E : XK} {M : Me}
    (hr : Room k (A.deeper (envOfC "is_flow" (defScope s_p_is_flow) s.heap.objs.size f cdv))) : QSs (fnCy P w K mg base n_p_is_flow "is_flow" s_p_is_flow f cdv A outer s H E M) (defBody s_p_is_flow) (t_p_is_flow c_p_is_below) := by
  have ndN := sc_p_is_flow.nd
  exact (qss_cons (qs_if (QW.pt (qw_or (qt_not (qt_val (q_isi .tuple (q_var 0) rfl F.b_isinstance rfl F.b_tuple))) (qw_or1 (qt_not (qt_chain w_le w_le q_int (q_callB (id := "len") w_len rfl F.b_len (by decide +kernel) (qa_cons (q_var 0) qa_nil)) (q_globI F.k_MOST_NODES)))))) (qss_one (qs_ret q_bl)) qss_nil) (qss_cons (qs_for PassesOwn.never rfl (qi_seq (q_var 0)) (qg_name ndN (i := 1)) (qss_cons (qs_if (QW.pt (qw_or (qt_not (qt_val (q_isi .tuple (q_var 1) rfl F.b_isinstance rfl F.b_tuple))) (qw_or (qt_cmp (w_ne hr.units) (q_callB (id := "len") w_len rfl F.b_len (by decide +kernel) (qa_cons (q_var 1) qa_nil)) q_int) (qw_or1 (qt_not (qt_val (q_fn d_p_is_below hr rfl (qa_cons (q_ix hr.units (q_var 1) q_int) (qa_cons (q_globI F.k_PLACES) qa_nil))))))))) (qss_one (qs_ret q_bl)) qss_nil) (qss_cons (qs_setLc (i := 2) [("to", 3)] rfl ndN (qi_seq (q_sl (q_var 1) (qo_some q_int) qo_none)) (blkOk_by (N := n_p_is_flow) (sc := defScope s_p_is_flow) (by decide +kernel)) (fun _ _ _ _ _ => (qv_name ndN (i := 3))) (fun _ _ _ _ _ => (qts_one (qt_cmp w_isnot (q_var 3) q_non))) (fun _ _ _ _ _ => (q_var 3))) (qss_one (qs_if (QW.pt (qw_or (qt_cmp (w_eq hr.units) (q_var 2) (q_lst qa_nil)) (qw_or1 (qt_not (qt_val (q_callB (id := "all") (w_all rfl) rfl F.b_all (by decide +kernel) (qa_cons (q_lc [("to", 3)] rfl ndN (qi_seq (q_var 2)) (blkOk_by (N := n_p_is_flow) (sc := defScope s_p_is_flow) (by decide +kernel)) (fun _ _ _ _ _ => (qv_name ndN (i := 3))) (fun _ _ _ _ _ => qts_nil) (fun _ _ _ _ _ => (q_fn d_p_is_below hr rfl (qa_cons (q_var 3) (qa_cons (q_callB (id := "len") w_len rfl F.b_len (by decide +kernel) (qa_cons (q_var 0) qa_nil)) qa_nil))))) qa_nil))))))) (qss_one (qs_ret q_bl)) qss_nil))))) (qss_one (qs_ret q_bl))))

abbrev s_l_draws : Stmt := topS 7
abbrev n_l_draws : List Str := ["script", "draws", "k", "rest", "stir", "many"]
theorem sc_l_draws : FnScope n_l_draws ["script"] (defScope s_l_draws) := ⟨rfl, rfl, rfl, by decide +kernel, rfl, by decide +kernel, by decide +kernel⟩
theorem tr_l_draws {P : Program} {w : World} {K : PySem.W.Frag} {mg : Str → Option Value} {base : Heap} {k : Nat} (F : Fx mg) {f : Addr} {cdv : Value} {A : Around} {outer : List Env} {s : Shared} {H : Hp} {E : XK} {M : Me}
    (hr : Room k (A.deeper (envOfC "_law_draws" (defScope s_l_draws) s.heap.objs.size f cdv))) : QSs (fnCy P w K mg base n_l_draws "_law_draws" s_l_draws f cdv A outer s H E M) (defBody s_l_draws) (t_l_draws) := by
  have ndN := sc_l_draws.nd
  exact (qss_cons (qs_set (i := 1) ndN (q_lst qa_nil)) (qss_cons (qs_for PassesOwn.never rfl (qi_rng1 rfl F.b_range (qa_cons (q_callB (id := "min") (w_min2 rfl) rfl F.b_min (by decide +kernel) (qa_cons (q_callB (id := "len") w_len rfl F.b_len (by decide +kernel) (qa_cons (q_var 0) qa_nil)) (qa_cons q_int qa_nil))) qa_nil)) (qg_name ndN (i := 2)) (qss_cons (qs_set (i := 3) ndN (q_callB (id := "abs") w_abs rfl F.b_abs (by decide +kernel) (qa_cons (q_ix hr.units (q_var 0) (q_var 2)) qa_nil))) (qss_one (qs_if (qt_cmp w_lt (q_var 3) (q_op w_pow q_int q_int)) (qss_cons (qs_set (i := 4) ndN (q_op w_mod (q_op w_mul (q_op w_mod (q_op w_add (q_op w_add (q_var 3) (q_op w_mul q_int (q_var 2))) q_int) q_int) q_int) q_int)) (qss_cons (qs_set (i := 4) ndN (q_op w_mod (q_op w_mul (q_var 4) (q_var 4)) q_int)) (qss_cons (qs_expr (q_mt (by first | exact PySem.F.slot_list_append | exact PyProof.Rows.slot_list_append) (by first | exact PySem.F.type_list_append | exact PyProof.Rows.type_list_append) w_app (q_var 1) (qa_cons (q_op w_mod (q_op w_fdiv (q_var 4) q_int) q_int) qa_nil))) (qss_cons (qs_expr (q_mt (by first | exact PySem.F.slot_list_append | exact PyProof.Rows.slot_list_append) (by first | exact PySem.F.type_list_append | exact PyProof.Rows.type_list_append) w_app (q_var 1) (qa_cons (q_op w_mod (q_op w_fdiv (q_var 4) q_int) q_int) qa_nil))) (qss_cons (qs_set (i := 4) ndN (q_op w_mod (q_op w_add (q_var 4) (q_op w_mul q_int (q_op w_add (q_var 2) q_int))) q_int)) (qss_one (qs_expr (q_mt (by first | exact PySem.F.slot_list_append | exact PyProof.Rows.slot_list_append) (by first | exact PySem.F.type_list_append | exact PyProof.Rows.type_list_append) w_app (q_var 1) (qa_cons (q_op w_mod (q_op w_fdiv (q_op w_mod (q_op w_mul (q_var 4) (q_var 4)) q_int) q_int) q_int) qa_nil))))))))) (qss_cons (qs_set (i := 5) ndN q_int) (qss_one (qs_while PassesOwn.never (QW.pt (qw_and (qt_cmp w_ge (q_var 3) q_int) (qw_and1 (qt_cmp w_lt (q_var 5) q_int)))) (qss_cons (qs_expr (q_mt (by first | exact PySem.F.slot_list_append | exact PyProof.Rows.slot_list_append) (by first | exact PySem.F.type_list_append | exact PyProof.Rows.type_list_append) w_app (q_var 1) (qa_cons (q_op w_mod (q_var 3) q_int) qa_nil))) (qss_cons (qs_set (i := 3) ndN (q_op w_fdiv (q_var 3) q_int)) (qss_one (qs_set (i := 5) ndN (q_op w_add (q_var 5) q_int)))))))))))) (qss_one (qs_ret (q_sl (q_var 1) qo_none (qo_some q_int))))))

abbrev s_l_take : Stmt := topS 8
abbrev n_l_take : List Str := ["draws", "many"]
theorem sc_l_take : FnScope n_l_take ["draws", "many"] (defScope s_l_take) := ⟨rfl, rfl, rfl, by decide +kernel, rfl, by decide +kernel, by decide +kernel⟩
theorem tr_l_take {P : Program} {w : World} {K : PySem.W.Frag} {mg : Str → Option Value} {base : Heap} {k : Nat} (F : Fx mg) {f : Addr} {cdv : Value} {A : Around} {outer : List Env} {s : Shared} {H : Hp} {E : XK} {M : Me}
    (hr : Room k (A.deeper (envOfC "_law_take" (defScope s_l_take) s.heap.objs.size f cdv))) : QSs (fnCy P w K mg base n_l_take "_law_take" s_l_take f cdv A outer s H E M) (defBody s_l_take) (t_l_take) := by
  have ndN := sc_l_take.nd
  exact (qss_cons (qs_if (qt_cmp (w_eq hr.units) (q_var 0) (q_lst qa_nil)) (qss_one (qs_ret q_int)) qss_nil) (qss_one (qs_ret (q_op w_mod (q_mt (by first | exact PySem.F.slot_list_pop | exact PyProof.Rows.slot_list_pop) (by first | exact PySem.F.type_list_pop | exact PyProof.Rows.type_list_pop) w_pop (q_var 0) (qa_cons q_int qa_nil)) (q_var 1)))))

abbrev s_l_places : Stmt := topS 9
abbrev n_l_places : List Str := ["draws", "some", "k"]
theorem sc_l_places : FnScope n_l_places ["draws"] (defScope s_l_places) := ⟨rfl, rfl, rfl, by decide +kernel, rfl, by decide +kernel, by decide +kernel⟩
theorem tr_l_places {P : Program} {w : World} {K : PySem.W.Frag} {mg : Str → Option Value} {base : Heap} {k : Nat} (F : Fx mg) {c_l_take : PSp} (d_l_take : Dk ⟨P, w, K⟩ mg base k "_law_take" ["draws", "many"] c_l_take) {f : Addr} {cdv : Value} {A : Around} {outer : List Env} {s : Shared} {H : Hp} {E : XK} {M : Me}
    (hr : Room k (A.deeper (envOfC "_law_places" (defScope s_l_places) s.heap.objs.size f cdv))) : QSs (fnCy P w K mg base n_l_places "_law_places" s_l_places f cdv A outer s H E M) (defBody s_l_places) (t_l_places c_l_take) := by
  have ndN := sc_l_places.nd
  exact (qss_cons (qs_set (i := 1) ndN q_newK) (qss_cons (qs_for PassesOwn.never rfl (qi_rng1 rfl F.b_range (qa_cons (q_op w_add q_int (q_fn d_l_take hr rfl (qa_cons (q_var 0) (qa_cons (q_ix hr.units (q_lst (qa_cons q_int (qa_cons q_int qa_nil))) (q_fn d_l_take hr rfl (qa_cons (q_var 0) (qa_cons q_int qa_nil)))) qa_nil)))) qa_nil)) (qg_name ndN (i := 2)) (qss_one (qs_asg q_bl (qg_sub (q_var 1) (q_ix hr.units (q_lst (qa_cons (q_var 2) (qa_cons (q_fn d_l_take hr rfl (qa_cons (q_var 0) (qa_cons q_int qa_nil))) (qa_cons (q_fn d_l_take hr rfl (qa_cons (q_var 0) (qa_cons q_int qa_nil))) (qa_cons q_int qa_nil))))) (q_fn d_l_take hr rfl (qa_cons (q_var 0) (qa_cons q_int qa_nil)))) (w_set hr.units))))) (qss_one (qs_ret (q_callB (id := "sorted") (w_sorted rfl) rfl F.b_sorted (by decide +kernel) (qa_cons (q_var 1) qa_nil))))))

abbrev s_l_flow : Stmt := topS 10
abbrev n_l_flow : List Str := ["draws", "many", "places", "kind", "some", "k", "to", "lacks", "place", "j"]
theorem sc_l_flow : FnScope n_l_flow ["draws"] (defScope s_l_flow) := ⟨rfl, rfl, rfl, by decide +kernel, rfl, by decide +kernel, by decide +kernel⟩
theorem tr_l_flow {P : Program} {w : World} {K : PySem.W.Frag} {mg : Str → Option Value} {base : Heap} {k : Nat} (F : Fx mg) {c_l_take : PSp} {c_l_places : PSp} (d_l_take : Dk ⟨P, w, K⟩ mg base k "_law_take" ["draws", "many"] c_l_take) (d_l_places : Dk ⟨P, w, K⟩ mg base k "_law_places" ["draws"] c_l_places) {f : Addr} {cdv : Value} {A : Around} {outer : List Env} {s : Shared} {H : Hp} {E : XK} {M : Me}
    (hr : Room k (A.deeper (envOfC "_law_flow" (defScope s_l_flow) s.heap.objs.size f cdv))) : QSs (fnCy P w K mg base n_l_flow "_law_flow" s_l_flow f cdv A outer s H E M) (defBody s_l_flow) (t_l_flow c_l_take c_l_places) := by
  have ndN := sc_l_flow.nd
  exact (qss_cons (qs_set (i := 1) ndN (q_ix hr.units (q_lst (qa_cons q_int (qa_cons q_int (qa_cons q_int (qa_cons q_int (qa_cons q_int (qa_cons q_int (qa_cons q_int (qa_cons q_int qa_nil))))))))) (q_fn d_l_take hr rfl (qa_cons (q_var 0) (qa_cons q_int qa_nil))))) (qss_cons (qs_set (i := 2) ndN (q_fn d_l_places hr rfl (qa_cons (q_var 0) qa_nil))) (qss_cons (qs_set (i := 3) ndN (q_fn d_l_take hr rfl (qa_cons (q_var 0) (qa_cons q_int qa_nil)))) (qss_cons (qs_set (i := 4) ndN (q_lst qa_nil)) (qss_cons (qs_for PassesOwn.never rfl (qi_rng1 rfl F.b_range (qa_cons (q_var 1) qa_nil)) (qg_name ndN (i := 5)) (qss_cons (qs_setLc (i := 6) [("j", 9)] rfl ndN (qi_rng1 rfl F.b_range (qa_cons q_int qa_nil)) (blkOk_by (N := n_l_flow) (sc := defScope s_l_flow) (by decide +kernel)) (fun _ _ _ _ _ => (qv_name ndN (i := 9))) (fun _ _ _ _ _ => qts_nil) (fun _ _ _ _ _ => (q_ix hr.units (q_lst (qa_cons (q_fn d_l_take hr rfl (qa_cons (q_var 0) (qa_cons (q_var 1) qa_nil))) (qa_cons (q_op w_mod (q_op w_add (q_var 5) q_int) (q_var 1)) qa_nil))) (q_callT (T := "int") w_int rfl F.b_int (by decide +kernel) (qa_cons (q_cmp (w_eq hr.units) (q_fn d_l_take hr rfl (qa_cons (q_var 0) (qa_cons q_int qa_nil))) q_int) qa_nil))))) (qss_cons (qs_if (qt_cmp w_gt (q_var 3) q_int) (qss_one (qs_set (i := 6) ndN (q_lst (qa_cons (q_op w_mod (q_op w_add (q_var 5) q_int) (q_var 1)) (qa_cons (q_op w_mod (q_op w_add (q_var 5) q_int) (q_var 1)) qa_nil))))) qss_nil) (qss_cons (qs_set (i := 7) ndN (q_fn d_l_take hr rfl (qa_cons (q_var 0) (qa_cons q_int qa_nil)))) (qss_cons (qs_if (qt_cmp w_lt (q_var 7) q_int) (qss_one (qs_asg q_non (qg_sub (q_var 6) (q_op w_mod (q_var 7) q_int) (w_set hr.units)))) qss_nil) (qss_cons (qs_set (i := 8) ndN (q_ix hr.units (q_var 2) (q_fn d_l_take hr rfl (qa_cons (q_var 0) (qa_cons (q_ix hr.units (q_lst (qa_cons (q_callB (id := "len") w_len rfl F.b_len (by decide +kernel) (qa_cons (q_var 2) qa_nil)) (qa_cons q_int qa_nil))) (q_callT (T := "int") w_int rfl F.b_int (by decide +kernel) (qa_cons (q_cmp (w_eq hr.units) (q_var 3) q_int) qa_nil))) qa_nil))))) (qss_one (qs_expr (q_mt (by first | exact PySem.F.slot_list_append | exact PyProof.Rows.slot_list_append) (by first | exact PySem.F.type_list_append | exact PyProof.Rows.type_list_append) w_app (q_var 4) (qa_cons (q_tup (qa_cons (q_var 8) (qa_cons (q_ix hr.units (q_var 6) q_int) (qa_cons (q_ix hr.units (q_var 6) q_int) qa_nil)))) qa_nil)))))))))) (qss_one (qs_ret (q_callT (T := "tuple") w_tup rfl F.b_tuple (by decide +kernel) (qa_cons (q_var 4) qa_nil)))))))))

abbrev s_l_number : Stmt := topS 11
abbrev n_l_number : List Str := ["thing", "many"]
theorem sc_l_number : FnScope n_l_number ["thing", "many"] (defScope s_l_number) := ⟨rfl, rfl, rfl, by decide +kernel, rfl, by decide +kernel, by decide +kernel⟩
theorem tr_l_number {P : Program} {w : World} {K : PySem.W.Frag} {mg : Str → Option Value} {base : Heap} {k : Nat} (F : Fx mg) {f : Addr} {cdv : Value} {A : Around} {outer : List Env} {s : Shared} {H : Hp} {E : XK} {M : Me}
    (hr : Room k (A.deeper (envOfC "_law_number" (defScope s_l_number) s.heap.objs.size f cdv))) : QSs (fnCy P w K mg base n_l_number "_law_number" s_l_number f cdv A outer s H E M) (defBody s_l_number) (t_l_number) := by
  have ndN := sc_l_number.nd
  exact (qss_one (qs_ret (q_and (q_isi .int (q_var 0) rfl F.b_isinstance rfl F.b_int) (q_and (q_not (q_isi .bool (q_var 0) rfl F.b_isinstance rfl F.b_bool)) (q_one (q_chain w_le w_lt q_int (q_var 0) (q_var 1)))))))

abbrev s_l_due : Stmt := topS 12
abbrev n_l_due : List Str := ["thing", "node", "taken", "to"]
theorem sc_l_due : FnScope n_l_due ["thing"] (defScope s_l_due) := ⟨rfl, rfl, rfl, by decide +kernel, rfl, by decide +kernel, by decide +kernel⟩
theorem tr_l_due {P : Program} {w : World} {K : PySem.W.Frag} {mg : Str → Option Value} {base : Heap} {k : Nat} (F : Fx mg) {c_l_number : PSp} (d_l_number : Dk ⟨P, w, K⟩ mg base k "_law_number" ["thing", "many"] c_l_number) {f : Addr} {cdv : Value} {A : Around} {outer : List Env} {s : Shared} {H : Hp} {E : XK} {M : Me}
    (hr : Room k (A.deeper (envOfC "_law_due" (defScope s_l_due) s.heap.objs.size f cdv))) : QSs (fnCy P w K mg base n_l_due "_law_due" s_l_due f cdv A outer s H E M) (defBody s_l_due) (t_l_due c_l_number) := by
  have ndN := sc_l_due.nd
  exact (qss_cons (qs_if (QW.pt (qw_or (qt_not (qt_val (q_isi .tuple (q_var 0) rfl F.b_isinstance rfl F.b_tuple))) (qw_or (qt_cmp w_lt (q_callB (id := "len") w_len rfl F.b_len (by decide +kernel) (qa_cons (q_var 0) qa_nil)) q_int) (qw_or1 (qt_cmp w_gt (q_callB (id := "len") w_len rfl F.b_len (by decide +kernel) (qa_cons (q_var 0) qa_nil)) q_int))))) (qss_one (qs_ret q_bl)) qss_nil) (qss_cons (qs_for PassesOwn.never rfl (qi_seq (q_var 0)) (qg_name ndN (i := 1)) (qss_cons (qs_if (QW.pt (qw_or (qt_not (qt_val (q_isi .tuple (q_var 1) rfl F.b_isinstance rfl F.b_tuple))) (qw_or (qt_cmp (w_ne hr.units) (q_callB (id := "len") w_len rfl F.b_len (by decide +kernel) (qa_cons (q_var 1) qa_nil)) q_int) (qw_or1 (qt_not (qt_val (q_fn d_l_number hr rfl (qa_cons (q_ix hr.units (q_var 1) q_int) (qa_cons q_int qa_nil))))))))) (qss_one (qs_ret q_bl)) qss_nil) (qss_cons (qs_setLc (i := 2) [("to", 3)] rfl ndN (qi_seq (q_sl (q_var 1) (qo_some q_int) qo_none)) (blkOk_by (N := n_l_due) (sc := defScope s_l_due) (by decide +kernel)) (fun _ _ _ _ _ => (qv_name ndN (i := 3))) (fun _ _ _ _ _ => (qts_one (qt_cmp w_isnot (q_var 3) q_non))) (fun _ _ _ _ _ => (q_var 3))) (qss_one (qs_if (QW.pt (qw_or (qt_cmp (w_eq hr.units) (q_var 2) (q_lst qa_nil)) (qw_or1 (qt_cmp (w_ne hr.units) (q_lc [("to", 3)] rfl ndN (qi_seq (q_var 2)) (blkOk_by (N := n_l_due) (sc := defScope s_l_due) (by decide +kernel)) (fun _ _ _ _ _ => (qv_name ndN (i := 3))) (fun _ _ _ _ _ => (qts_one (qt_not (qt_val (q_fn d_l_number hr rfl (qa_cons (q_var 3) (qa_cons (q_callB (id := "len") w_len rfl F.b_len (by decide +kernel) (qa_cons (q_var 0) qa_nil)) qa_nil))))))) (fun _ _ _ _ _ => (q_var 3))) (q_lst qa_nil))))) (qss_one (qs_ret q_bl)) qss_nil))))) (qss_one (qs_ret q_bl))))

abbrev s_l_other : Stmt := topS 13
abbrev n_l_other : List Str := ["draws", "flow", "many", "at", "side", "far", "node", "some", "new"]
theorem sc_l_other : FnScope n_l_other ["draws", "flow"] (defScope s_l_other) := ⟨rfl, rfl, rfl, by decide +kernel, rfl, by decide +kernel, by decide +kernel⟩
theorem tr_l_other {P : Program} {w : World} {K : PySem.W.Frag} {mg : Str → Option Value} {base : Heap} {k : Nat} (F : Fx mg) {c_l_take : PSp} (d_l_take : Dk ⟨P, w, K⟩ mg base k "_law_take" ["draws", "many"] c_l_take) {f : Addr} {cdv : Value} {A : Around} {outer : List Env} {s : Shared} {H : Hp} {E : XK} {M : Me}
    (hr : Room k (A.deeper (envOfC "_law_other" (defScope s_l_other) s.heap.objs.size f cdv))) : QSs (fnCy P w K mg base n_l_other "_law_other" s_l_other f cdv A outer s H E M) (defBody s_l_other) (t_l_other c_l_take) := by
  have ndN := sc_l_other.nd
  exact (qss_cons (qs_set (i := 2) ndN (q_callB (id := "len") w_len rfl F.b_len (by decide +kernel) (qa_cons (q_var 1) qa_nil))) (qss_cons (qs_set (i := 3) ndN (q_fn d_l_take hr rfl (qa_cons (q_var 0) (qa_cons (q_var 2) qa_nil)))) (qss_cons (qs_set (i := 4) ndN (q_fn d_l_take hr rfl (qa_cons (q_var 0) (qa_cons q_int qa_nil)))) (qss_cons (qs_set (i := 5) ndN (q_fn d_l_take hr rfl (qa_cons (q_var 0) (qa_cons q_int qa_nil)))) (qss_cons (qs_set (i := 6) ndN (q_ix hr.units (q_var 1) (q_var 3))) (qss_cons (qs_set (i := 7) ndN (q_lst (qa_cons q_bl (qa_cons q_bl (qa_cons (q_un w_neg q_int) (qa_cons (q_var 2) (qa_cons (q_op w_add (q_var 2) (q_var 5)) (qa_cons q_int (qa_cons q_int (qa_cons (q_op w_pow q_int q_int) (qa_cons (q_op w_sub (q_un w_neg q_int) (q_var 5)) (qa_cons q_str (qa_cons q_non (qa_cons (q_lst (qa_cons q_int qa_nil)) (qa_cons (q_tup (qa_cons q_int qa_nil)) (qa_cons q_int (qa_cons (q_op w_sub (q_var 2) q_int) (qa_cons q_newK qa_nil)))))))))))))))))) (qss_cons (qs_set (i := 8) ndN (q_op w_add (q_op w_add (q_sl (q_var 6) qo_none (qo_some (q_var 4))) (q_tup (qa_cons (q_ix hr.units (q_var 7) (q_fn d_l_take hr rfl (qa_cons (q_var 0) (qa_cons q_int qa_nil)))) qa_nil))) (q_sl (q_var 6) (qo_some (q_op w_add (q_var 4) q_int)) qo_none))) (qss_cons (qs_if (qt_cmp (w_eq hr.units) (q_fn d_l_take hr rfl (qa_cons (q_var 0) (qa_cons q_int qa_nil))) q_int) (qss_one (qs_set (i := 8) ndN (q_ix hr.units (q_lst (qa_cons (q_callT (T := "list") w_lst rfl F.b_list (by decide +kernel) (qa_cons (q_var 6) qa_nil)) (qa_cons (q_sl (q_var 6) qo_none (qo_some q_int)) (qa_cons (q_op w_add (q_var 6) (q_tup (qa_cons q_int qa_nil))) (qa_cons q_non (qa_cons q_int (qa_cons q_str (qa_cons (q_tup qa_nil) (qa_cons q_newK qa_nil))))))))) (q_fn d_l_take hr rfl (qa_cons (q_var 0) (qa_cons q_int qa_nil)))))) qss_nil) (qss_one (qs_ret (q_op w_add (q_op w_add (q_sl (q_var 1) qo_none (qo_some (q_var 3))) (q_tup (qa_cons (q_var 8) qa_nil))) (q_sl (q_var 1) (qo_some (q_op w_add (q_var 3) q_int)) qo_none))))))))))))

abbrev s_l_told : Stmt := topS 14
abbrev n_l_told : List Str := ["thing", "found"]
theorem sc_l_told : FnScope n_l_told ["thing"] (defScope s_l_told) := ⟨rfl, rfl, rfl, by decide +kernel, rfl, by decide +kernel, by decide +kernel⟩
theorem tr_l_told {P : Program} {w : World} {K : PySem.W.Frag} {mg : Str → Option Value} {base : Heap} {k : Nat} (F : Fx mg) {c_p_is_flow : PSp} {c_l_due : PSp} (d_p_is_flow : Dk ⟨P, w, K⟩ mg base k "is_flow" ["thing"] c_p_is_flow) (d_l_due : Dk ⟨P, w, K⟩ mg base k "_law_due" ["thing"] c_l_due) {f : Addr} {cdv : Value} {A : Around} {outer : List Env} {s : Shared} {H : Hp} {E : XK} {M : Me}
    (hr : Room k (A.deeper (envOfC "_law_told" (defScope s_l_told) s.heap.objs.size f cdv))) : QSs (fnCy P w K mg base n_l_told "_law_told" s_l_told f cdv A outer s H E M) (defBody s_l_told) (t_l_told c_p_is_flow c_l_due) := by
  have ndN := sc_l_told.nd
  exact (qss_cons (qs_set (i := 1) ndN (q_fn d_p_is_flow hr rfl (qa_cons (q_var 0) qa_nil))) (qss_one (qs_ret (q_and (q_isi .bool (q_var 1) rfl F.b_isinstance rfl F.b_bool) (q_one (q_cmp (w_eq hr.units) (q_var 1) (q_fn d_l_due hr rfl (qa_cons (q_var 0) qa_nil))))))))

abbrev s_lawm : Stmt := topS 15
abbrev n_lawm : List Str := ["script", "draws", "node", "things", "thing", "many", "flow", "k"]
theorem sc_lawm : FnScope n_lawm ["script"] (defScope s_lawm) := ⟨rfl, rfl, rfl, by decide +kernel, rfl, by decide +kernel, by decide +kernel⟩
theorem tr_lawm {P : Program} {w : World} {K : PySem.W.Frag} {mg : Str → Option Value} {base : Heap} {k : Nat} (F : Fx mg) {c_l_draws : PSp} {c_l_told : PSp} {c_l_flow : PSp} {c_p_is_flow : PSp} {c_l_other : PSp} (d_l_draws : Dk ⟨P, w, K⟩ mg base k "_law_draws" ["script"] c_l_draws) (d_l_told : Dk ⟨P, w, K⟩ mg base k "_law_told" ["thing"] c_l_told) (d_l_flow : Dk ⟨P, w, K⟩ mg base k "_law_flow" ["draws"] c_l_flow) (d_p_is_flow : Dk ⟨P, w, K⟩ mg base k "is_flow" ["thing"] c_p_is_flow) (d_l_other : Dk ⟨P, w, K⟩ mg base k "_law_other" ["draws", "flow"] c_l_other) {f : Addr} {cdv : Value} {A : Around} {outer : List Env} {s : Shared} {H : Hp} {E : XK} {M : Me}
    (hr : Room k (A.deeper (envOfC "law" (defScope s_lawm) s.heap.objs.size f cdv))) : QSs (fnCy P w K mg base n_lawm "law" s_lawm f cdv A outer s H E M) (defBody s_lawm) (t_lawm c_l_draws c_l_told c_l_flow c_p_is_flow c_l_other) := by
  have ndN := sc_lawm.nd
  exact (qss_cons (qs_set (i := 1) ndN (q_fn d_l_draws hr rfl (qa_cons (q_var 0) qa_nil))) (qss_cons (qs_set (i := 2) ndN (q_tup (qa_cons q_int (qa_cons q_int (qa_cons q_int qa_nil))))) (qss_cons (qs_set (i := 3) ndN (q_lst (qa_cons (q_tup qa_nil) (qa_cons (q_lst qa_nil) (qa_cons q_non (qa_cons q_int (qa_cons q_bl (qa_cons q_str (qa_cons q_newK (qa_cons (q_var 2) (qa_cons (q_tup (qa_cons (q_var 2) qa_nil)) (qa_cons (q_lst (qa_cons (q_var 2) qa_nil)) (qa_cons (q_op w_mul (q_tup (qa_cons (q_var 2) qa_nil)) q_int) (qa_cons (q_op w_mul (q_tup (qa_cons (q_var 2) qa_nil)) q_int) (qa_cons (q_tup (qa_cons (q_callT (T := "list") w_lst rfl F.b_list (by decide +kernel) (qa_cons (q_var 2) qa_nil)) qa_nil)) qa_nil))))))))))))))) (qss_cons (qs_set (i := 3) ndN (q_op w_add (q_var 3) (q_lst (qa_cons (q_tup (qa_cons (q_tup (qa_cons q_int (qa_cons q_int (qa_cons q_int qa_nil)))) qa_nil)) (qa_cons (q_tup (qa_cons (q_tup (qa_cons q_int (qa_cons q_int (qa_cons q_int qa_nil)))) qa_nil)) (qa_cons (q_tup (qa_cons (q_tup (qa_cons q_int (qa_cons q_int (qa_cons q_int qa_nil)))) qa_nil)) (qa_cons (q_tup (qa_cons (q_tup (qa_cons q_int (qa_cons q_int (qa_cons q_int qa_nil)))) qa_nil)) (qa_cons (q_tup (qa_cons (q_tup (qa_cons q_int (qa_cons q_int (qa_cons q_int qa_nil)))) (qa_cons (q_tup (qa_cons q_int (qa_cons q_int (qa_cons q_int qa_nil)))) qa_nil))) (qa_cons (q_tup (qa_cons q_non qa_nil)) qa_nil))))))))) (qss_cons (qs_set (i := 3) ndN (q_op w_add (q_var 3) (q_lst (qa_cons (q_tup (qa_cons (q_tup (qa_cons q_int (qa_cons q_non (qa_cons q_int qa_nil)))) qa_nil)) (qa_cons (q_tup (qa_cons (q_tup (qa_cons q_int (qa_cons q_int (qa_cons q_non qa_nil)))) qa_nil)) (qa_cons (q_tup (qa_cons (q_tup (qa_cons q_int (qa_cons q_non (qa_cons q_non qa_nil)))) qa_nil)) (qa_cons (q_tup (qa_cons (q_tup (qa_cons q_non (qa_cons q_int (qa_cons q_int qa_nil)))) qa_nil)) (qa_cons (q_tup (qa_cons (q_tup (qa_cons q_int (qa_cons q_non (qa_cons q_int qa_nil)))) qa_nil)) qa_nil)))))))) (qss_cons (qs_for PassesOwn.never rfl (qi_seq (q_var 3)) (qg_name ndN (i := 4)) (qss_one (qs_if (qt_not (qt_val (q_fn d_l_told hr rfl (qa_cons (q_var 4) qa_nil)))) (qss_one (qs_ret q_bl)) qss_nil))) (qss_cons (qs_set (i := 5) ndN q_int) (qss_cons (qs_while PassesOwn.never (QW.pt (qw_or (qt_cmp w_lt (q_var 5) q_int) (qw_or1 (QW.pt (qw_and (qt_cmp (w_ne hr.units) (q_var 1) (q_lst qa_nil)) (qw_and1 (qt_cmp w_lt (q_var 5) q_int))))))) (qss_cons (qs_set (i := 6) ndN (q_fn d_l_flow hr rfl (qa_cons (q_var 1) qa_nil))) (qss_cons (qs_if (QW.pt (qw_or (qt_cmp w_isnot (q_fn d_p_is_flow hr rfl (qa_cons (q_var 6) qa_nil)) q_bl) (qw_or1 (qt_cmp w_isnot (q_fn d_p_is_flow hr rfl (qa_cons (q_callT (T := "list") w_lst rfl F.b_list (by decide +kernel) (qa_cons (q_var 6) qa_nil)) qa_nil)) q_bl)))) (qss_one (qs_ret q_bl)) qss_nil) (qss_cons (qs_for PassesOwn.never rfl (qi_rng1 rfl F.b_range (qa_cons q_int qa_nil)) (qg_name ndN (i := 7)) (qss_one (qs_if (qt_not (qt_val (q_fn d_l_told hr rfl (qa_cons (q_fn d_l_other hr rfl (qa_cons (q_var 1) (qa_cons (q_var 6) qa_nil))) qa_nil)))) (qss_one (qs_ret q_bl)) qss_nil))) (qss_one (qs_set (i := 5) ndN (q_op w_add (q_var 5) q_int))))))) (qss_one (qs_ret q_bl))))))))))

end PV
set_option maxHeartbeats 4000000
namespace PV
open PySem PySem.Spec PyProof.Rows L2
theorem len_sp_below (ws M Q E) (h : sp_below ws M Q E) : ws.length = 2 := by
  unfold sp_below at h
  split at h <;> first | rfl | exact h.elim
theorem len_sp_is_flow (ws M Q E) (h : sp_is_flow ws M Q E) : ws.length = 1 := by
  unfold sp_is_flow at h
  split at h <;> first | rfl | exact h.elim
theorem len_sp_draws (ws M Q E) (h : sp_draws ws M Q E) : ws.length = 1 := by
  unfold sp_draws at h
  split at h <;> first | rfl | exact h.elim
theorem len_sp_take (ws M Q E) (h : sp_take ws M Q E) : ws.length = 2 := by
  unfold sp_take at h
  split at h <;> first | rfl | exact h.elim
theorem len_sp_places (ws M Q E) (h : sp_places ws M Q E) : ws.length = 1 := by
  unfold sp_places at h
  split at h <;> first | rfl | exact h.elim
theorem len_sp_flow (ws M Q E) (h : sp_flow ws M Q E) : ws.length = 1 := by
  unfold sp_flow at h
  split at h <;> first | rfl | exact h.elim
theorem len_sp_other (ws M Q E) (h : sp_other ws M Q E) : ws.length = 2 := by
  unfold sp_other at h
  split at h <;> first | rfl | exact h.elim
theorem len_sp_told (ws M Q E) (h : sp_told ws M Q E) : ws.length = 1 := by
  unfold sp_told at h
  split at h <;> first | rfl | exact h.elim
theorem len_spLaw (ws M Q E) (h : spLaw ws M Q E) : ws.length = 1 := by
  obtain ⟨ns, rfl, _⟩ := h
  rfl
theorem all_mk {P : Program} {w : World} {K : PySem.W.Frag} {h : Heap} {mg : Str → Option Value} {fa f0 f1 f2 f3 f4 f5 f6 f7 f8 f9 f10 : Addr} (X : K.In h) (G : h.Ns mainGlobals mg) (hfa : mg "law" = some (.ref fa))
    {od0 an0 od1 an1 od2 an2 od3 an3 od4 an4 od5 an5 od6 an6 od7 an7 od8 an8 od9 an9 od10 an10 : Option Addr} {sl0 sl1 sl2 sl3 sl4 sl5 sl6 sl7 sl8 sl9 sl10 : Array (Option Value)} {oc0 kV0 dc0 pm0 cd0 ct0 oc1 kV1 dc1 pm1 cd1 ct1 oc2 kV2 dc2 pm2 cd2 ct2 oc3 kV3 dc3 pm3 cd3 ct3 oc4 kV4 dc4 pm4 cd4 ct4 oc5 kV5 dc5 pm5 cd5 ct5 oc6 kV6 dc6 pm6 cd6 ct6 oc7 kV7 dc7 pm7 cd7 ct7 oc8 kV8 dc8 pm8 cd8 ct8 oc9 kV9 dc9 pm9 cd9 ct9 oc10 kV10 dc10 pm10 cd10 ct10 : Value}
    (a0 : PySem.W.nsIn K mainGlobals "is_below" = some (some (.ref f0))) (l0 : K.lookup f0 = some ⟨oc0, od0, .func (PySem.W.fnOf "is_below" "is_below" (defArgs s_p_is_below) (defBody s_p_is_below) (defScope s_p_is_below) .none kV0 dc0 pm0 an0 cd0 ct0), sl0⟩) (c0 : PySem.W.codeIn K cd0 "is_below" = true) (k0 : PySem.W.keepIn K (.ref f0) = true)
    (a1 : PySem.W.nsIn K mainGlobals "is_flow" = some (some (.ref f1))) (l1 : K.lookup f1 = some ⟨oc1, od1, .func (PySem.W.fnOf "is_flow" "is_flow" (defArgs s_p_is_flow) (defBody s_p_is_flow) (defScope s_p_is_flow) .none kV1 dc1 pm1 an1 cd1 ct1), sl1⟩) (c1 : PySem.W.codeIn K cd1 "is_flow" = true) (k1 : PySem.W.keepIn K (.ref f1) = true)
    (a2 : PySem.W.nsIn K mainGlobals "_law_draws" = some (some (.ref f2))) (l2 : K.lookup f2 = some ⟨oc2, od2, .func (PySem.W.fnOf "_law_draws" "_law_draws" (defArgs s_l_draws) (defBody s_l_draws) (defScope s_l_draws) .none kV2 dc2 pm2 an2 cd2 ct2), sl2⟩) (c2 : PySem.W.codeIn K cd2 "_law_draws" = true) (k2 : PySem.W.keepIn K (.ref f2) = true)
    (a3 : PySem.W.nsIn K mainGlobals "_law_take" = some (some (.ref f3))) (l3 : K.lookup f3 = some ⟨oc3, od3, .func (PySem.W.fnOf "_law_take" "_law_take" (defArgs s_l_take) (defBody s_l_take) (defScope s_l_take) .none kV3 dc3 pm3 an3 cd3 ct3), sl3⟩) (c3 : PySem.W.codeIn K cd3 "_law_take" = true) (k3 : PySem.W.keepIn K (.ref f3) = true)
    (a4 : PySem.W.nsIn K mainGlobals "_law_places" = some (some (.ref f4))) (l4 : K.lookup f4 = some ⟨oc4, od4, .func (PySem.W.fnOf "_law_places" "_law_places" (defArgs s_l_places) (defBody s_l_places) (defScope s_l_places) .none kV4 dc4 pm4 an4 cd4 ct4), sl4⟩) (c4 : PySem.W.codeIn K cd4 "_law_places" = true) (k4 : PySem.W.keepIn K (.ref f4) = true)
    (a5 : PySem.W.nsIn K mainGlobals "_law_flow" = some (some (.ref f5))) (l5 : K.lookup f5 = some ⟨oc5, od5, .func (PySem.W.fnOf "_law_flow" "_law_flow" (defArgs s_l_flow) (defBody s_l_flow) (defScope s_l_flow) .none kV5 dc5 pm5 an5 cd5 ct5), sl5⟩) (c5 : PySem.W.codeIn K cd5 "_law_flow" = true) (k5 : PySem.W.keepIn K (.ref f5) = true)
    (a6 : PySem.W.nsIn K mainGlobals "_law_number" = some (some (.ref f6))) (l6 : K.lookup f6 = some ⟨oc6, od6, .func (PySem.W.fnOf "_law_number" "_law_number" (defArgs s_l_number) (defBody s_l_number) (defScope s_l_number) .none kV6 dc6 pm6 an6 cd6 ct6), sl6⟩) (c6 : PySem.W.codeIn K cd6 "_law_number" = true) (k6 : PySem.W.keepIn K (.ref f6) = true)
    (a7 : PySem.W.nsIn K mainGlobals "_law_due" = some (some (.ref f7))) (l7 : K.lookup f7 = some ⟨oc7, od7, .func (PySem.W.fnOf "_law_due" "_law_due" (defArgs s_l_due) (defBody s_l_due) (defScope s_l_due) .none kV7 dc7 pm7 an7 cd7 ct7), sl7⟩) (c7 : PySem.W.codeIn K cd7 "_law_due" = true) (k7 : PySem.W.keepIn K (.ref f7) = true)
    (a8 : PySem.W.nsIn K mainGlobals "_law_other" = some (some (.ref f8))) (l8 : K.lookup f8 = some ⟨oc8, od8, .func (PySem.W.fnOf "_law_other" "_law_other" (defArgs s_l_other) (defBody s_l_other) (defScope s_l_other) .none kV8 dc8 pm8 an8 cd8 ct8), sl8⟩) (c8 : PySem.W.codeIn K cd8 "_law_other" = true) (k8 : PySem.W.keepIn K (.ref f8) = true)
    (a9 : PySem.W.nsIn K mainGlobals "_law_told" = some (some (.ref f9))) (l9 : K.lookup f9 = some ⟨oc9, od9, .func (PySem.W.fnOf "_law_told" "_law_told" (defArgs s_l_told) (defBody s_l_told) (defScope s_l_told) .none kV9 dc9 pm9 an9 cd9 ct9), sl9⟩) (c9 : PySem.W.codeIn K cd9 "_law_told" = true) (k9 : PySem.W.keepIn K (.ref f9) = true)
    (a10 : PySem.W.nsIn K mainGlobals "law" = some (some (.ref f10))) (l10 : K.lookup f10 = some ⟨oc10, od10, .func (PySem.W.fnOf "law" "law" (defArgs s_lawm) (defBody s_lawm) (defScope s_lawm) .none kV10 dc10 pm10 an10 cd10 ct10), sl10⟩) (c10 : PySem.W.codeIn K cd10 "law" = true) (k10 : PySem.W.keepIn K (.ref f10) = true)
    (z_abs : PySem.W.nsIn K mainGlobals "abs" = some none)
    (z_all : PySem.W.nsIn K mainGlobals "all" = some none)
    (z_bool : PySem.W.nsIn K mainGlobals "bool" = some none)
    (z_int : PySem.W.nsIn K mainGlobals "int" = some none)
    (z_isinstance : PySem.W.nsIn K mainGlobals "isinstance" = some none)
    (z_len : PySem.W.nsIn K mainGlobals "len" = some none)
    (z_list : PySem.W.nsIn K mainGlobals "list" = some none)
    (z_min : PySem.W.nsIn K mainGlobals "min" = some none)
    (z_range : PySem.W.nsIn K mainGlobals "range" = some none)
    (z_sorted : PySem.W.nsIn K mainGlobals "sorted" = some none)
    (z_tuple : PySem.W.nsIn K mainGlobals "tuple" = some none)
    {t_MOST_NODES : Tok} (g_MOST_NODES : PySem.W.nsIn K mainGlobals "MOST_NODES" = some (some (.int 24 t_MOST_NODES)))
    {t_PLACES : Tok} (g_PLACES : PySem.W.nsIn K mainGlobals "PLACES" = some (some (.int 1000 t_PLACES)))
    : ∃ fd : FuncData, (∀ (s : Shared) (v : Value), BindsTo s fd ⟨[v], []⟩ [("script", v)]) ∧ ∀ base : Heap, K.In base → base.Ns mainGlobals mg → FnOk P w K mg base CX0 4 fa fd ["script"] (upSp ⟨P, w, K⟩ spLaw) := by
  have e := hfa.symm.trans (PySem.W.mg_of X G a10)
  cases e
  have T : Fx mg := ⟨PySem.W.mg_none_of X G z_abs, PySem.W.mg_none_of X G z_all, PySem.W.mg_none_of X G z_bool, PySem.W.mg_none_of X G z_int, PySem.W.mg_none_of X G z_isinstance, PySem.W.mg_none_of X G z_len, PySem.W.mg_none_of X G z_list, PySem.W.mg_none_of X G z_min, PySem.W.mg_none_of X G z_range, PySem.W.mg_none_of X G z_sorted, PySem.W.mg_none_of X G z_tuple, ⟨_, PySem.W.mg_of X G g_MOST_NODES⟩, ⟨_, PySem.W.mg_of X G g_PLACES⟩⟩
  have F0 := fun_mk (st := s_p_is_below) l0 c0 k0
  have F1 := fun_mk (st := s_p_is_flow) l1 c1 k1
  have F2 := fun_mk (st := s_l_draws) l2 c2 k2
  have F3 := fun_mk (st := s_l_take) l3 c3 k3
  have F4 := fun_mk (st := s_l_places) l4 c4 k4
  have F5 := fun_mk (st := s_l_flow) l5 c5 k5
  have F6 := fun_mk (st := s_l_number) l6 c6 k6
  have F7 := fun_mk (st := s_l_due) l7 c7 k7
  have F8 := fun_mk (st := s_l_other) l8 c8 k8
  have F9 := fun_mk (st := s_l_told) l9 c9 k9
  have F10 := fun_mk (st := s_lawm) l10 c10 k10
  refine ⟨PySem.W.fnOf "law" "law" (defArgs s_lawm) (defBody s_lawm) (defScope s_lawm) .none kV10 dc10 pm10 an10 cd10 ct10, fun s v => .of_eq rfl, fun base _ _ => ?_⟩
  have D_p_is_below : Dk ⟨P, w, K⟩ mg base 1 "is_below" ["thing", "many"] sp_below := ⟨_, _, PySem.W.mg_of X G a0, k0, F0.binds (fun _ _ _ _ _ _ us hl => match us, hl with | [_, _], _ => rfl), fn_ok (k := 0) (sp := sp_below) F0 sc_p_is_below len_sp_below (fun cdv A outer s H E M hr => tr_p_is_below T hr) rd_below⟩
  have D_p_is_flow : Dk ⟨P, w, K⟩ mg base 2 "is_flow" ["thing"] sp_is_flow := ⟨_, _, PySem.W.mg_of X G a1, k1, F1.binds (fun _ _ _ _ _ _ us hl => match us, hl with | [_], _ => rfl), fn_ok (k := 1) (sp := sp_is_flow) F1 sc_p_is_flow len_sp_is_flow (fun cdv A outer s H E M hr => tr_p_is_flow T (D_p_is_below.mono (by decide)) hr) rd_is_flow⟩
  have D_l_draws : Dk ⟨P, w, K⟩ mg base 1 "_law_draws" ["script"] sp_draws := ⟨_, _, PySem.W.mg_of X G a2, k2, F2.binds (fun _ _ _ _ _ _ us hl => match us, hl with | [_], _ => rfl), fn_ok (k := 0) (sp := sp_draws) F2 sc_l_draws len_sp_draws (fun cdv A outer s H E M hr => tr_l_draws T hr) rd_draws⟩
  have D_l_take : Dk ⟨P, w, K⟩ mg base 1 "_law_take" ["draws", "many"] sp_take := ⟨_, _, PySem.W.mg_of X G a3, k3, F3.binds (fun _ _ _ _ _ _ us hl => match us, hl with | [_, _], _ => rfl), fn_ok (k := 0) (sp := sp_take) F3 sc_l_take len_sp_take (fun cdv A outer s H E M hr => tr_l_take T hr) rd_take⟩
  have D_l_places : Dk ⟨P, w, K⟩ mg base 2 "_law_places" ["draws"] sp_places := ⟨_, _, PySem.W.mg_of X G a4, k4, F4.binds (fun _ _ _ _ _ _ us hl => match us, hl with | [_], _ => rfl), fn_ok (k := 1) (sp := sp_places) F4 sc_l_places len_sp_places (fun cdv A outer s H E M hr => tr_l_places T (D_l_take.mono (by decide)) hr) rd_places⟩
  have D_l_flow : Dk ⟨P, w, K⟩ mg base 3 "_law_flow" ["draws"] sp_flow := ⟨_, _, PySem.W.mg_of X G a5, k5, F5.binds (fun _ _ _ _ _ _ us hl => match us, hl with | [_], _ => rfl), fn_ok (k := 2) (sp := sp_flow) F5 sc_l_flow len_sp_flow (fun cdv A outer s H E M hr => tr_l_flow T (D_l_take.mono (by decide)) (D_l_places.mono (by decide)) hr) rd_flow⟩
  have D_l_number : Dk ⟨P, w, K⟩ mg base 1 "_law_number" ["thing", "many"] sp_below := ⟨_, _, PySem.W.mg_of X G a6, k6, F6.binds (fun _ _ _ _ _ _ us hl => match us, hl with | [_, _], _ => rfl), fn_ok (k := 0) (sp := sp_below) F6 sc_l_number len_sp_below (fun cdv A outer s H E M hr => tr_l_number T hr) rd_below⟩
  have D_l_due : Dk ⟨P, w, K⟩ mg base 2 "_law_due" ["thing"] sp_is_flow := ⟨_, _, PySem.W.mg_of X G a7, k7, F7.binds (fun _ _ _ _ _ _ us hl => match us, hl with | [_], _ => rfl), fn_ok (k := 1) (sp := sp_is_flow) F7 sc_l_due len_sp_is_flow (fun cdv A outer s H E M hr => tr_l_due T (D_l_number.mono (by decide)) hr) rd_due⟩
  have D_l_other : Dk ⟨P, w, K⟩ mg base 2 "_law_other" ["draws", "flow"] sp_other := ⟨_, _, PySem.W.mg_of X G a8, k8, F8.binds (fun _ _ _ _ _ _ us hl => match us, hl with | [_, _], _ => rfl), fn_ok (k := 1) (sp := sp_other) F8 sc_l_other len_sp_other (fun cdv A outer s H E M hr => tr_l_other T (D_l_take.mono (by decide)) hr) rd_other⟩
  have D_l_told : Dk ⟨P, w, K⟩ mg base 3 "_law_told" ["thing"] sp_told := ⟨_, _, PySem.W.mg_of X G a9, k9, F9.binds (fun _ _ _ _ _ _ us hl => match us, hl with | [_], _ => rfl), fn_ok (k := 2) (sp := sp_told) F9 sc_l_told len_sp_told (fun cdv A outer s H E M hr => tr_l_told T (D_p_is_flow.mono (by decide)) (D_l_due.mono (by decide)) hr) rd_told⟩
  exact fn_ok (k := 3) (sp := spLaw) F10 sc_lawm len_spLaw (fun cdv A outer s H E M hr => tr_lawm T (D_l_draws.mono (by decide)) (D_l_told.mono (by decide)) (D_l_flow.mono (by decide)) (D_p_is_flow.mono (by decide)) (D_l_other.mono (by decide)) hr) rd_law
end PV

open PySem PySem.W PyProof.Rows in
set_option maxHeartbeats 0 in
theorem PySem.Challenge.cw_wayguess_k50_what_is_a_flow_holds : PySem.Challenge.rw_wayguess_k50_what_is_a_flow.Holds := by
  w_on; o_law; k_head; (case hw => w_witness2)
  k_fill
  refine PV.walkB (l := PySem.Challenge.rw_wayguess_k50_what_is_a_flow) (k := 4) rfl rfl ⟨rfl, by decide, by decide⟩ (fun w h Y => PySem.W.kIn_of Y) ?F
  case F =>
    intro w mg fa h KX G hmg
    refine' PV.all_mk KX G hmg ?a0 ?l0 ?c0 ?k0 ?a1 ?l1 ?c1 ?k1 ?a2 ?l2 ?c2 ?k2 ?a3 ?l3 ?c3 ?k3 ?a4 ?l4 ?c4 ?k4 ?a5 ?l5 ?c5 ?k5 ?a6 ?l6 ?c6 ?k6 ?a7 ?l7 ?c7 ?k7 ?a8 ?l8 ?c8 ?k8 ?a9 ?l9 ?c9 ?k9 ?a10 ?l10 ?c10 ?k10 ?z_abs ?z_all ?z_bool ?z_int ?z_isinstance ?z_len ?z_list ?z_min ?z_range ?z_sorted ?z_tuple ?g_MOST_NODES ?g_PLACES
    (case a0 => k_is)
    (case l0 => k_is)
    (case c0 => k_is)
    (case k0 => k_is)
    (case a1 => k_is)
    (case l1 => k_is)
    (case c1 => k_is)
    (case k1 => k_is)
    (case a2 => k_is)
    (case l2 => k_is)
    (case c2 => k_is)
    (case k2 => k_is)
    (case a3 => k_is)
    (case l3 => k_is)
    (case c3 => k_is)
    (case k3 => k_is)
    (case a4 => k_is)
    (case l4 => k_is)
    (case c4 => k_is)
    (case k4 => k_is)
    (case a5 => k_is)
    (case l5 => k_is)
    (case c5 => k_is)
    (case k5 => k_is)
    (case a6 => k_is)
    (case l6 => k_is)
    (case c6 => k_is)
    (case k6 => k_is)
    (case a7 => k_is)
    (case l7 => k_is)
    (case c7 => k_is)
    (case k7 => k_is)
    (case a8 => k_is)
    (case l8 => k_is)
    (case c8 => k_is)
    (case k8 => k_is)
    (case a9 => k_is)
    (case l9 => k_is)
    (case c9 => k_is)
    (case k9 => k_is)
    (case a10 => k_is)
    (case l10 => k_is)
    (case c10 => k_is)
    (case k10 => k_is)
    (case z_abs => k_is)
    (case z_all => k_is)
    (case z_bool => k_is)
    (case z_int => k_is)
    (case z_isinstance => k_is)
    (case z_len => k_is)
    (case z_list => k_is)
    (case z_min => k_is)
    (case z_range => k_is)
    (case z_sorted => k_is)
    (case z_tuple => k_is)
    (case g_MOST_NODES => k_is)
    (case g_PLACES => k_is)
