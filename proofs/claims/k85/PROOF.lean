import PyProof.Rows.All
import Wide.All
import OpenK.AllK
import Wide.FinOn
import HandS.ForMost
import HandS.More
import HandS.TupAny
import HandS.Deep
import KE.SortData
import PyProof.ListStr
import HandS.Text
import PySem.Challenge.RW_manyways_k85_parts_of_wishes
import HandS.Conv
import HandS.Style
import HandS.Rev
import HandS.Zip
set_option Elab.async false
set_option linter.all false
set_option maxRecDepth 100000
set_option maxHeartbeats 4000000

/-! DL: readings over plain data (no heap), lifted to the hand layer's readings. -/
namespace DL
open PySem L2

abbrev D := PyData
/-- what a slot holds: a frozen value, a list of one's own (it may be changed), a dict of one's own, the tape -/
inductive Ent where
  | val (d : D)
  | own (ds : List D)
  | dic (kvs : List (D × D))
  | tape
abbrev Sl := List (Option Ent)
def Ent.mut : Ent → Prop
  | .own _ => True
  | .dic _ => True
  | _ => False
structure Cfg where
  P : Program
  w : World
  K : PySem.W.Frag
abbrev cfg (X : Cx) : Cfg := ⟨X.prog, X.w, X.K⟩
/-- the entry of the code that runs: the tape's address, what was frozen, the heap -/
structure Gx where
  tp : Option Addr
  F0 : Addr → Prop
  H0 : Hp

/-- a dict's raw content -/
def Dic (C : Cfg) (H : Hp) (a : Addr) (es : List (V × V)) : Prop := ∃ ks : List (Key × V), H a = some (.dK ks) ∧ es = ks.map fun p => (kV p.1, p.2)

mutual
def Dat (C : Cfg) (F : Addr → Prop) (H : Hp) : D → V → Prop
  | .none, v => v = .non
  | .bool b, v => v = .bl b
  | .int i, v => v = .int i
  | .str x, v => v = .str x
  | .list ds, v => ∃ a vs, v = .ref a ∧ F a ∧ H a = some (.lst vs) ∧ Dats C F H ds vs
  | .tuple ds, v => ∃ a vs, v = .ref a ∧ SqT C.K H a vs ∧ Dats C F H ds vs
  | .dict kvs, v => ∃ a es, v = .ref a ∧ F a ∧ Dic C H a es ∧ DKv C F H kvs es
def Dats (C : Cfg) (F : Addr → Prop) (H : Hp) : List D → List V → Prop
  | [], vs => vs = []
  | d :: ds, vs => ∃ v r, vs = v :: r ∧ Dat C F H d v ∧ Dats C F H ds r
def DKv (C : Cfg) (F : Addr → Prop) (H : Hp) : List (D × D) → List (V × V) → Prop
  | [], es => es = []
  | (k, d) :: kvs, es => ∃ x y r, es = (x, y) :: r ∧ Dat C F H k x ∧ Dat C F H d y ∧ DKv C F H kvs r
end

/-- what stays -/
structure Kp (F : Addr → Prop) (H H' : Hp) : Prop where
  fr : ∀ a o, F a → H a = some o → H' a = some o
  tu : ∀ a xs, H a = some (.tup xs) → H' a = some (.tup xs)
  fz : ∀ a o u, H a = some (.frz o u) → H' a = some (.frz o u)
theorem Kp.refl {F : Addr → Prop} {H : Hp} : Kp F H H := ⟨fun _ _ _ e => e, fun _ _ e => e, fun _ _ _ e => e⟩
theorem Kp.trans {F F' : Addr → Prop} {H H1 H2 : Hp} (a : Kp F H H1) (b : Kp F' H1 H2) (s : ∀ x, F x → F' x) : Kp F H H2 :=
  ⟨fun x o f e => b.fr x o (s x f) (a.fr x o f e), fun x xs e => b.tu x xs (a.tu x xs e), fun x o u e => b.fz x o u (a.fz x o u e)⟩
theorem Kp.of {F : Addr → Prop} {H H' : Hp} (k : ∀ a o, H a = some o → H' a = some o) : Kp F H H' := ⟨fun a o _ e => k a o e, fun a _ e => k a _ e, fun a _ _ e => k a _ e⟩
theorem Kp.sqT {F : Addr → Prop} {H H' : Hp} {K : PySem.W.Frag} {a : Addr} {xs : List V} (k : Kp F H H') (h : SqT K H a xs) : SqT K H' a xs := by
  rcases h with (h | ⟨o, h⟩) | h
  · exact .inl (.inl (k.tu _ _ h))
  · exact .inl (.inr ⟨o, k.fz _ _ _ h⟩)
  · exact .inr h

section
variable {C : Cfg} {F F' : Addr → Prop} {H H' : Hp}
mutual
theorem Dat.mono (k : Kp F H H') (s : ∀ a, F a → F' a) : ∀ (d : D) (v : V), Dat C F H d v → Dat C F' H' d v
  | .none, v, h => by simpa only [Dat] using h
  | .bool b, v, h => by simpa only [Dat] using h
  | .int i, v, h => by simpa only [Dat] using h
  | .str x, v, h => by simpa only [Dat] using h
  | .list ds, v, h => by
    simp only [Dat] at h ⊢
    obtain ⟨a, vs, e, f, q, r⟩ := h
    exact ⟨a, vs, e, s _ f, k.fr _ _ f q, Dats.mono k s ds vs r⟩
  | .tuple ds, v, h => by
    simp only [Dat] at h ⊢
    obtain ⟨a, vs, e, q, r⟩ := h
    exact ⟨a, vs, e, k.sqT q, Dats.mono k s ds vs r⟩
  | .dict kvs, v, h => by
    simp only [Dat] at h ⊢
    obtain ⟨a, es, e, f, ⟨ks, q, q2⟩, r⟩ := h
    exact ⟨a, es, e, s _ f, ⟨ks, k.fr _ _ f q, q2⟩, DKv.mono k s kvs es r⟩
theorem Dats.mono (k : Kp F H H') (s : ∀ a, F a → F' a) : ∀ (ds : List D) (vs : List V), Dats C F H ds vs → Dats C F' H' ds vs
  | [], vs, h => by simpa only [Dats] using h
  | d :: ds, vs, h => by
    simp only [Dats] at h ⊢
    obtain ⟨v, r, e, h1, h2⟩ := h
    exact ⟨v, r, e, Dat.mono k s d v h1, Dats.mono k s ds r h2⟩
theorem DKv.mono (k : Kp F H H') (s : ∀ a, F a → F' a) : ∀ (kvs : List (D × D)) (es : List (V × V)), DKv C F H kvs es → DKv C F' H' kvs es
  | [], es, h => by simpa only [DKv] using h
  | (x, d) :: kvs, es, h => by
    simp only [DKv] at h ⊢
    obtain ⟨v, y, r, e, h1, h2, h3⟩ := h
    exact ⟨v, y, r, e, Dat.mono k s x v h1, Dat.mono k s d y h2, DKv.mono k s kvs r h3⟩
end
theorem Dats.len : ∀ {ds : List D} {vs : List V}, Dats C F H ds vs → vs.length = ds.length
  | [], vs, h => by simp only [Dats] at h; rw [h]; rfl
  | d :: ds, vs, h => by
    simp only [Dats] at h
    obtain ⟨v, r, e, h1, h2⟩ := h
    rw [e, List.length_cons, List.length_cons, Dats.len h2]
theorem Dats.get : ∀ {ds : List D} {vs : List V} {i : Nat} {d : D}, Dats C F H ds vs → ds[i]? = some d → ∃ v, vs[i]? = some v ∧ Dat C F H d v
  | [], _, _, _, _, e => by simp at e
  | d :: ds, vs, 0, x, h, e => by
    simp only [Dats] at h
    obtain ⟨v, r, rfl, h1, h2⟩ := h
    simp at e; subst e
    exact ⟨v, rfl, h1⟩
  | d :: ds, vs, i + 1, x, h, e => by
    simp only [Dats] at h
    obtain ⟨v, r, rfl, h1, h2⟩ := h
    obtain ⟨u, q1, q2⟩ := Dats.get (i := i) h2 (by simpa using e)
    exact ⟨u, by simpa using q1, q2⟩
theorem Dats.get' : ∀ {ds : List D} {vs : List V} {i : Nat} {v : V}, Dats C F H ds vs → vs[i]? = some v → ∃ d, ds[i]? = some d ∧ Dat C F H d v := fun {ds vs i v} h e => by
  have hl := h.len
  have hi : i < vs.length := (List.getElem?_eq_some_iff.mp e).1
  have e2 : ds[i]? = some (ds[i]'(by omega)) := List.getElem?_eq_getElem _
  obtain ⟨u, q1, q2⟩ := h.get e2
  rw [e] at q1
  cases q1
  exact ⟨_, e2, q2⟩
theorem Dats.append : ∀ {ds es : List D} {vs us : List V}, Dats C F H ds vs → Dats C F H es us → Dats C F H (ds ++ es) (vs ++ us)
  | [], es, vs, us, h, g => by simp only [Dats] at h; subst h; exact g
  | d :: ds, es, vs, us, h, g => by
    simp only [Dats] at h
    obtain ⟨v, r, rfl, h1, h2⟩ := h
    simp only [List.cons_append, Dats]
    exact ⟨v, r ++ us, rfl, h1, Dats.append h2 g⟩
theorem Dats.take : ∀ (n : Nat) {ds : List D} {vs : List V}, Dats C F H ds vs → Dats C F H (ds.take n) (vs.take n)
  | 0, ds, vs, h => by simp [Dats]
  | n + 1, [], vs, h => by simp only [Dats] at h; subst h; simp [Dats]
  | n + 1, d :: ds, vs, h => by
    simp only [Dats] at h
    obtain ⟨v, r, rfl, h1, h2⟩ := h
    simp only [List.take_succ_cons, Dats]
    exact ⟨v, r.take n, rfl, h1, Dats.take n h2⟩
theorem Dats.drop : ∀ (n : Nat) {ds : List D} {vs : List V}, Dats C F H ds vs → Dats C F H (ds.drop n) (vs.drop n)
  | 0, ds, vs, h => h
  | n + 1, [], vs, h => by simp only [Dats] at h; subst h; simp [Dats]
  | n + 1, d :: ds, vs, h => by
    simp only [Dats] at h
    obtain ⟨v, r, rfl, h1, h2⟩ := h
    simp only [List.drop_succ_cons]
    exact Dats.drop n h2
theorem Dats.nil : Dats C F H [] [] := by simp [Dats]
theorem Dats.one {d : D} {v : V} (h : Dat C F H d v) : Dats C F H [d] [v] := by
  simp only [Dats]
  exact ⟨v, [], rfl, h, rfl⟩
theorem Dats.snoc {ds : List D} {vs : List V} {d : D} {v : V} (h : Dats C F H ds vs) (g : Dat C F H d v) : Dats C F H (ds ++ [d]) (vs ++ [v]) := h.append (.one g)
theorem Dats.reverse : ∀ {ds : List D} {vs : List V}, Dats C F H ds vs → Dats C F H ds.reverse vs.reverse
  | [], vs, h => by simp only [Dats] at h; subst h; simp [Dats]
  | d :: ds, vs, h => by
    simp only [Dats] at h
    obtain ⟨v, r, rfl, h1, h2⟩ := h
    rw [List.reverse_cons, List.reverse_cons]
    exact (Dats.reverse h2).snoc h1
theorem Dats.of_get : ∀ {ds : List D} {vs : List V}, vs.length = ds.length → (∀ (i : Nat) (d : D) (v : V), ds[i]? = some d → vs[i]? = some v → Dat C F H d v) → Dats C F H ds vs
  | [], vs, hl, _ => by
    simp only [Dats]
    exact List.eq_nil_of_length_eq_zero hl
  | d :: ds, [], hl, _ => by simp at hl
  | d :: ds, v :: vs, hl, h => by
    simp only [Dats]
    exact ⟨v, vs, rfl, h 0 d v rfl rfl, Dats.of_get (by simpa using hl) fun i e u h1 h2 => h (i + 1) e u (by simpa using h1) (by simpa using h2)⟩
theorem dats_ints : ∀ {ns : List Int} {vs : List V}, Dats C F H (ns.map .int) vs ↔ vs = ns.map .int
  | [], vs => by simp [Dats]
  | n :: ns, vs => by
    simp only [List.map_cons, Dats, Dat]
    constructor
    · rintro ⟨v, r, rfl, rfl, h⟩
      rw [dats_ints.mp h]
    · rintro rfl
      exact ⟨_, _, rfl, rfl, dats_ints.mpr rfl⟩
theorem dats_strs : ∀ {ns : List Str} {vs : List V}, Dats C F H (ns.map .str) vs ↔ vs = ns.map .str
  | [], vs => by simp [Dats]
  | n :: ns, vs => by
    simp only [List.map_cons, Dats, Dat]
    constructor
    · rintro ⟨v, r, rfl, rfl, h⟩
      rw [dats_strs.mp h]
    · rintro rfl
      exact ⟨_, _, rfl, rfl, dats_strs.mpr rfl⟩
theorem dats_bools : ∀ {ns : List Bool} {vs : List V}, Dats C F H (ns.map .bool) vs ↔ vs = ns.map .bl
  | [], vs => by simp [Dats]
  | n :: ns, vs => by
    simp only [List.map_cons, Dats, Dat]
    constructor
    · rintro ⟨v, r, rfl, rfl, h⟩
      rw [dats_bools.mp h]
    · rintro rfl
      exact ⟨_, _, rfl, rfl, dats_bools.mpr rfl⟩
/- towards the hand layer's own word for data -/
mutual
def noDict : D → Bool
  | .none | .bool _ | .int _ | .str _ => true
  | .list ds | .tuple ds => noDicts ds
  | .dict _ => false
def noDicts : List D → Bool
  | [] => true
  | d :: ds => noDict d && noDicts ds
end
mutual
theorem Dat.dp : ∀ (d : D) (v : V), noDict d = true → Dat C F H d v → Dp C.K H v d
  | .none, v, _, h => by simp only [Dat] at h; subst h; exact .non
  | .bool b, v, _, h => by simp only [Dat] at h; subst h; exact .bl b
  | .int i, v, _, h => by simp only [Dat] at h; subst h; exact .int i
  | .str x, v, _, h => by simp only [Dat] at h; subst h; exact .str x
  | .list ds, v, n, h => by
    simp only [Dat] at h
    obtain ⟨a, vs, rfl, f, q, r⟩ := h
    exact .lst (SqL.of q) (Dats.dp ds vs (by simpa only [noDict] using n) r)
  | .tuple ds, v, n, h => by
    simp only [Dat] at h
    obtain ⟨a, vs, rfl, q, r⟩ := h
    exact .tup q (Dats.dp ds vs (by simpa only [noDict] using n) r)
  | .dict kvs, v, n, h => by simp [noDict] at n
theorem Dats.dp : ∀ (ds : List D) (vs : List V), noDicts ds = true → Dats C F H ds vs → DpAll C.K H vs ds
  | [], vs, _, h => by simp only [Dats] at h; subst h; exact .nil
  | d :: ds, vs, n, h => by
    simp only [Dats] at h
    obtain ⟨v, r, rfl, h1, h2⟩ := h
    simp only [noDicts, Bool.and_eq_true] at n
    exact .cons (Dat.dp d v n.1 h1) (Dats.dp ds r n.2 h2)
end
/- data without lists and dicts: what it stands for hangs on no frozen address -/
mutual
def flatD : D → Bool
  | .none | .bool _ | .int _ | .str _ => true
  | .list _ => false
  | .tuple ds => flatDs ds
  | .dict _ => false
def flatDs : List D → Bool
  | [] => true
  | d :: ds => flatD d && flatDs ds
end
mutual
theorem Dat.flat : ∀ (d : D) (v : V), flatD d = true → Dat C F H d v → Dat C F' H d v
  | .none, v, _, h => by simpa only [Dat] using h
  | .bool b, v, _, h => by simpa only [Dat] using h
  | .int i, v, _, h => by simpa only [Dat] using h
  | .str x, v, _, h => by simpa only [Dat] using h
  | .list ds, v, n, h => by simp [flatD] at n
  | .tuple ds, v, n, h => by
    simp only [Dat] at h ⊢
    obtain ⟨a, vs, rfl, q, r⟩ := h
    exact ⟨a, vs, rfl, q, Dats.flat ds vs (by simpa only [flatD] using n) r⟩
  | .dict kvs, v, n, h => by simp [flatD] at n
theorem Dats.flat : ∀ (ds : List D) (vs : List V), flatDs ds = true → Dats C F H ds vs → Dats C F' H ds vs
  | [], vs, _, h => by simpa only [Dats] using h
  | d :: ds, vs, n, h => by
    simp only [Dats] at h ⊢
    obtain ⟨v, r, rfl, h1, h2⟩ := h
    simp only [flatDs, Bool.and_eq_true] at n
    exact ⟨v, r, rfl, Dat.flat d v n.1 h1, Dats.flat ds r n.2 h2⟩
end
end
end DL

namespace DL
open PySem L2

/-- the tape: the script, which draw is next (at most n), what is left of a great cell -/
def TapeOk (F : Addr → Prop) (H : Hp) (t : Addr) (n : Nat) : Prop :=
  ∃ (s : Addr) (ns : List Int) (spot rest : Int), H t = some (.lst [.ref s, .int spot, .int rest]) ∧ F s ∧ H s = some (.lst (ns.map V.int)) ∧ ns.length ≤ 63 ∧ 0 ≤ spot ∧ spot ≤ n

def EntOk (C : Cfg) (G : Gx) (F : Addr → Prop) (H : Hp) : Ent → V → Prop
  | .val d, v => Dat C F H d v
  | .own ds, v => ∃ a vs, v = .ref a ∧ ¬ F a ∧ G.H0 a = none ∧ G.tp ≠ some a ∧ H a = some (.lst vs) ∧ Dats C F H ds vs
  | .dic kvs, v => ∃ a es, v = .ref a ∧ ¬ F a ∧ G.H0 a = none ∧ G.tp ≠ some a ∧ Dic C H a es ∧ DKv C F H kvs es
  | .tape, v => ∃ t, G.tp = some t ∧ v = .ref t

structure EnvOk (C : Cfg) (G : Gx) (F : Addr → Prop) (H : Hp) (σ : L2.St) (ρ : Sl) (n : Nat) : Prop where
  len : ρ.length = σ.length
  slot : ∀ (i : Nat) (e : Ent), ρ[i]? = some (some e) → ∃ v, σ[i]? = some (some v) ∧ EntOk C G F H e v
  apart : ∀ (i j : Nat) (e e' : Ent) (a : Addr), i ≠ j → ρ[i]? = some (some e) → ρ[j]? = some (some e') → e.mut → e'.mut → σ[i]? = some (some (.ref a)) → σ[j]? = some (some (.ref a)) → False
  keep : ∀ a o, G.H0 a = some o → G.tp ≠ some a → H a = some o
  fsub : ∀ a, F a → G.F0 a ∨ G.H0 a = none
  live : ∀ a, F a → ∃ o, H a = some o
  tape : ∀ t, G.tp = some t → TapeOk F H t n ∧ ¬ F t ∧ ∃ o, G.H0 t = some o

/-- new things came, nothing that stood was changed -/
structure Grow (F : Addr → Prop) (H : Hp) (F' : Addr → Prop) (H' : Hp) : Prop where
  sub : ∀ a, F a → F' a
  new : ∀ a, F' a → F a ∨ (H a = none ∧ ∃ o, H' a = some o)
  keep : ∀ a o, H a = some o → H' a = some o
/-- .. but the tape -/
structure Ext (G : Gx) (F : Addr → Prop) (H : Hp) (F' : Addr → Prop) (H' : Hp) : Prop where
  sub : ∀ a, F a → F' a
  new : ∀ a, F' a → F a ∨ H a = none
  keep : ∀ a o, H a = some o → G.tp ≠ some a → H' a = some o
  kp : Kp F H H'
/-- .. but what is one's own -/
structure ExtS (F : Addr → Prop) (H : Hp) (F' : Addr → Prop) (H' : Hp) : Prop where
  sub : ∀ a, F a → F' a
  kp : Kp F H H'

section
variable {C : Cfg} {G : Gx} {F F' F1 F2 : Addr → Prop} {H H' H1 H2 : Hp} {σ : L2.St} {ρ : Sl} {n m : Nat}
theorem Grow.refl : Grow F H F H := ⟨fun _ h => h, fun _ h => .inl h, fun _ _ h => h⟩
theorem Grow.kp (g : Grow F H F' H') : Kp F H H' := .of g.keep
theorem Grow.trans (a : Grow F H F1 H1) (b : Grow F1 H1 F2 H2) : Grow F H F2 H2 :=
  ⟨fun x h => b.sub x (a.sub x h), fun x h => (b.new x h).elim (fun z => (a.new x z).elim .inl fun ⟨z1, o, z2⟩ => .inr ⟨z1, o, b.keep x o z2⟩) fun ⟨z, o, zo⟩ => .inr ⟨(by
    cases e : H x with
    | none => rfl
    | some o => rw [a.keep x o e] at z; cases z), o, zo⟩, fun x o e => b.keep x o (a.keep x o e)⟩
theorem Grow.ext (g : Grow F H F' H') : Ext G F H F' H' := ⟨g.sub, fun a h => (g.new a h).elim .inl fun z => .inr z.1, fun a o e _ => g.keep a o e, g.kp⟩
theorem Ext.refl : Ext G F H F H := Grow.refl.ext
theorem Ext.s (x : Ext G F H F' H') : ExtS F H F' H' := ⟨x.sub, x.kp⟩
theorem ExtS.refl : ExtS F H F H := ⟨fun _ h => h, .refl⟩
theorem ExtS.trans (a : ExtS F H F1 H1) (b : ExtS F1 H1 F2 H2) : ExtS F H F2 H2 := ⟨fun x h => b.sub x (a.sub x h), a.kp.trans b.kp a.sub⟩
/-- the tape's address was there ahead -/
theorem EnvOk.tp_some (E : EnvOk C G F H σ ρ n) {t : Addr} (h : G.tp = some t) : ∃ o, H t = some o := by
  obtain ⟨⟨s, ns, a, b, e, _⟩, _⟩ := E.tape t h
  exact ⟨_, e⟩
theorem Ext.none_of (x : Ext G F H F1 H1) (E : EnvOk C G F H σ ρ n) (h : ∀ t, G.tp = some t → ∃ o, H1 t = some o) {a : Addr} (z : H1 a = none) : H a = none := by
  cases e : H a with
  | none => rfl
  | some o =>
    by_cases ht : G.tp = some a
    · obtain ⟨o', q⟩ := h a ht
      rw [q] at z; cases z
    · rw [x.keep a o e ht] at z; cases z
theorem Ext.trans (a : Ext G F H F1 H1) (b : Ext G F1 H1 F2 H2) (E : EnvOk C G F H σ ρ n) (E1 : EnvOk C G F1 H1 σ ρ m) : Ext G F H F2 H2 :=
  ⟨fun x h => b.sub x (a.sub x h), fun x h => (b.new x h).elim (a.new x) fun z => .inr (a.none_of E (fun t ht => E1.tp_some ht) z), fun x o e ht => b.keep x o (a.keep x o e ht) ht, a.kp.trans b.kp a.sub⟩
theorem Ext.grow (a : Ext G F H F1 H1) (b : Grow F1 H1 F2 H2) (E : EnvOk C G F H σ ρ n) (E1 : EnvOk C G F1 H1 σ ρ m) : Ext G F H F2 H2 := a.trans b.ext E E1
theorem TapeOk.mono {t : Addr} (h : TapeOk F H t n) (kt : ∀ o, H t = some o → H' t = some o) (k : Kp F H H') (s : ∀ a, F a → F' a) (hm : n ≤ m) : TapeOk F' H' t m := by
  obtain ⟨a, ns, spot, rest, e1, f, e2, hl, h0, h1⟩ := h
  exact ⟨a, ns, spot, rest, kt _ e1, s _ f, k.fr _ _ f e2, hl, h0, by omega⟩
theorem EntOk.grow (g : Grow F H F' H') : ∀ {e : Ent} {v : V}, EntOk C G F H e v → EntOk C G F' H' e v
  | .val d, v, h => Dat.mono g.kp g.sub d v h
  | .own ds, v, ⟨a, vs, e, f, h0, ht, q, r⟩ => ⟨a, vs, e, fun z => (g.new a z).elim f fun ⟨z', _⟩ => by (rw [q] at z'; cases z'), h0, ht, g.keep _ _ q, Dats.mono g.kp g.sub ds vs r⟩
  | .dic kvs, v, ⟨a, es, e, f, h0, ht, ⟨ks, q, q2⟩, r⟩ => ⟨a, es, e, fun z => (g.new a z).elim f fun ⟨z', _⟩ => by (rw [q] at z'; cases z'), h0, ht, ⟨ks, g.keep _ _ q, q2⟩, DKv.mono g.kp g.sub kvs es r⟩
  | .tape, v, h => h
theorem EnvOk.grow (E : EnvOk C G F H σ ρ n) (g : Grow F H F' H') : EnvOk C G F' H' σ ρ n where
  len := E.len
  slot := fun i e h => let ⟨v, q, r⟩ := E.slot i e h; ⟨v, q, r.grow g⟩
  apart := E.apart
  keep := fun a o e ht => g.keep _ _ (E.keep a o e ht)
  live := fun a f => (g.new a f).elim (fun z => let ⟨o, q⟩ := E.live a z; ⟨o, g.keep a o q⟩) fun z => z.2
  fsub := fun a f => (g.new a f).elim (E.fsub a) fun ⟨z, _⟩ => .inr (by
    cases e : G.H0 a with
    | none => rfl
    | some o =>
      by_cases ht : G.tp = some a
      · obtain ⟨o', q⟩ := E.tp_some ht
        rw [q] at z; cases z
      · rw [E.keep a o e ht] at z; cases z)
  tape := fun t ht => by
    obtain ⟨h1, h2, h3⟩ := E.tape t ht
    obtain ⟨o', q⟩ := E.tp_some ht
    exact ⟨h1.mono (fun o e => g.keep _ _ e) g.kp g.sub (Nat.le_refl _), fun z => (g.new t z).elim h2 fun ⟨z', _⟩ => by (rw [q] at z'; cases z'), h3⟩

/-- addresses that are one's own -/
def Own (σ : L2.St) (ρ : Sl) (a : Addr) : Prop := ∃ (i : Nat) (e : Ent), ρ[i]? = some (some e) ∧ e.mut ∧ σ[i]? = some (some (.ref a))
/-- a value that is only looked at: frozen, or a list or dict of one's own -/
def DatB (C : Cfg) (F O : Addr → Prop) (H : Hp) (d : D) (v : V) : Prop :=
  Dat C F H d v ∨ (∃ ds a vs, d = .list ds ∧ v = .ref a ∧ O a ∧ H a = some (.lst vs) ∧ Dats C F H ds vs) ∨ ∃ kvs a es, d = .dict kvs ∧ v = .ref a ∧ O a ∧ Dic C H a es ∧ DKv C F H kvs es

/-! ### readings over data -/
abbrev DE := Sl → Nat → (D → Nat → Prop) → Prop
abbrev DO := Sl → Nat → (List D → Nat → Prop) → Prop
abbrev DT := Sl → Nat → (Bool → Nat → Prop) → Prop
abbrev DA := Sl → Nat → (List Ent → Nat → Prop) → Prop
structure DEnds where
  nx : Sl → Nat → Prop
  rt : D → Nat → Prop
  bk : Sl → Nat → Prop := fun _ _ => False
  ct : Sl → Nat → Prop := fun _ _ => False
abbrev DS := DEnds → Sl → Nat → Prop

def liftE (C : Cfg) (t : DE) : TE := fun σ H Q => ∃ (G : Gx) (F : Addr → Prop) (ρ : Sl) (n : Nat) (Qd : D → Nat → Prop), EnvOk C G F H σ ρ n ∧ t ρ n Qd ∧
  ∀ d m, Qd d m → ∀ v H' F', EnvOk C G F' H' σ ρ m → Ext G F H F' H' → Dat C F' H' d v → Q v H'
def liftB (C : Cfg) (t : DE) : TE := fun σ H Q => ∃ (G : Gx) (F : Addr → Prop) (ρ : Sl) (n : Nat) (Qd : D → Nat → Prop), EnvOk C G F H σ ρ n ∧ t ρ n Qd ∧
  ∀ d m, Qd d m → ∀ v H' F', EnvOk C G F' H' σ ρ m → Ext G F H F' H' → DatB C F' (Own σ ρ) H' d v → Q v H'
/-- a fresh list -/
def liftO (C : Cfg) (t : DO) : TE := fun σ H Q => ∃ (G : Gx) (F : Addr → Prop) (ρ : Sl) (n : Nat) (Qd : List D → Nat → Prop), EnvOk C G F H σ ρ n ∧ t ρ n Qd ∧
  ∀ ds m, Qd ds m → ∀ p vs H' F', EnvOk C G F' H' σ ρ m → Ext G F H F' H' → H p = none → ¬ F' p → H' p = some (.lst vs) → Dats C F' H' ds vs → Q (.ref p) H'
def liftT (C : Cfg) (t : DT) : TT := fun σ H Q => ∃ (G : Gx) (F : Addr → Prop) (ρ : Sl) (n : Nat) (Qd : Bool → Nat → Prop), EnvOk C G F H σ ρ n ∧ t ρ n Qd ∧
  ∀ b m, Qd b m → ∀ H' F', EnvOk C G F' H' σ ρ m → Ext G F H F' H' → Q b H'
def ArgOk (C : Cfg) (G : Gx) (F O : Addr → Prop) (H : Hp) : Ent → V → Prop
  | .val d, v => Dat C F H d v
  | .own ds, v => ∃ a vs, v = .ref a ∧ O a ∧ H a = some (.lst vs) ∧ Dats C F H ds vs
  | .dic kvs, v => ∃ a es, v = .ref a ∧ O a ∧ Dic C H a es ∧ DKv C F H kvs es
  | .tape, v => ∃ t, G.tp = some t ∧ v = .ref t
def ArgsOk (C : Cfg) (G : Gx) (F O : Addr → Prop) (H : Hp) : List Ent → List V → Prop
  | [], vs => vs = []
  | e :: es, vs => ∃ v r, vs = v :: r ∧ ArgOk C G F O H e v ∧ ArgsOk C G F O H es r
def liftA (C : Cfg) (t : DA) : TA := fun σ H Q => ∃ (G : Gx) (F : Addr → Prop) (ρ : Sl) (n : Nat) (Qd : List Ent → Nat → Prop), EnvOk C G F H σ ρ n ∧ t ρ n Qd ∧
  ∀ es m, Qd es m → ∀ vs H' F', EnvOk C G F' H' σ ρ m → Ext G F H F' H' → ArgsOk C G F' (Own σ ρ) H' es vs → Q vs H'
/-- behind a return -/
structure RetOk (C : Cfg) (G : Gx) (F : Addr → Prop) (H : Hp) (d : D) (v : V) (n : Nat) : Prop where
  dat : Dat C F H d v
  live : ∀ a, F a → ∃ o, H a = some o
  keep : ∀ a o, G.H0 a = some o → G.tp ≠ some a → H a = some o
  fsub : ∀ a, F a → G.F0 a ∨ G.H0 a = none
  tape : ∀ t, G.tp = some t → TapeOk F H t n ∧ ¬ F t ∧ ∃ o, G.H0 t = some o
def liftS (C : Cfg) (t : DS) : TS := fun Dq σ H => ∃ (G : Gx) (F : Addr → Prop) (ρ : Sl) (n : Nat) (Dd : DEnds), EnvOk C G F H σ ρ n ∧ t Dd ρ n ∧
  (∀ ρ' m, Dd.nx ρ' m → ∀ σ' H' F', EnvOk C G F' H' σ' ρ' m → ExtS F H F' H' → Dq.nx σ' H') ∧
  (∀ d m, Dd.rt d m → ∀ v H' F', RetOk C G F' H' d v m → ExtS F H F' H' → Dq.rt v H') ∧
  (∀ ρ' m, Dd.bk ρ' m → ∀ σ' H' F', EnvOk C G F' H' σ' ρ' m → ExtS F H F' H' → Dq.bk σ' H') ∧
  (∀ ρ' m, Dd.ct ρ' m → ∀ σ' H' F', EnvOk C G F' H' σ' ρ' m → ExtS F H F' H' → Dq.ct σ' H')

abbrev RE (X : Cx) (e : Expr) (t : DE) : Prop := PE X e (liftE (cfg X) t)
abbrev RB (X : Cx) (e : Expr) (t : DE) : Prop := PE X e (liftB (cfg X) t)
abbrev RO (X : Cx) (e : Expr) (t : DO) : Prop := PE X e (liftO (cfg X) t)
abbrev RT (X : Cx) (e : Expr) (t : DT) : Prop := PT X e (liftT (cfg X) t)
abbrev RA (X : Cx) (es : List Expr) (t : DA) : Prop := PA X es (liftA (cfg X) t)
abbrev RS (X : Cx) (s : Stmt) (t : DS) : Prop := PS X s (liftS (cfg X) t)
abbrev RSs (X : Cx) (s : List Stmt) (t : DS) : Prop := PSs X s (liftS (cfg X) t)
end

theorem PE.imp {X : Cx} {e : Expr} {t u : TE} (h : PE X e t) (q : ∀ σ H Q, u σ H Q → t σ H Q) : PE X e u := ⟨fun pins s σ H Q I z => h.run pins s σ H Q I (q _ _ _ z)⟩
theorem PT.imp {X : Cx} {e : Expr} {t u : TT} (h : PT X e t) (q : ∀ σ H Q, u σ H Q → t σ H Q) : PT X e u := ⟨fun pins s σ H Q I z => h.run pins s σ H Q I (q _ _ _ z)⟩
theorem PA.imp {X : Cx} {e : List Expr} {t u : TA} (h : PA X e t) (q : ∀ σ H Q, u σ H Q → t σ H Q) : PA X e u := ⟨fun pos pins s σ H Q I z => h.run pos pins s σ H Q I (q _ _ _ z)⟩
theorem PS.imp {X : Cx} {e : Stmt} {t u : TS} (h : PS X e t) (q : ∀ Dq σ H, u Dq σ H → t Dq σ H) : PS X e u := ⟨fun pins s σ H Dq I z => h.run pins s σ H Dq I (q _ _ _ z)⟩
theorem PSs.imp {X : Cx} {e : List Stmt} {t u : TS} (h : PSs X e t) (q : ∀ Dq σ H, u Dq σ H → t Dq σ H) : PSs X e u := ⟨fun pins s σ H Dq I z => h.run pins s σ H Dq I (q _ _ _ z)⟩

section
variable {X : Cx} {a b c e : Expr} {pos : Pos}
theorem RE.toB {t : DE} (h : RE X e t) : RB X e t := PE.imp h fun σ H Q ⟨G, F, ρ, n, Qd, E, q, k⟩ => ⟨G, F, ρ, n, Qd, E, q, fun d m z v H' F' E' x y => k d m z v H' F' E' x (.inl y)⟩
/-- what is looked at and flat is a value of its own -/
def dFlat (t : DE) : DE := fun ρ n Q => t ρ n fun d m => flatD d = true ∧ Q d m
theorem RB.flat {t : DE} (h : RB X e t) : RE X e (dFlat t) := PE.imp h fun σ H Q ⟨G, F, ρ, n, Qd, E, q, k⟩ => ⟨G, F, ρ, n, _, E, q, fun d m z v H' F' E' x y => k d m z.2 v H' F' E' x (by
  rcases y with y | ⟨ds, a, vs, rfl, _⟩ | ⟨kvs, a, es, rfl, _⟩
  · exact y
  · simp [flatD] at z
  · simp [flatD] at z)⟩
/-- a fresh list as a value -/
def dList (t : DO) : DE := fun ρ n Q => t ρ n fun ds m => Q (.list ds) m
theorem EnvOk.freeze {C : Cfg} {G : Gx} {F : Addr → Prop} {H : Hp} {σ : L2.St} {ρ : Sl} {n : Nat} {p : Addr} (E : EnvOk C G F H σ ρ n) (ho : ¬ Own σ ρ p) (hp : G.H0 p = none) (ht : G.tp ≠ some p) (hl : ∃ o, H p = some o) : EnvOk C G (fun a => F a ∨ a = p) H σ ρ n where
  len := E.len
  slot := fun i e h => by
    obtain ⟨v, q, r⟩ := E.slot i e h
    refine ⟨v, q, ?_⟩
    cases e with
    | val d => exact Dat.mono .refl (fun _ z => .inl z) d v r
    | own ds =>
      obtain ⟨a, vs, rfl, f, h0, ht, q1, r1⟩ := r
      refine ⟨a, vs, rfl, fun z => z.elim f fun z => ho ?_, h0, ht, q1, Dats.mono .refl (fun _ z => .inl z) ds vs r1⟩
      exact ⟨i, _, h, trivial, by rw [← z]; exact q⟩
    | dic kvs =>
      obtain ⟨a, es, rfl, f, h0, ht, q1, r1⟩ := r
      refine ⟨a, es, rfl, fun z => z.elim f fun z => ho ?_, h0, ht, q1, DKv.mono .refl (fun _ z => .inl z) kvs es r1⟩
      exact ⟨i, _, h, trivial, by rw [← z]; exact q⟩
    | tape => exact r
  apart := E.apart
  keep := E.keep
  live := fun a z => z.elim (E.live a) fun z => by rw [z]; exact hl
  fsub := fun a z => z.elim (E.fsub a) fun z => .inr (by rw [z]; exact hp)
  tape := fun t h => by
    obtain ⟨h1, h2, h3⟩ := E.tape t h
    exact ⟨h1.mono (fun _ e => e) .refl (fun _ z => .inl z) (Nat.le_refl _), fun z => z.elim h2 fun z => ht (by rw [← z]; exact h), h3⟩
theorem EnvOk.own_some {C : Cfg} {G : Gx} {F : Addr → Prop} {H : Hp} {σ : L2.St} {ρ : Sl} {n : Nat} {p : Addr} (E : EnvOk C G F H σ ρ n) (ho : Own σ ρ p) : (∃ o, H p = some o) ∧ ¬ F p ∧ G.H0 p = none ∧ G.tp ≠ some p := by
  obtain ⟨i, e, h1, h2, h3⟩ := ho
  obtain ⟨v, q, r⟩ := E.slot i e h1
  rw [h3] at q
  cases q
  cases e with
  | val d => exact h2.elim
  | own ds =>
    obtain ⟨a, vs, e1, f, h0, ht, q1, r1⟩ := r
    cases e1
    exact ⟨⟨_, q1⟩, f, h0, ht⟩
  | dic kvs =>
    obtain ⟨a, es, e1, f, h0, ht, ⟨ks, q1, _⟩, r1⟩ := r
    cases e1
    exact ⟨⟨_, q1⟩, f, h0, ht⟩
  | tape => exact h2.elim
theorem EnvOk.none0 {C : Cfg} {G : Gx} {F : Addr → Prop} {H : Hp} {σ : L2.St} {ρ : Sl} {n : Nat} {p : Addr} (E : EnvOk C G F H σ ρ n) (h : H p = none) : G.H0 p = none ∧ G.tp ≠ some p := by
  have ht : G.tp ≠ some p := fun z => by
    obtain ⟨o, q⟩ := E.tp_some z
    rw [h] at q; cases q
  refine ⟨?_, ht⟩
  cases e : G.H0 p with
  | none => rfl
  | some o => rw [E.keep p o e ht] at h; cases h
theorem RO.toE {t : DO} (h : RO X e t) : RE X e (dList t) := PE.imp h fun σ H Q ⟨G, F, ρ, n, Qd, E, q, k⟩ => ⟨G, F, ρ, n, _, E, q, fun ds m z p vs H' F' E' x hp fp q1 r1 => by
  have ho : ¬ Own σ ρ p := fun ho => by
    obtain ⟨⟨o, z⟩, _⟩ := E.own_some ho
    rw [hp] at z; cases z
  obtain ⟨h0, ht⟩ := E.none0 hp
  refine k (.list ds) m z (.ref p) H' (fun a => F' a ∨ a = p) (E'.freeze ho h0 ht ⟨_, q1⟩) ⟨fun a f => .inl (x.sub a f), fun a f => f.elim (x.new a) fun z => .inr (by rw [z]; exact hp), x.keep, x.kp⟩ ?_
  simp only [Dat]
  exact ⟨p, vs, rfl, .inr rfl, q1, Dats.mono .refl (fun _ z => .inl z) ds vs r1⟩⟩
end
end DL

namespace DL
open PySem L2

section
variable {C : Cfg} {G : Gx} {F F' F1 F2 : Addr → Prop} {H H' H1 H2 : Hp} {σ : L2.St} {ρ : Sl} {n m : Nat}
theorem DatB.mono (E : EnvOk C G F H σ ρ n) (x : Ext G F H F' H') {d : D} {v : V} (h : DatB C F (Own σ ρ) H d v) : DatB C F' (Own σ ρ) H' d v := by
  rcases h with h | ⟨ds, a, vs, e, e2, o, q, r⟩ | ⟨kvs, a, es, e, e2, o, ⟨ks, q, q2⟩, r⟩
  · exact .inl (Dat.mono x.kp x.sub d v h)
  · obtain ⟨_, f, h0, ht⟩ := E.own_some o
    exact .inr (.inl ⟨ds, a, vs, e, e2, o, x.keep _ _ q ht, Dats.mono x.kp x.sub ds vs r⟩)
  · obtain ⟨_, f, h0, ht⟩ := E.own_some o
    exact .inr (.inr ⟨kvs, a, es, e, e2, o, ⟨ks, x.keep _ _ q ht, q2⟩, DKv.mono x.kp x.sub kvs es r⟩)
theorem DatB.list {O : Addr → Prop} {ds : List D} {v : V} (h : DatB C F O H (.list ds) v) : ∃ a vs, v = .ref a ∧ (F a ∨ O a) ∧ H a = some (.lst vs) ∧ Dats C F H ds vs := by
  rcases h with h | ⟨ds', a, vs, e, e2, o, q, r⟩ | ⟨kvs, a, es, e, _⟩
  · simp only [Dat] at h
    obtain ⟨a, vs, e, f, q, r⟩ := h
    exact ⟨a, vs, e, .inl f, q, r⟩
  · cases e
    exact ⟨a, vs, e2, .inr o, q, r⟩
  · cases e
theorem DatB.dict {O : Addr → Prop} {kvs : List (D × D)} {v : V} (h : DatB C F O H (.dict kvs) v) : ∃ a es, v = .ref a ∧ (F a ∨ O a) ∧ Dic C H a es ∧ DKv C F H kvs es := by
  rcases h with h | ⟨ds', a, vs, e, e2, o, q, r⟩ | ⟨kvs', a, es, e, e2, o, q, r⟩
  · simp only [Dat] at h
    obtain ⟨a, vs, e, f, q, r⟩ := h
    exact ⟨a, vs, e, .inl f, q, r⟩
  · cases e
  · cases e
    exact ⟨a, es, e2, .inr o, q, r⟩
theorem DatB.dat {O : Addr → Prop} {d : D} {v : V} (h : DatB C F O H d v) (h1 : ∀ ds, d ≠ .list ds) (h2 : ∀ ds, d ≠ .dict ds) : Dat C F H d v := by
  rcases h with h | ⟨ds', a, vs, e, e2, o, q, r⟩ | ⟨kvs', a, es, e, e2, o, q, r⟩
  · exact h
  · exact absurd e (h1 _)
  · exact absurd e (h2 _)
theorem DatB.tuple {O : Addr → Prop} {ds : List D} {v : V} (h : DatB C F O H (.tuple ds) v) : ∃ a vs, v = .ref a ∧ SqT C.K H a vs ∧ Dats C F H ds vs := by
  have q := h.dat (fun _ z => by cases z) (fun _ z => by cases z)
  simpa only [Dat] using q
theorem DatB.int {O : Addr → Prop} {i : Int} {v : V} (h : DatB C F O H (.int i) v) : v = .int i := by
  have q := h.dat (fun _ z => by cases z) (fun _ z => by cases z)
  simpa only [Dat] using q
theorem DatB.str {O : Addr → Prop} {i : Str} {v : V} (h : DatB C F O H (.str i) v) : v = .str i := by
  have q := h.dat (fun _ z => by cases z) (fun _ z => by cases z)
  simpa only [Dat] using q
theorem DatB.bool {O : Addr → Prop} {i : Bool} {v : V} (h : DatB C F O H (.bool i) v) : v = .bl i := by
  have q := h.dat (fun _ z => by cases z) (fun _ z => by cases z)
  simpa only [Dat] using q
theorem DatB.none {O : Addr → Prop} {v : V} (h : DatB C F O H .none v) : v = .non := by
  have q := h.dat (fun _ z => by cases z) (fun _ z => by cases z)
  simpa only [Dat] using q
theorem DatB.dp {O : Addr → Prop} {d : D} {v : V} (hn : noDict d = true) (h : DatB C F O H d v) : Dp C.K H v d := by
  rcases h with h | ⟨ds', a, vs, rfl, rfl, o, q, r⟩ | ⟨kvs', a, es, rfl, e2, o, q, r⟩
  · exact Dat.dp d v hn h
  · exact .lst (SqL.of q) (Dats.dp ds' vs (by simpa only [noDict] using hn) r)
  · simp [noDict] at hn
mutual
theorem noDict_of : ∀ d : D, d.canLay0 = true → noDict d = true
  | .none, _ => rfl
  | .bool b, _ => rfl
  | .int i, _ => rfl
  | .str x, _ => rfl
  | .list ds, h => by
    simp only [noDict]
    exact noDicts_of ds (by simpa [PyData.canLay0] using h)
  | .tuple ds, h => by
    simp only [noDict]
    exact noDicts_of ds (by simpa [PyData.canLay0] using h)
  | .dict kvs, h => by simp [PyData.canLay0] at h
theorem noDicts_of : ∀ ds : List D, PyData.canLayAll0 ds = true → noDicts ds = true
  | [], _ => rfl
  | d :: ds, h => by
    simp only [PyData.canLayAll0, Bool.and_eq_true] at h
    simp only [noDicts, noDict_of d h.1, noDicts_of ds h.2, Bool.and_self]
end
theorem noDict_shaped {d : D} (h : SeqAt.shaped d = true) : noDict d = true := noDict_of d (SeqAt.canLay_of_shaped h)
end

/-! ### names and constants -/
def dVar (i : Nat) : DE := fun ρ n Q => match ρ[i]? with
  | some (some (.val d)) => Q d n
  | _ => False
def dVarB (i : Nat) : DE := fun ρ n Q => match ρ[i]? with
  | some (some (.val d)) => Q d n
  | some (some (.own ds)) => Q (.list ds) n
  | some (some (.dic kvs)) => Q (.dict kvs) n
  | _ => False
def dC (d : D) : DE := fun _ n Q => Q d n
section
variable {X : Cx} {a b c e : Expr} {pos : Pos}
theorem re_var {i : Nat} {x : Str} (h : PE X (.Name x pos) (tVar i)) : RE X (.Name x pos) (dVar i) := PE.imp h fun σ H Q ⟨G, F, ρ, n, Qd, E, q, k⟩ => by
  unfold dVar at q
  split at q
  · rename_i d e
    obtain ⟨v, h1, h2⟩ := E.slot i _ e
    exact ⟨v, h1, k d n q v H F E .refl h2⟩
  · exact q.elim
theorem rb_var {i : Nat} {x : Str} (h : PE X (.Name x pos) (tVar i)) : RB X (.Name x pos) (dVarB i) := PE.imp h fun σ H Q ⟨G, F, ρ, n, Qd, E, q, k⟩ => by
  unfold dVarB at q
  split at q
  · rename_i d e
    obtain ⟨v, h1, h2⟩ := E.slot i _ e
    exact ⟨v, h1, k d n q v H F E .refl (.inl h2)⟩
  · rename_i ds e
    obtain ⟨v, h1, a, vs, rfl, f, h0, ht, h2, r⟩ := E.slot i _ e
    exact ⟨_, h1, k (.list ds) n q _ H F E .refl (.inr (.inl ⟨ds, a, vs, rfl, rfl, ⟨i, _, e, trivial, h1⟩, h2, r⟩))⟩
  · rename_i ds e
    obtain ⟨v, h1, a, vs, rfl, f, h0, ht, h2, r⟩ := E.slot i _ e
    exact ⟨_, h1, k (.dict ds) n q _ H F E .refl (.inr (.inr ⟨ds, a, vs, rfl, rfl, ⟨i, _, e, trivial, h1⟩, h2, r⟩))⟩
  · exact q.elim
theorem re_int {i j} : RE X (.Constant (.int i) j pos) (dC (.int i)) := PE.imp pe_int fun σ H Q ⟨G, F, ρ, n, Qd, E, q, k⟩ => k _ n q _ H F E .refl (by simp only [Dat])
theorem re_bl {i j} : RE X (.Constant (.bool i) j pos) (dC (.bool i)) := PE.imp pe_bl fun σ H Q ⟨G, F, ρ, n, Qd, E, q, k⟩ => k _ n q _ H F E .refl (by simp only [Dat])
theorem re_str {i j} : RE X (.Constant (.str i) j pos) (dC (.str i)) := PE.imp pe_str fun σ H Q ⟨G, F, ρ, n, Qd, E, q, k⟩ => k _ n q _ H F E .refl (by simp only [Dat])
theorem re_non {j} : RE X (.Constant .none j pos) (dC .none) := PE.imp pe_non fun σ H Q ⟨G, F, ρ, n, Qd, E, q, k⟩ => k _ n q _ H F E .refl (by simp only [Dat])
/-- a constant of the module that stands in the written part, any data without lists -/
theorem re_glob {x : Str} {d : D} {v : V} (h : PE X (.Name x pos) (tC v)) (hd : ∀ (F : Addr → Prop) (H : Hp), Dat (cfg X) F H d v) : RE X (.Name x pos) (dC d) :=
  PE.imp h fun σ H Q ⟨G, F, ρ, n, Qd, E, q, k⟩ => k _ n q _ H F E .refl (hd F H)

/-! ### operators -/
def Live (F : Addr → Prop) (H : Hp) : Prop := ∀ a, F a → ∃ o, H a = some o
abbrev G2 := D → D → (D → Prop) → Prop
def OpD (C : Cfg) (r : R2) (g : G2) : Prop := ∀ (F O : Addr → Prop) (H : Hp) (x y : V) (dx dy : D) (Qd : D → Prop) (Q : VK), Live F H → DatB C F O H dx x → DatB C F O H dy y → g dx dy Qd →
  (∀ d, Qd d → ∀ v H' F', Grow F H F' H' → Dat C F' H' d v → Q v H') → r x y H Q
/-- a fresh list comes -/
def OpDO (C : Cfg) (r : R2) (g : D → D → (List D → Prop) → Prop) : Prop := ∀ (F O : Addr → Prop) (H : Hp) (x y : V) (dx dy : D) (Qd : List D → Prop) (Q : VK), Live F H → DatB C F O H dx x → DatB C F O H dy y → g dx dy Qd →
  (∀ ds, Qd ds → ∀ p vs H' F', Grow F H F' H' → H p = none → ¬ F' p → H' p = some (.lst vs) → Dats C F' H' ds vs → Q (.ref p) H') → r x y H Q
def dOp (g : G2) (ta tb : DE) : DE := fun ρ n Q => ta ρ n fun x n1 => tb ρ n1 fun y n2 => g x y fun z => Q z n2
def dOpO (g : D → D → (List D → Prop) → Prop) (ta tb : DE) : DO := fun ρ n Q => ta ρ n fun x n1 => tb ρ n1 fun y n2 => g x y fun z => Q z n2
theorem re_bin {r : R2} {g : G2} {ta tb : DE} (hd : OpD (cfg X) r g) (hpe : ∀ {ta tb : TE}, PE X a ta → PE X b tb → PE X e (tOp r ta tb)) (ha : RB X a ta) (hb : RB X b tb) : RE X e (dOp g ta tb) :=
  PE.imp (hpe ha hb) fun σ H Q ⟨G, F, ρ, n, Qd, E, q, k⟩ => ⟨G, F, ρ, n, _, E, q, fun x n1 q1 v H1 F1 E1 x1 dv => ⟨G, F1, ρ, n1, _, E1, q1, fun y n2 q2 u H2 F2 E2 x2 du =>
    hd F2 (Own σ ρ) H2 v u x y _ Q E2.live (dv.mono E1 x2) du q2 fun z hz w H3 F3 g3 dw => k z n2 hz w H3 F3 (E2.grow g3) ((x1.trans x2 E E1).grow g3 E E2) dw⟩⟩
theorem ro_bin {r : R2} {g : D → D → (List D → Prop) → Prop} {ta tb : DE} (hd : OpDO (cfg X) r g) (hpe : ∀ {ta tb : TE}, PE X a ta → PE X b tb → PE X e (tOp r ta tb)) (ha : RB X a ta) (hb : RB X b tb) : RO X e (dOpO g ta tb) :=
  PE.imp (hpe ha hb) fun σ H Q ⟨G, F, ρ, n, Qd, E, q, k⟩ => ⟨G, F, ρ, n, _, E, q, fun x n1 q1 v H1 F1 E1 x1 dv => ⟨G, F1, ρ, n1, _, E1, q1, fun y n2 q2 u H2 F2 E2 x2 du =>
    hd F2 (Own σ ρ) H2 v u x y _ Q E2.live (dv.mono E1 x2) du q2 fun ds hz p vs H3 F3 g3 hp hf h3 dw => by
      refine k ds n2 hz p vs H3 F3 (E2.grow g3) ((x1.trans x2 E E1).grow g3 E E2) ?_ hf h3 dw
      exact (x1.trans x2 E E1).none_of E (fun t ht => E2.tp_some ht) hp⟩⟩
/-- an operator by what the value-level rule asks -/
theorem re_op {op : Operator} {r : R2} {g : G2} {ta tb : DE} (ho : OpR X (binaryOp op) r) (hd : OpD (cfg X) r g) (ha : RB X a ta) (hb : RB X b tb) : RE X (.BinOp a op b pos) (dOp g ta tb) := re_bin hd (fun ha hb => pe_op ho ha hb) ha hb
theorem ro_op {op : Operator} {r : R2} {g : D → D → (List D → Prop) → Prop} {ta tb : DE} (ho : OpR X (binaryOp op) r) (hd : OpDO (cfg X) r g) (ha : RB X a ta) (hb : RB X b tb) : RO X (.BinOp a op b pos) (dOpO g ta tb) := ro_bin hd (fun ha hb => pe_op ho ha hb) ha hb
theorem re_cmp {op : CmpOp} {r : R2} {g : G2} {ta tb : DE} (ho : OpR X (compareOp op) r) (hd : OpD (cfg X) r g) (ha : RB X a ta) (hb : RB X b tb) (hm : behindInMarks op b = false := by first | exact nomark _ | rfl) : RE X (.Compare a [op] [b] pos) (dOp g ta tb) := re_bin hd (fun ha hb => pe_cmpR ho ha hb hm) ha hb

theorem opR_or {f : Value → Value → Sem Value} {r r' : R2} (h : OpR X f r) (h' : OpR X f r') : OpR X f (fun x y H Q => r x y H Q ∨ r' x y H Q) := by
  intro pins s σ H x y v u Q I rx ry q
  rcases q with q | q
  · exact h pins s σ H x y v u Q I rx ry q
  · exact h' pins s σ H x y v u Q I rx ry q
theorem grow_tup {F : Addr → Prop} {H : Hp} {p : Addr} {o : HO} (hp : H p = none) : Grow F H F (upd H p o) := ⟨fun _ h => h, fun _ h => .inl h, fun a u e => by rw [upd_ne (ne_of_none e hp)]; exact e⟩


/-- + -/
def gAdd : G2
  | .int i, .int j, Q => Q (.int (i + j))
  | .str x, .str y, Q => x.length + y.length ≤ sizeLine ∧ Q (.str (x ++ y))
  | .tuple x, .tuple y, Q => x.length + y.length ≤ sizeLine ∧ Q (.tuple (x ++ y))
  | _, _, _ => False
def rAddD (K : PySem.W.Frag) : R2 := fun x y H Q => rI0 (fun i j => .int (i + j)) x y H Q ∨ (∃ i j, x = .str i ∧ y = .str j ∧ i.length + j.length ≤ sizeLine ∧ Q (.str (i ++ j)) H) ∨ rCatA K x y H Q
theorem op_addD : OpR X (binaryOp .Add) (rAddD X.K) := opR_or op_add (opR_or op_add_str op_catA)
theorem Dats.nil_iff {C : Cfg} {F : Addr → Prop} {H : Hp} {ds : List D} {vs : List V} (h : Dats C F H ds vs) : vs = [] ↔ ds = [] := by
  have l := h.len
  constructor
  · intro e; rw [e] at l; exact List.eq_nil_of_length_eq_zero l.symm
  · intro e; rw [e] at l; exact List.eq_nil_of_length_eq_zero l
theorem od_add {C : Cfg} : OpD C (rAddD C.K) gAdd := by
  intro F O H x y dx dy Qd Q hF hx hy q k
  unfold gAdd at q
  split at q
  · exact .inl ⟨_, _, hx.int, hy.int, k _ q _ H F .refl (by simp only [Dat])⟩
  · exact .inr (.inl ⟨_, _, hx.str, hy.str, q.1, k _ q.2 _ H F .refl (by simp only [Dat])⟩)
  · obtain ⟨a, vs, rfl, h1, r1⟩ := hx.tuple
    obtain ⟨b, us, rfl, h2, r2⟩ := hy.tuple
    refine .inr (.inr ⟨a, b, vs, us, rfl, rfl, h1, h2, by rw [r1.len, r2.len]; exact q.1, fun e => ?_, fun _ e => ?_, fun _ _ p hp => ?_⟩)
    · have e' := r1.nil_iff.mp e
      refine k _ q.2 _ H F .refl ?_
      rw [e', List.nil_append]
      simp only [Dat]
      exact ⟨b, us, rfl, h2, r2⟩
    · have e' := r2.nil_iff.mp e
      refine k _ q.2 _ H F .refl ?_
      rw [e', List.append_nil]
      simp only [Dat]
      exact ⟨a, vs, rfl, h1, r1⟩
    · have g : Grow F H F (upd H p (.tup (vs ++ us))) := grow_tup hp
      refine k _ q.2 _ _ F g ?_
      simp only [Dat]
      exact ⟨p, _, rfl, .inl (.inl upd_same), (Dats.mono g.kp g.sub _ _ r1).append (Dats.mono g.kp g.sub _ _ r2)⟩
  · exact q.elim
theorem re_add {ta tb : DE} (ha : RB X a ta) (hb : RB X b tb) : RE X (.BinOp a .Add b pos) (dOp gAdd ta tb) := re_op op_addD od_add ha hb
/-- a fresh list laid at p -/
theorem grow_lst {F : Addr → Prop} {H : Hp} {p : Addr} {o : HO} (hp : H p = none) (hF : Live F H) : Grow F H F (upd H p o) ∧ ¬ F p := ⟨grow_tup hp, fun z => by
  obtain ⟨o, e⟩ := hF p z
  rw [hp] at e; cases e⟩
/-- + of lists -/
def gCat : D → D → (List D → Prop) → Prop
  | .list x, .list y, Q => x.length + y.length ≤ sizeLine ∧ Q (x ++ y)
  | _, _, _ => False
theorem od_cat {C : Cfg} : OpDO C rCat gCat := by
  intro F O H x y dx dy Qd Q hF hx hy q k
  unfold gCat at q
  split at q
  · obtain ⟨a, vs, rfl, _, h1, r1⟩ := hx.list
    obtain ⟨b, us, rfl, _, h2, r2⟩ := hy.list
    refine ⟨a, b, vs, us, rfl, rfl, h1, h2, by rw [r1.len, r2.len]; exact q.1, fun p hp => ?_⟩
    obtain ⟨g, nf⟩ := grow_lst (o := .lst (vs ++ us)) hp hF
    exact k _ q.2 p _ _ F g hp nf upd_same ((Dats.mono g.kp g.sub _ _ r1).append (Dats.mono g.kp g.sub _ _ r2))
  · exact q.elim
theorem ro_cat {ta tb : DE} (ha : RB X a ta) (hb : RB X b tb) : RO X (.BinOp a .Add b pos) (dOpO gCat ta tb) := ro_op op_cat od_cat ha hb
/-- list * int -/
def gRep : D → D → (List D → Prop) → Prop
  | .list x, .int k, Q => -(2 ^ 63) ≤ k ∧ k < 2 ^ 63 ∧ x.length * k.toNat ≤ sizeLine ∧ Q (List.replicate k.toNat x).flatten
  | _, _, _ => False
theorem Dats.flat_rep {C : Cfg} {F : Addr → Prop} {H : Hp} {ds : List D} {vs : List V} (h : Dats C F H ds vs) : ∀ n : Nat, Dats C F H (List.replicate n ds).flatten (List.replicate n vs).flatten
  | 0 => by simp [Dats]
  | n + 1 => by
    rw [List.replicate_succ, List.replicate_succ, List.flatten_cons, List.flatten_cons]
    exact h.append (Dats.flat_rep h n)
theorem od_rep {C : Cfg} : OpDO C rRep gRep := by
  intro F O H x y dx dy Qd Q hF hx hy q k
  unfold gRep at q
  split at q
  · obtain ⟨a, vs, rfl, _, h1, r1⟩ := hx.list
    have e := hy.int
    refine ⟨a, _, vs, rfl, e, h1, q.1, q.2.1, by rw [r1.len]; exact q.2.2.1, fun p hp => ?_⟩
    obtain ⟨g, nf⟩ := grow_lst (o := .lst (List.replicate _ vs).flatten) hp hF
    exact k _ q.2.2.2 p _ _ F g hp nf upd_same ((Dats.mono g.kp g.sub _ _ r1).flat_rep _)
  · exact q.elim
theorem ro_rep {ta tb : DE} (ha : RB X a ta) (hb : RB X b tb) : RO X (.BinOp a .Mult b pos) (dOpO gRep ta tb) := ro_op op_rep od_rep ha hb
/-- operators of two ints -/
def gInt (c : Int → Int → Prop) (f : Int → Int → Int) : G2
  | .int i, .int j, Q => c i j ∧ Q (.int (f i j))
  | _, _, _ => False
theorem od_int {C : Cfg} {c : Int → Int → Prop} {f : Int → Int → Int} : OpD C (rI c fun i j => .int (f i j)) (gInt c f) := by
  intro F O H x y dx dy Qd Q hF hx hy q k
  unfold gInt at q
  split at q
  · exact ⟨_, _, hx.int, hy.int, q.1, k _ q.2 _ H F .refl (by simp only [Dat])⟩
  · exact q.elim
def gSb : G2
  | .int i, .int j, Q => Q (.int (i - j))
  | _, _, _ => False
theorem od_sub {C : Cfg} : OpD C (rI0 fun i j => .int (i - j)) gSb := by
  intro F O H x y dx dy Qd Q hF hx hy q k
  unfold gSb at q
  split at q
  · exact ⟨_, _, hx.int, hy.int, k _ q _ H F .refl (by simp only [Dat])⟩
  · exact q.elim
theorem re_sub {ta tb : DE} (ha : RB X a ta) (hb : RB X b tb) : RE X (.BinOp a .Sub b pos) (dOp gSb ta tb) := re_op op_sub od_sub ha hb
def gMul : G2 := gInt CMul (· * ·)
theorem re_mul {ta tb : DE} (ha : RB X a ta) (hb : RB X b tb) : RE X (.BinOp a .Mult b pos) (dOp gMul ta tb) := re_op op_mul od_int ha hb
def gMod : G2 := gInt (fun _ j => 0 < j) (· % ·)
theorem re_mod {ta tb : DE} (ha : RB X a ta) (hb : RB X b tb) : RE X (.BinOp a .Mod b pos) (dOp gMod ta tb) := re_op op_mod od_int ha hb
def gDiv : G2 := gInt CDiv (· / ·)
theorem re_div {ta tb : DE} (ha : RB X a ta) (hb : RB X b tb) : RE X (.BinOp a .FloorDiv b pos) (dOp gDiv ta tb) := re_op op_fdiv od_int ha hb
def gPow : G2 := gInt CPow fun i j => i ^ j.toNat
theorem re_pow {ta tb : DE} (ha : RB X a ta) (hb : RB X b tb) : RE X (.BinOp a .Pow b pos) (dOp gPow ta tb) := re_op op_pow od_int ha hb

/-! ### comparisons -/
def sameK : D → D → Bool
  | .int _, .int _ => true
  | .str _, .str _ => true
  | .bool _, .bool _ => true
  | .none, .none => true
  | _, _ => false
def gEq (f : Bool → Bool) : G2 := fun x y Q => (sameK x y = true ∨ (SeqAt.shaped x = true ∧ SeqAt.shaped y = true)) ∧ Q (.bool (f (PyData.eqv x y)))
def rEqX (K : PySem.W.Frag) : R2 := fun x y H Q => rEq x y H Q ∨ rEqD K x y H Q
def rNeX (K : PySem.W.Frag) : R2 := fun x y H Q => rNe x y H Q ∨ rNeD K x y H Q
theorem beq_decide {α : Type} [BEq α] [LawfulBEq α] [DecidableEq α] (x y : α) : (x == y) = decide (x = y) := by
  rw [Bool.eq_iff_iff]; simp
theorem sameK_eq {C : Cfg} {F O : Addr → Prop} {H : Hp} {x y : V} {dx dy : D} (s : sameK dx dy = true) (hx : DatB C F O H dx x) (hy : DatB C F O H dy y) : scal x y = true ∧ decide (x = y) = PyData.eqv dx dy := by
  unfold sameK at s
  split at s
  · rw [hx.int, hy.int]
    exact ⟨rfl, by simp [PyData.eqv, beq_decide]⟩
  · rw [hx.str, hy.str]
    exact ⟨rfl, by simp [PyData.eqv, beq_decide]⟩
  · rw [hx.bool, hy.bool]
    exact ⟨rfl, by simp [PyData.eqv, beq_decide]⟩
  · rw [hx.none, hy.none]
    exact ⟨rfl, by simp [PyData.eqv]⟩
  · cases s
theorem od_eq {C : Cfg} : OpD C (rEqX C.K) (gEq id) := by
  intro F O H x y dx dy Qd Q hF hx hy q k
  obtain ⟨s | ⟨s1, s2⟩, q⟩ := q
  · obtain ⟨h1, h2⟩ := sameK_eq s hx hy
    refine .inl ⟨h1, ?_⟩
    rw [h2]
    exact k _ q _ H F .refl (by simp only [Dat]; rfl)
  · exact .inr ⟨dx, dy, hx.dp (noDict_shaped s1), hy.dp (noDict_shaped s2), s1, s2, k _ q _ H F .refl (by simp only [Dat]; rfl)⟩
theorem od_ne {C : Cfg} : OpD C (rNeX C.K) (gEq not) := by
  intro F O H x y dx dy Qd Q hF hx hy q k
  obtain ⟨s | ⟨s1, s2⟩, q⟩ := q
  · obtain ⟨h1, h2⟩ := sameK_eq s hx hy
    refine .inl ⟨h1, ?_⟩
    rw [h2]
    exact k _ q _ H F .refl (by simp only [Dat])
  · exact .inr ⟨dx, dy, hx.dp (noDict_shaped s1), hy.dp (noDict_shaped s2), s1, s2, k _ q _ H F .refl (by simp only [Dat])⟩
theorem re_eq {ta tb : DE} (hu : X.A.units + 64 < cLine) (ha : RB X a ta) (hb : RB X b tb) : RE X (.Compare a [.Eq] [b] pos) (dOp (gEq id) ta tb) := re_cmp (opR_or op_eq (op_eqD hu)) od_eq ha hb
theorem re_ne {ta tb : DE} (hu : X.A.units + 64 < cLine) (ha : RB X a ta) (hb : RB X b tb) : RE X (.Compare a [.NotEq] [b] pos) (dOp (gEq not) ta tb) := re_cmp (opR_or op_ne (op_neD hu)) od_ne ha hb
def gCmp (f : Int → Int → Bool) : G2
  | .int i, .int j, Q => Q (.bool (f i j))
  | _, _, _ => False
theorem od_cmp {C : Cfg} {f : Int → Int → Bool} : OpD C (rI0 fun i j => .bl (f i j)) (gCmp f) := by
  intro F O H x y dx dy Qd Q hF hx hy q k
  unfold gCmp at q
  split at q
  · exact ⟨_, _, hx.int, hy.int, k _ q _ H F .refl (by simp only [Dat])⟩
  · exact q.elim
theorem re_lt {ta tb : DE} (ha : RB X a ta) (hb : RB X b tb) : RE X (.Compare a [.Lt] [b] pos) (dOp (gCmp fun i j => decide (i < j)) ta tb) := re_cmp op_lt od_cmp ha hb
theorem re_le {ta tb : DE} (ha : RB X a ta) (hb : RB X b tb) : RE X (.Compare a [.LtE] [b] pos) (dOp (gCmp fun i j => decide (i ≤ j)) ta tb) := re_cmp op_le od_cmp ha hb
theorem re_gt {ta tb : DE} (ha : RB X a ta) (hb : RB X b tb) : RE X (.Compare a [.Gt] [b] pos) (dOp (gCmp fun i j => decide (j < i)) ta tb) := re_cmp op_gt od_cmp ha hb
theorem re_ge {ta tb : DE} (ha : RB X a ta) (hb : RB X b tb) : RE X (.Compare a [.GtE] [b] pos) (dOp (gCmp fun i j => decide (j ≤ i)) ta tb) := re_cmp op_ge od_cmp ha hb
/-- is None -/
def isNoneD : D → Bool
  | .none => true
  | _ => false
def gIsN (f : Bool → Bool) : G2 := fun x y Q => y = .none ∧ Q (.bool (f (isNoneD x)))
theorem DatB.non_iff {C : Cfg} {F O : Addr → Prop} {H : Hp} {x : V} {dx : D} (h : DatB C F O H dx x) : decide (x = .non) = isNoneD dx := by
  cases dx with
  | none => rw [h.none]; rfl
  | bool b => rw [h.bool]; rfl
  | int b => rw [h.int]; rfl
  | str b => rw [h.str]; rfl
  | list b => obtain ⟨a, vs, e, _⟩ := h.list; rw [e]; rfl
  | tuple b => obtain ⟨a, vs, e, _⟩ := h.tuple; rw [e]; rfl
  | dict b => obtain ⟨a, vs, e, _⟩ := h.dict; rw [e]; rfl
theorem od_isN {C : Cfg} : OpD C (fun x y H Q => y = .non ∧ Q (.bl (decide (x = .non))) H) (gIsN id) := by
  intro F O H x y dx dy Qd Q hF hx hy q k
  obtain ⟨rfl, q⟩ := q
  refine ⟨hy.none, ?_⟩
  rw [hx.non_iff]
  exact k _ q _ H F .refl (by simp only [Dat]; rfl)
theorem od_notN {C : Cfg} : OpD C (fun x y H Q => y = .non ∧ Q (.bl (!decide (x = .non))) H) (gIsN not) := by
  intro F O H x y dx dy Qd Q hF hx hy q k
  obtain ⟨rfl, q⟩ := q
  refine ⟨hy.none, ?_⟩
  rw [hx.non_iff]
  exact k _ q _ H F .refl (by simp only [Dat])
theorem re_isN {ta tb : DE} (ha : RB X a ta) (hb : RB X b tb) : RE X (.Compare a [.Is] [b] pos) (dOp (gIsN id) ta tb) := re_cmp op_isN od_isN ha hb
theorem re_notN {ta tb : DE} (ha : RB X a ta) (hb : RB X b tb) : RE X (.Compare a [.IsNot] [b] pos) (dOp (gIsN not) ta tb) := re_cmp op_notN od_notN ha hb

/-! ### in -/
def scalD : D → Bool
  | .none | .bool _ | .int _ | .str _ => true
  | _ => false
theorem scal_flat {C : Cfg} {F O : Addr → Prop} {H : Hp} {x : V} {d : D} (s : scalD d = true) (h : DatB C F O H d x) : flatV x = true := by
  cases d with
  | none => rw [h.none]; rfl
  | bool b => rw [h.bool]; rfl
  | int b => rw [h.int]; rfl
  | str b => rw [h.str]; rfl
  | _ => cases s
theorem scal_eqV {C : Cfg} {F O F' O' : Addr → Prop} {H H' : Hp} {x y : V} {d e : D} (s : scalD d = true) (h : DatB C F O H d x) (s2 : scalD e = true) (h2 : DatB C F' O' H' e y) : eqV x y = PyData.eqv d e := by
  cases d <;> cases e <;> first
    | (cases s; done)
    | (cases s2; done)
    | (first | rw [h.none] | rw [h.bool] | rw [h.int] | rw [h.str]) <;> (first | rw [h2.none] | rw [h2.bool] | rw [h2.int] | rw [h2.str]) <;> simp [eqV, PyData.eqv]
theorem dats_flat {C : Cfg} {F : Addr → Prop} {H : Hp} {x : V} {d : D} {O : Addr → Prop} (s : scalD d = true) (h : DatB C F O H d x) : ∀ {ds : List D} {vs : List V}, ds.all scalD = true → Dats C F H ds vs → vs.all flatV = true ∧ inV x vs = ds.any fun z => PyData.eqv z d
  | [], vs, _, r => by simp only [Dats] at r; subst r; exact ⟨rfl, rfl⟩
  | z :: ds, vs, a, r => by
    simp only [Dats] at r
    obtain ⟨v, q, rfl, r1, r2⟩ := r
    rw [List.all_cons, Bool.and_eq_true] at a
    obtain ⟨i1, i2⟩ := dats_flat s h a.2 r2
    refine ⟨by rw [List.all_cons, scal_flat (O := O) a.1 (.inl r1), i1]; rfl, ?_⟩
    show (eqV v x || q.any fun y => eqV y x) = _
    rw [List.any_cons, scal_eqV (O := O) a.1 (.inl r1) s h]
    exact congrArg _ i2
def gIn (f : Bool → Bool) : G2
  | .str s, .str t, Q => ∃ c, s = ⟨#[c]⟩ ∧ Q (.bool (f (decide (c ∈ t.cps.toList))))
  | x, .list ds, Q => ((scalD x = true ∧ ds.all scalD = true) ∨ (SeqAt.shaped x = true ∧ SeqAt.shaped (.list ds) = true)) ∧ Q (.bool (f (ds.any fun z => PyData.eqv z x)))
  | x, .tuple ds, Q => (scalD x = true ∧ ds.all scalD = true) ∧ Q (.bool (f (ds.any fun z => PyData.eqv z x)))
  | _, _, _ => False
def rInX (K : PySem.W.Frag) : R2 := fun x y H Q => (∃ (c : Nat) (z : Str), x = .str ⟨#[c]⟩ ∧ y = .str z ∧ Q (.bl (decide (c ∈ z.cps.toList))) H) ∨ rIn K false x y H Q ∨ rInD K x y H Q
theorem od_in {C : Cfg} : OpD C (rInX C.K) (gIn id) := by
  intro F O H x y dx dy Qd Q hF hx hy q k
  unfold gIn at q
  split at q
  · obtain ⟨c, rfl, q⟩ := q
    exact .inl ⟨c, _, hx.str, hy.str, k _ q _ H F .refl (by simp only [Dat]; rfl)⟩
  · obtain ⟨⟨s1, s2⟩ | ⟨s1, s2⟩, q⟩ := q
    · obtain ⟨a, vs, rfl, _, h1, r1⟩ := hy.list
      obtain ⟨i1, i2⟩ := dats_flat s1 hx s2 r1
      refine .inr (.inl ⟨a, vs, rfl, .inl (SqL.of h1), scal_flat s1 hx, i1, ?_⟩)
      rw [if_neg (by decide), i2]
      exact k _ q _ H F .refl (by simp only [Dat]; rfl)
    · exact .inr (.inr ⟨_, _, hx.dp (noDict_shaped s1), hy.dp (noDict_shaped s2), s1, s2, k _ q _ H F .refl (by simp only [Dat]; rfl)⟩)
  · obtain ⟨⟨s1, s2⟩, q⟩ := q
    obtain ⟨a, vs, rfl, h1, r1⟩ := hy.tuple
    obtain ⟨i1, i2⟩ := dats_flat s1 hx s2 r1
    refine .inr (.inl ⟨a, vs, rfl, .inr h1, scal_flat s1 hx, i1, ?_⟩)
    rw [if_neg (by decide), i2]
    exact k _ q _ H F .refl (by simp only [Dat]; rfl)
  · exact q.elim
theorem re_in {ta tb : DE} (hu : X.A.units + 65 < cLine) (ha : RB X a ta) (hb : RB X b tb) (hm : behindInMarks .In b = false := by rfl) : RE X (.Compare a [.In] [b] pos) (dOp (gIn id) ta tb) := re_cmp (opR_or op_in_sign (opR_or op_in_seq (op_inD hu))) od_in ha hb hm

/-! ### and, or, not, if -/
def dAnd (ta tb : DE) : DE := fun ρ n Q => ta ρ n fun x n1 => ∃ c, x = .bool c ∧ if c = true then tb ρ n1 Q else Q (.bool false) n1
def dOr (ta tb : DE) : DE := fun ρ n Q => ta ρ n fun x n1 => ∃ c, x = .bool c ∧ if c = true then Q (.bool true) n1 else tb ρ n1 Q
def dNot (ta : DE) : DE := fun ρ n Q => ta ρ n fun x n1 => ∃ c, x = .bool c ∧ Q (.bool (!c)) n1
theorem re_and {rest : List Expr} {ta tb : DE} (ha : RE X a ta) (hb : RE X (.BoolOp .And (b :: rest) pos) tb) : RE X (.BoolOp .And (a :: b :: rest) pos) (dAnd ta tb) :=
  PE.imp (pe_and ha hb) fun σ H Q ⟨G, F, ρ, n, Qd, E, q, k⟩ => ⟨G, F, ρ, n, _, E, q, fun x n1 ⟨c, e, q1⟩ v H1 F1 E1 x1 dv => by
    subst e
    refine ⟨c, by simpa only [Dat] using dv, ?_⟩
    cases c with
    | true => exact ⟨G, F1, ρ, n1, _, E1, q1, fun d m z v H' F' E' x' y => k d m z v H' F' E' (x1.trans x' E E1) y⟩
    | false => exact k _ n1 q1 _ H1 F1 E1 x1 (by simp only [Dat])⟩
theorem re_or {rest : List Expr} {ta tb : DE} (ha : RE X a ta) (hb : RE X (.BoolOp .Or (b :: rest) pos) tb) : RE X (.BoolOp .Or (a :: b :: rest) pos) (dOr ta tb) :=
  PE.imp (pe_or ha hb) fun σ H Q ⟨G, F, ρ, n, Qd, E, q, k⟩ => ⟨G, F, ρ, n, _, E, q, fun x n1 ⟨c, e, q1⟩ v H1 F1 E1 x1 dv => by
    subst e
    refine ⟨c, by simpa only [Dat] using dv, ?_⟩
    cases c with
    | true => exact k _ n1 q1 _ H1 F1 E1 x1 (by simp only [Dat])
    | false => exact ⟨G, F1, ρ, n1, _, E1, q1, fun d m z v H' F' E' x' y => k d m z v H' F' E' (x1.trans x' E E1) y⟩⟩
theorem re_one {op : BoolOp} {t : DE} (h : RE X a t) : RE X (.BoolOp op [a] pos) t := pe_one h
theorem re_not {ta : DE} (ha : RE X a ta) : RE X (.UnaryOp .Not a pos) (dNot ta) :=
  PE.imp (pe_not ha) fun σ H Q ⟨G, F, ρ, n, Qd, E, q, k⟩ => ⟨G, F, ρ, n, _, E, q, fun x n1 ⟨c, e, q1⟩ v H1 F1 E1 x1 dv => by
    subst e
    exact ⟨c, by simpa only [Dat] using dv, k _ n1 q1 _ H1 F1 E1 x1 (by simp only [Dat])⟩⟩
def tAndD (ta tb : DT) : DT := fun ρ n Q => ta ρ n fun c n1 => if c = true then tb ρ n1 Q else Q false n1
def tOrD (ta tb : DT) : DT := fun ρ n Q => ta ρ n fun c n1 => if c = true then Q true n1 else tb ρ n1 Q
def tNotD (ta : DT) : DT := fun ρ n Q => ta ρ n fun c n1 => Q (!c) n1
def tBoolD (ta : DE) : DT := fun ρ n Q => ta ρ n fun x n1 => ∃ c, x = .bool c ∧ Q c n1
theorem liftT_and {C : Cfg} {ta tb : DT} {σ : L2.St} {H : Hp} {Q : Bool → Hp → Prop} (h : liftT C (tAndD ta tb) σ H Q) : tAnd (liftT C ta) (liftT C tb) σ H Q := by
  obtain ⟨G, F, ρ, n, Qd, E, q, k⟩ := h
  refine ⟨G, F, ρ, n, _, E, q, fun c n1 q1 H1 F1 E1 x1 => ?_⟩
  cases c with
  | true => exact ⟨G, F1, ρ, n1, _, E1, q1, fun b m z H' F' E' x' => k b m z H' F' E' (x1.trans x' E E1)⟩
  | false => exact k _ n1 q1 H1 F1 E1 x1
theorem liftT_or {C : Cfg} {ta tb : DT} {σ : L2.St} {H : Hp} {Q : Bool → Hp → Prop} (h : liftT C (tOrD ta tb) σ H Q) : tOr (liftT C ta) (liftT C tb) σ H Q := by
  obtain ⟨G, F, ρ, n, Qd, E, q, k⟩ := h
  refine ⟨G, F, ρ, n, _, E, q, fun c n1 q1 H1 F1 E1 x1 => ?_⟩
  cases c with
  | false => exact ⟨G, F1, ρ, n1, _, E1, q1, fun b m z H' F' E' x' => k b m z H' F' E' (x1.trans x' E E1)⟩
  | true => exact k _ n1 q1 H1 F1 E1 x1
abbrev RW (X : Cx) (e : Expr) (t : DT) : Prop := PW X e (liftT (cfg X) t)
theorem PW.imp {e : Expr} {t u : TT} (h : PW X e t) (q : ∀ σ H Q, u σ H Q → t σ H Q) : PW X e u := ⟨fun wh pins s σ H Q I z => h.run wh pins s σ H Q I (q _ _ _ z)⟩
theorem rw_and {rest : List Expr} {ta tb : DT} (ha : RT X a ta) (hb : RW X (.BoolOp .And (b :: rest) pos) tb) : RW X (.BoolOp .And (a :: b :: rest) pos) (tAndD ta tb) := PW.imp (pw_and ha hb) fun _ _ _ h => liftT_and h
theorem rw_or {rest : List Expr} {ta tb : DT} (ha : RT X a ta) (hb : RW X (.BoolOp .Or (b :: rest) pos) tb) : RW X (.BoolOp .Or (a :: b :: rest) pos) (tOrD ta tb) := PW.imp (pw_or ha hb) fun _ _ _ h => liftT_or h
theorem rw_and1 {ta : DT} (ha : RT X a ta) : RW X (.BoolOp .And [a] pos) ta := pw_and1 ha
theorem rw_or1 {ta : DT} (ha : RT X a ta) : RW X (.BoolOp .Or [a] pos) ta := pw_or1 ha
theorem rt_w {t : DT} (h : RW X e t) : RT X e t := h.pt
theorem rt_not {ta : DT} (ha : RT X a ta) : RT X (.UnaryOp .Not a pos) (tNotD ta) := PT.imp (pt_not ha) fun σ H Q ⟨G, F, ρ, n, Qd, E, q, k⟩ => ⟨G, F, ρ, n, _, E, q, fun c n1 q1 H1 F1 E1 x1 => k _ n1 q1 H1 F1 E1 x1⟩
/-- an expression that gives a bool, as a test -/
theorem liftT_bool {C : Cfg} {t : DE} {σ : L2.St} {H : Hp} {Q : Bool → Hp → Prop} (h : liftT C (tBoolD t) σ H Q) : tB (liftE C t) σ H Q := by
  obtain ⟨G, F, ρ, n, Qd, E, q, k⟩ := h
  refine ⟨G, F, ρ, n, _, E, q, fun d n1 ⟨c, e, q1⟩ v H1 F1 E1 x1 dv => ?_⟩
  subst e
  exact ⟨c, by simpa only [Dat] using dv, k c n1 q1 H1 F1 E1 x1⟩
theorem rt_val {t : DE} (h : RE X e t) (he : ∀ whole, isTrue e X.env whole = (do let v ← whole; standAt e.pos; holding [v] (truthy v)) := by intro _; rfl) : RT X e (tBoolD t) := PT.imp (pt_val h he) fun _ _ _ h => liftT_bool h
theorem rt_cmp {op : CmpOp} {r : R2} {g : G2} {ta tb : DE} (ho : OpR X (compareOp op) r) (hd : OpD (cfg X) r g) (ha : RB X a ta) (hb : RB X b tb) (hm : behindInMarks op b = false := by first | exact nomark _ | rfl) : RT X (.Compare a [op] [b] pos) (tBoolD (dOp g ta tb)) :=
  PT.imp (pt_cmpR ho ha hb hm) fun σ H Q ⟨G, F, ρ, n, Qd, E, q, k⟩ => ⟨G, F, ρ, n, _, E, q, fun x n1 q1 v H1 F1 E1 x1 dv => ⟨G, F1, ρ, n1, _, E1, q1, fun y n2 q2 u H2 F2 E2 x2 du =>
    hd F2 (Own σ ρ) H2 v u x y _ _ E2.live (dv.mono E1 x2) du q2 fun z hz w H3 F3 g3 dw => by
      obtain ⟨c, e, hz⟩ := hz
      subst e
      exact ⟨c, by simpa only [Dat] using dw, k c n2 hz H3 F3 (E2.grow g3) ((x1.trans x2 E E1).grow g3 E E2)⟩⟩⟩
theorem rt_eq {ta tb : DE} (hu : X.A.units + 64 < cLine) (ha : RB X a ta) (hb : RB X b tb) : RT X (.Compare a [.Eq] [b] pos) (tBoolD (dOp (gEq id) ta tb)) := rt_cmp (opR_or op_eq (op_eqD hu)) od_eq ha hb
theorem rt_ne {ta tb : DE} (hu : X.A.units + 64 < cLine) (ha : RB X a ta) (hb : RB X b tb) : RT X (.Compare a [.NotEq] [b] pos) (tBoolD (dOp (gEq not) ta tb)) := rt_cmp (opR_or op_ne (op_neD hu)) od_ne ha hb
theorem rt_lt {ta tb : DE} (ha : RB X a ta) (hb : RB X b tb) : RT X (.Compare a [.Lt] [b] pos) (tBoolD (dOp (gCmp fun i j => decide (i < j)) ta tb)) := rt_cmp op_lt od_cmp ha hb
theorem rt_le {ta tb : DE} (ha : RB X a ta) (hb : RB X b tb) : RT X (.Compare a [.LtE] [b] pos) (tBoolD (dOp (gCmp fun i j => decide (i ≤ j)) ta tb)) := rt_cmp op_le od_cmp ha hb
theorem rt_gt {ta tb : DE} (ha : RB X a ta) (hb : RB X b tb) : RT X (.Compare a [.Gt] [b] pos) (tBoolD (dOp (gCmp fun i j => decide (j < i)) ta tb)) := rt_cmp op_gt od_cmp ha hb
theorem rt_ge {ta tb : DE} (ha : RB X a ta) (hb : RB X b tb) : RT X (.Compare a [.GtE] [b] pos) (tBoolD (dOp (gCmp fun i j => decide (j ≤ i)) ta tb)) := rt_cmp op_ge od_cmp ha hb
theorem rt_isN {ta tb : DE} (ha : RB X a ta) (hb : RB X b tb) : RT X (.Compare a [.Is] [b] pos) (tBoolD (dOp (gIsN id) ta tb)) := rt_cmp op_isN od_isN ha hb
theorem rt_notN {ta tb : DE} (ha : RB X a ta) (hb : RB X b tb) : RT X (.Compare a [.IsNot] [b] pos) (tBoolD (dOp (gIsN not) ta tb)) := rt_cmp op_notN od_notN ha hb
theorem rt_in {ta tb : DE} (hu : X.A.units + 65 < cLine) (ha : RB X a ta) (hb : RB X b tb) (hm : behindInMarks .In b = false := by rfl) : RT X (.Compare a [.In] [b] pos) (tBoolD (dOp (gIn id) ta tb)) := rt_cmp (opR_or op_in_sign (opR_or op_in_seq (op_inD hu))) od_in ha hb hm
/-- a if t else b -/
def dIf (t : DT) (ta tb : DE) : DE := fun ρ n Q => t ρ n fun c n1 => if c = true then ta ρ n1 Q else tb ρ n1 Q
theorem re_if {t : DT} {ta tb : DE} (hc : RT X c t) (ha : RE X a ta) (hb : RE X b tb) : RE X (.IfExp c a b pos) (dIf t ta tb) :=
  PE.imp (pe_ifExp hc ha hb) fun σ H Q ⟨G, F, ρ, n, Qd, E, q, k⟩ => ⟨G, F, ρ, n, _, E, q, fun c n1 q1 H1 F1 E1 x1 => by
    cases c with
    | true => exact ⟨G, F1, ρ, n1, _, E1, q1, fun d m z v H' F' E' x' y => k d m z v H' F' E' (x1.trans x' E E1) y⟩
    | false => exact ⟨G, F1, ρ, n1, _, E1, q1, fun d m z v H' F' E' x' y => k d m z v H' F' E' (x1.trans x' E E1) y⟩⟩
end
end DL

namespace DL
open PySem L2

/-! ### lists of values that are kept: displays -/
def liftL (C : Cfg) (t : DO) : TA := fun σ H Q => ∃ (G : Gx) (F : Addr → Prop) (ρ : Sl) (n : Nat) (Qd : List D → Nat → Prop), EnvOk C G F H σ ρ n ∧ t ρ n Qd ∧
  ∀ ds m, Qd ds m → ∀ vs H' F', EnvOk C G F' H' σ ρ m → Ext G F H F' H' → Dats C F' H' ds vs → Q vs H'
abbrev RL (X : Cx) (es : List Expr) (t : DO) : Prop := PA X es (liftL (cfg X) t)
def dNil : DO := fun _ n Q => Q [] n
def dCons (te : DE) (t : DO) : DO := fun ρ n Q => te ρ n fun d n1 => t ρ n1 fun ds n2 => Q (d :: ds) n2
def dTup (t : DO) : DE := fun ρ n Q => t ρ n fun ds m => ds.length ≤ sizeLine ∧ Q (.tuple ds) m
def dLst (t : DO) : DO := fun ρ n Q => t ρ n fun ds m => ds.length ≤ sizeLine ∧ Q ds m
section
variable {X : Cx} {a b c e : Expr} {es : List Expr} {pos : Pos}
theorem rl_nil : RL X [] dNil := PA.imp pa_nil fun σ H Q ⟨G, F, ρ, n, Qd, E, q, k⟩ => k [] n q [] H F E .refl .nil
theorem rl_cons {te : DE} {t : DO} (ha : RE X e te) (hr : RL X es t) (hs : starEach (e :: es) X.env = (false, eval e X.env) :: starEach es X.env := by rfl) : RL X (e :: es) (dCons te t) :=
  PA.imp (pa_cons ha hr hs) fun σ H Q ⟨G, F, ρ, n, Qd, E, q, k⟩ => ⟨G, F, ρ, n, _, E, q, fun d n1 q1 v H1 F1 E1 x1 dv => ⟨G, F1, ρ, n1, _, E1, q1, fun ds n2 q2 vs H2 F2 E2 x2 ds2 =>
    k _ n2 q2 _ H2 F2 E2 (x1.trans x2 E E1) (by
      simp only [Dats]
      exact ⟨v, vs, rfl, Dat.mono x2.kp x2.sub d v dv, ds2⟩)⟩⟩
theorem re_tup {x1} {t : DO} (h : RL X es t) : RE X (.Tuple es x1 pos) (dTup t) := PE.imp (pe_tup h) fun σ H Q ⟨G, F, ρ, n, Qd, E, q, k⟩ => ⟨G, F, ρ, n, _, E, q, fun ds m ⟨hz, q1⟩ vs H1 F1 E1 x1 d1 =>
  ⟨by rw [d1.len]; exact hz, fun p hp => by
    have g : Grow F1 H1 F1 (upd H1 p (.tup vs)) := grow_tup hp
    refine k _ m q1 _ _ F1 (E1.grow g) (x1.grow g E E1) ?_
    simp only [Dat]
    exact ⟨p, vs, rfl, .inl (.inl upd_same), Dats.mono g.kp g.sub _ _ d1⟩⟩⟩
theorem ro_lst {t : DO} (h : RL X es t) : RO X (.List es pos) (dLst t) := PE.imp (pe_lst h) fun σ H Q ⟨G, F, ρ, n, Qd, E, q, k⟩ => ⟨G, F, ρ, n, _, E, q, fun ds m ⟨hz, q1⟩ vs H1 F1 E1 x1 d1 =>
  ⟨by rw [d1.len]; exact hz, fun p hp => by
    obtain ⟨g, nf⟩ := grow_lst (o := .lst vs) hp E1.live
    exact k _ m q1 p vs _ F1 (E1.grow g) (x1.grow g E E1) (x1.none_of E (fun t ht => E1.tp_some ht) hp) nf upd_same (Dats.mono g.kp g.sub _ _ d1)⟩⟩

/-! ### subscripts -/
def gIx : G2
  | .list ds, .int i, Q => ∃ d, atI ds i = some d ∧ Q d
  | .tuple ds, .int i, Q => ∃ d, atI ds i = some d ∧ Q d
  | .str z, .int i, Q => ∃ c, z.length ≤ sizeLine ∧ atI z.cps.toList i = some c ∧ Q (.str ⟨#[c]⟩)
  | _, _, _ => False
theorem dats_at {C : Cfg} {F : Addr → Prop} {H : Hp} {ds : List D} {vs : List V} {i : Int} {d : D} (h : Dats C F H ds vs) (e : atI ds i = some d) : ∃ v, atI vs i = some v ∧ Dat C F H d v := by
  unfold atI at e ⊢
  rw [h.len]
  cases q : ixN ds.length i with
  | none => rw [q] at e; cases e
  | some j =>
    rw [q] at e
    exact h.get e
theorem od_ix {C : Cfg} : OpD C (rIx C.K) gIx := by
  intro F O H x y dx dy Qd Q hF hx hy q k
  unfold gIx at q
  split at q
  · obtain ⟨d, e, q⟩ := q
    obtain ⟨a, vs, rfl, _, h1, r1⟩ := hx.list
    obtain ⟨v, e2, dv⟩ := dats_at r1 e
    exact .inl ⟨a, vs, _, v, rfl, hy.int, SqL.of h1, e2, k d q v H F .refl dv⟩
  · obtain ⟨d, e, q⟩ := q
    obtain ⟨a, vs, rfl, h1, r1⟩ := hx.tuple
    obtain ⟨v, e2, dv⟩ := dats_at r1 e
    exact .inr (.inl ⟨a, vs, _, v, rfl, hy.int, h1, e2, k d q v H F .refl dv⟩)
  · obtain ⟨d, hz, e, q⟩ := q
    exact .inr (.inr ⟨_, _, d, hx.str, hy.int, hz, e, k _ q _ H F .refl (by simp only [Dat])⟩)
  · exact q.elim
theorem re_ix {ta tb : DE} (ha : RB X a ta) (hb : RB X b tb) (hs : PlainIx b := by exact fun _ _ => rfl) : RE X (.Subscript a b pos) (dOp gIx ta tb) := re_bin od_ix (fun ha hb => pe_ix ix_seq ha hb hs) ha hb

/-! ### slices -/
abbrev DPt := Sl → Nat → (Option Int → Nat → Prop) → Prop
def liftPt (C : Cfg) (t : DPt) : TO := fun σ H Q => ∃ (G : Gx) (F : Addr → Prop) (ρ : Sl) (n : Nat) (Qd : Option Int → Nat → Prop), EnvOk C G F H σ ρ n ∧ t ρ n Qd ∧
  ∀ o m, Qd o m → ∀ H' F', EnvOk C G F' H' σ ρ m → Ext G F H F' H' → Q o H'
abbrev RPt (X : Cx) (e : Option Expr) (t : DPt) : Prop := PO X e (liftPt (cfg X) t)
theorem PO.imp {e : Option Expr} {t u : TO} (h : PO X e t) (q : ∀ σ H Q, u σ H Q → t σ H Q) : PO X e u := ⟨fun pins s σ H Q I z => h.run pins s σ H Q I (q _ _ _ z)⟩
def dNoPt : DPt := fun _ n Q => Q none n
def dPt (t : DE) : DPt := fun ρ n Q => t ρ n fun d m => ∃ i, d = .int i ∧ Q (some i) m
theorem rp_none : RPt X none dNoPt := PO.imp po_none fun σ H Q ⟨G, F, ρ, n, Qd, E, q, k⟩ => k none n q H F E .refl
theorem rp_some {t : DE} (h : RB X e t) : RPt X (some e) (dPt t) := PO.imp (po_some h) fun σ H Q ⟨G, F, ρ, n, Qd, E, q, k⟩ => ⟨G, F, ρ, n, _, E, q, fun d m ⟨i, e, q1⟩ v H1 F1 E1 x1 dv => by
  subst e
  exact ⟨i, dv.int, k _ m q1 H1 F1 E1 x1⟩⟩
def cutD {α : Type} (xs : List α) (lo hi : Option Int) : List α := (xs.drop (HT.sIx xs.length 0 lo)).take (HT.sIx xs.length xs.length hi - HT.sIx xs.length 0 lo)
theorem Dats.cut {C : Cfg} {F : Addr → Prop} {H : Hp} {ds : List D} {vs : List V} (h : Dats C F H ds vs) (lo hi : Option Int) : Dats C F H (cutD ds lo hi) (cutV vs lo hi) := by
  unfold cutD cutV
  rw [h.len]
  exact Dats.take _ (Dats.drop _ h)
/-- of a tuple or a text -/
def gSl (lo hi : Option Int) : D → (D → Prop) → Prop
  | .tuple ds, Q => Q (.tuple (cutD ds lo hi))
  | .str z, Q => z.length ≤ sizeLine ∧ Q (.str (cutS z lo hi))
  | _, _ => False
def dSl (ta : DE) (tl th : DPt) : DE := fun ρ n Q => ta ρ n fun x n1 => tl ρ n1 fun l n2 => th ρ n2 fun u n3 => gSl l u x fun z => Q z n3
/-- of a list -/
def gSlO (lo hi : Option Int) : D → (List D → Prop) → Prop
  | .list ds, Q => Q (cutD ds lo hi)
  | _, _ => False
def dSlO (ta : DE) (tl th : DPt) : DO := fun ρ n Q => ta ρ n fun x n1 => tl ρ n1 fun l n2 => th ρ n2 fun u n3 => gSlO l u x fun z => Q z n3
def rSlX (K : PySem.W.Frag) : V → Option Int → Option Int → Hp → VK → Prop := fun x lo hi H Q => rSlA K x lo hi H Q ∨ rSlS x lo hi H Q
theorem cut_whole {ds : List D} {lo hi : Option Int} (h : HT.sIx ds.length 0 lo = 0 ∧ HT.sIx ds.length ds.length hi = ds.length) : cutD ds lo hi = ds := by
  unfold cutD
  rw [h.1, h.2]
  simp
theorem re_sl {lo hi : Option Expr} {p2 : Pos} {ta : DE} {tl th : DPt} (ha : RB X a ta) (hl : RPt X lo tl) (hh : RPt X hi th) : RE X (.Subscript a (.Slice lo hi none p2) pos) (dSl ta tl th) :=
  PE.imp (pe_slice (sl_tupA.or sl_str) ha hl hh) fun σ H Q ⟨G, F, ρ, n, Qd, E, q, k⟩ => ⟨G, F, ρ, n, _, E, q, fun x n1 q1 v H1 F1 E1 x1 dv => ⟨G, F1, ρ, n1, _, E1, q1, fun l n2 q2 H2 F2 E2 x2 => ⟨G, F2, ρ, n2, _, E2, q2, fun u n3 q3 H3 F3 E3 x3 => by
    have x23 := x2.trans x3 E1 E2
    have x13 := x1.trans x23 E E1
    have dv3 := dv.mono E1 x23
    unfold gSl at q3
    split at q3
    · obtain ⟨a, vs, rfl, h1, r1⟩ := dv3.tuple
      refine .inl ⟨a, vs, rfl, h1, fun w => ?_, fun _ p hp => ?_⟩
      · rw [r1.len] at w
        rw [cut_whole w] at q3
        exact k _ n3 q3 _ H3 F3 E3 x13 (by simp only [Dat]; exact ⟨a, vs, rfl, h1, r1⟩)
      · have g : Grow F3 H3 F3 (upd H3 p (.tup (cutV vs l u))) := grow_tup hp
        refine k _ n3 q3 _ _ F3 (E3.grow g) (x13.grow g E E3) ?_
        simp only [Dat]
        exact ⟨p, _, rfl, .inl (.inl upd_same), Dats.mono g.kp g.sub _ _ (r1.cut l u)⟩
    · refine .inr ⟨_, dv3.str, q3.1, k _ n3 q3.2 _ H3 F3 E3 x13 (by simp only [Dat])⟩
    · exact q3.elim⟩⟩⟩
theorem ro_sl {lo hi : Option Expr} {p2 : Pos} {ta : DE} {tl th : DPt} (ha : RB X a ta) (hl : RPt X lo tl) (hh : RPt X hi th) : RO X (.Subscript a (.Slice lo hi none p2) pos) (dSlO ta tl th) :=
  PE.imp (pe_slice sl_list ha hl hh) fun σ H Q ⟨G, F, ρ, n, Qd, E, q, k⟩ => ⟨G, F, ρ, n, _, E, q, fun x n1 q1 v H1 F1 E1 x1 dv => ⟨G, F1, ρ, n1, _, E1, q1, fun l n2 q2 H2 F2 E2 x2 => ⟨G, F2, ρ, n2, _, E2, q2, fun u n3 q3 H3 F3 E3 x3 => by
    have x23 := x2.trans x3 E1 E2
    have x13 := x1.trans x23 E E1
    have dv3 := dv.mono E1 x23
    unfold gSlO at q3
    split at q3
    · obtain ⟨a, vs, rfl, _, h1, r1⟩ := dv3.list
      refine ⟨a, vs, rfl, SqL.of h1, fun p hp => ?_⟩
      obtain ⟨g, nf⟩ := grow_lst (o := .lst (cutV vs l u)) hp E3.live
      exact k _ n3 q3 p _ _ F3 (E3.grow g) (x13.grow g E E3) (x13.none_of E (fun t ht => E3.tp_some ht) hp) nf upd_same (Dats.mono g.kp g.sub _ _ (r1.cut l u))
    · exact q3.elim⟩⟩⟩
/-- l[::-1] -/
def gRev : D → (List D → Prop) → Prop
  | .list ds, Q => Q ds.reverse
  | _, _ => False
def dRevO (ta : DE) : DO := fun ρ n Q => ta ρ n fun x n1 => gRev x fun z => Q z n1
theorem ro_rev {k p1 p2 p3} {ta : DE} (ha : RB X a ta) : RO X (.Subscript a (.Slice none none (some (.UnaryOp .USub (.Constant (.int 1) k p1) p2)) p3) pos) (dRevO ta) :=
  PE.imp (pe_revL ha) fun σ H Q ⟨G, F, ρ, n, Qd, E, q, k⟩ => ⟨G, F, ρ, n, _, E, q, fun x n1 q1 v H1 F1 E1 x1 dv => by
    unfold gRev at q1
    split at q1
    · obtain ⟨a, vs, rfl, _, h1, r1⟩ := dv.list
      refine ⟨a, vs, rfl, SqL.of h1, fun p hp => ?_⟩
      obtain ⟨g, nf⟩ := grow_lst (o := .lst vs.reverse) hp E1.live
      exact k _ n1 q1 p _ _ F1 (E1.grow g) (x1.grow g E E1) (x1.none_of E (fun t ht => E1.tp_some ht) hp) nf upd_same (Dats.mono g.kp g.sub _ _ r1.reverse)
    · exact q1.elim⟩

/-! ### -e -/
def dNeg (ta : DE) : DE := fun ρ n Q => ta ρ n fun x n1 => ∃ i, x = .int i ∧ Q (.int (-i)) n1
theorem re_neg {ta : DE} (ha : RB X a ta) : RE X (.UnaryOp .USub a pos) (dNeg ta) := PE.imp (pe_un un_neg ha) fun σ H Q ⟨G, F, ρ, n, Qd, E, q, k⟩ => ⟨G, F, ρ, n, _, E, q, fun x n1 ⟨i, e, q1⟩ v H1 F1 E1 x1 dv => by
  subst e
  exact ⟨i, dv.int, k _ n1 q1 _ H1 F1 E1 x1 (by simp only [Dat])⟩⟩

/-! ### built-ins of one argument -/
def Op1 (C : Cfg) (r : List V → Hp → VK → Prop) (g : D → (D → Prop) → Prop) : Prop := ∀ (F O : Addr → Prop) (H : Hp) (x : V) (dx : D) (Qd : D → Prop) (Q : VK), Live F H → DatB C F O H dx x → g dx Qd →
  (∀ d, Qd d → ∀ v H' F', Grow F H F' H' → Dat C F' H' d v → Q v H') → r [x] H Q
def Op1O (C : Cfg) (r : List V → Hp → VK → Prop) (g : D → (List D → Prop) → Prop) : Prop := ∀ (F O : Addr → Prop) (H : Hp) (x : V) (dx : D) (Qd : List D → Prop) (Q : VK), Live F H → DatB C F O H dx x → g dx Qd →
  (∀ ds, Qd ds → ∀ p vs H' F', Grow F H F' H' → H p = none → ¬ F' p → H' p = some (.lst vs) → Dats C F' H' ds vs → Q (.ref p) H') → r [x] H Q
def d1 (g : D → (D → Prop) → Prop) (ta : DE) : DE := fun ρ n Q => ta ρ n fun x n1 => g x fun z => Q z n1
def d1O (g : D → (List D → Prop) → Prop) (ta : DE) : DO := fun ρ n Q => ta ρ n fun x n1 => g x fun z => Q z n1
theorem re_1 {r : List V → Hp → VK → Prop} {g : D → (D → Prop) → Prop} {ta : DE} (hd : Op1 (cfg X) r g) (hpe : ∀ {t : TA}, PA X [a] t → PE X e (tCB r t)) (ha : RB X a ta) (hs : starEach [a] X.env = (false, eval a X.env) :: starEach [] X.env := by rfl) : RE X e (d1 g ta) :=
  PE.imp (hpe (pa_cons ha pa_nil hs)) fun σ H Q ⟨G, F, ρ, n, Qd, E, q, k⟩ => ⟨G, F, ρ, n, _, E, q, fun x n1 q1 v H1 F1 E1 x1 dv =>
    hd F1 (Own σ ρ) H1 v x _ Q E1.live dv q1 fun z hz w H3 F3 g3 dw => k z n1 hz w H3 F3 (E1.grow g3) (x1.grow g3 E E1) dw⟩
theorem ro_1 {r : List V → Hp → VK → Prop} {g : D → (List D → Prop) → Prop} {ta : DE} (hd : Op1O (cfg X) r g) (hpe : ∀ {t : TA}, PA X [a] t → PE X e (tCB r t)) (ha : RB X a ta) (hs : starEach [a] X.env = (false, eval a X.env) :: starEach [] X.env := by rfl) : RO X e (d1O g ta) :=
  PE.imp (hpe (pa_cons ha pa_nil hs)) fun σ H Q ⟨G, F, ρ, n, Qd, E, q, k⟩ => ⟨G, F, ρ, n, _, E, q, fun x n1 q1 v H1 F1 E1 x1 dv =>
    hd F1 (Own σ ρ) H1 v x _ Q E1.live dv q1 fun ds hz p vs H3 F3 g3 hp nf h3 dw => k ds n1 hz p vs H3 F3 (E1.grow g3) (x1.grow g3 E E1) (x1.none_of E (fun t ht => E1.tp_some ht) hp) nf h3 dw⟩
def gLen : D → (D → Prop) → Prop
  | .list ds, Q => Q (.int ds.length)
  | .tuple ds, Q => Q (.int ds.length)
  | .str z, Q => z.length ≤ sizeLine ∧ Q (.int z.length)
  | .dict kvs, Q => Q (.int kvs.length)
  | _, _ => False
def rLenX (K : PySem.W.Frag) : List V → Hp → VK → Prop := fun xs H Q => (∃ p ys, xs = [.ref p] ∧ (SqL K H p ys ∨ SqT K H p ys) ∧ Q (.int ys.length) H) ∨ (∃ z, xs = [.str z] ∧ z.length ≤ sizeLine ∧ Q (.int z.length) H) ∨ ∃ a kvs, xs = [V.ref a] ∧ H a = some (.dK kvs) ∧ Q (.int kvs.length) H
theorem callR_or {f : Value} {r r' : List V → Hp → VK → Prop} (h : CallR X f r) (h' : CallR X f r') : CallR X f (fun x H Q => r x H Q ∨ r' x H Q) := by
  intro pins s σ H xs us Q I rs q
  rcases q with q | q
  · exact h pins s σ H xs us Q I rs q
  · exact h' pins s σ H xs us Q I rs q
theorem cr_lenX : CallR X (.builtin "len") (rLenX X.K) := callR_or call_len_seq (callR_or call_len_str call_lenD)
theorem DKv.len {C : Cfg} {F : Addr → Prop} {H : Hp} : ∀ {kvs : List (D × D)} {es : List (V × V)}, DKv C F H kvs es → es.length = kvs.length
  | [], es, h => by simp only [DKv] at h; subst h; rfl
  | (k, d) :: r, es, h => by
    simp only [DKv] at h
    obtain ⟨x, y, q, rfl, _, _, h⟩ := h
    rw [List.length_cons, List.length_cons, DKv.len h]
theorem o1_len {C : Cfg} : Op1 C (rLenX C.K) gLen := by
  intro F O H x dx Qd Q hF hx q k
  unfold gLen at q
  split at q
  · obtain ⟨a, vs, rfl, _, h1, r1⟩ := hx.list
    exact .inl ⟨a, vs, rfl, .inl (SqL.of h1), k _ q _ H F .refl (by simp only [Dat]; rw [r1.len])⟩
  · obtain ⟨a, vs, rfl, h1, r1⟩ := hx.tuple
    exact .inl ⟨a, vs, rfl, .inr h1, k _ q _ H F .refl (by simp only [Dat]; rw [r1.len])⟩
  · exact .inr (.inl ⟨_, by rw [hx.str], q.1, k _ q.2 _ H F .refl (by simp only [Dat])⟩)
  · obtain ⟨a, es, rfl, _, ⟨ks, h1, h2⟩, r1⟩ := hx.dict
    refine .inr (.inr ⟨a, ks, rfl, h1, k _ q _ H F .refl ?_⟩)
    simp only [Dat]
    rw [← r1.len, h2, List.length_map]
  · exact q.elim
theorem re_len {p : Pos} {ta : DE} (hm : X.mg "len" = none) (ha : RB X a ta) (hg : Gl X "len" := by rfl) (hs : starEach [a] X.env = (false, eval a X.env) :: starEach [] X.env := by rfl) (hpl : (backTo pos (starEach [] X.env)).any (·.1) = false := by rfl) : RE X (.Call (.Name "len" p) [a] [] pos) (d1 gLen ta) :=
  re_1 o1_len (fun h => pe_callB cr_lenX hg hm PySem.boot_len h (by decide) (by decide) hs hpl) ha hs
/-- int of a bool -/
def gInt1 : D → (D → Prop) → Prop
  | .int i, Q => Q (.int i)
  | .bool k, Q => Q (.int (if k then 1 else 0))
  | _, _ => False
theorem o1_int {C : Cfg} : Op1 C (fun xs H Q => (∃ i, xs = [.int i] ∧ Q (.int i) H) ∨ ∃ k, xs = [.bl k] ∧ Q (.int (if k then 1 else 0)) H) gInt1 := by
  intro F O H x dx Qd Q hF hx q k
  unfold gInt1 at q
  split at q
  · exact .inl ⟨_, by rw [hx.int], k _ q _ H F .refl (by simp only [Dat])⟩
  · exact .inr ⟨_, by rw [hx.bool], k _ q _ H F .refl (by simp only [Dat])⟩
  · exact q.elim
theorem boot_int0 : bootBuiltins "int" = some (.type "int") := by decide +kernel
theorem boot_tuple0 : bootBuiltins "tuple" = some (.type "tuple") := by decide +kernel
theorem boot_list0 : bootBuiltins "list" = some (.type "list") := by decide +kernel
theorem boot_dict0 : bootBuiltins "dict" = some (.type "dict") := by decide +kernel
theorem boot_sorted0 : bootBuiltins "sorted" = some (.builtin "sorted") := by decide +kernel
theorem boot_repr0 : bootBuiltins "repr" = some (.builtin "repr") := by decide +kernel
theorem re_int1 {p : Pos} {ta : DE} (hm : X.mg "int" = none) (ha : RB X a ta) (hg : Gl X "int" := by rfl) (hs : starEach [a] X.env = (false, eval a X.env) :: starEach [] X.env := by rfl) (hpl : (backTo pos (starEach [] X.env)).any (·.1) = false := by rfl) : RE X (.Call (.Name "int" p) [a] [] pos) (d1 gInt1 ta) :=
  re_1 o1_int (fun h => pe_callTy call_int1 hg hm boot_int0 h (by decide) (by decide) hs hpl) ha hs
/-- tuple(list or tuple) -/
def gTuple : D → (D → Prop) → Prop
  | .list ds, Q => Q (.tuple ds)
  | .tuple ds, Q => Q (.tuple ds)
  | _, _ => False
theorem o1_tuple {C : Cfg} : Op1 C (fun xs H Q => ∃ p ys, xs = [.ref p] ∧ ((SqL C.K H p ys ∧ ∀ l, H l = none → Q (.ref l) (upd H l (.tup ys))) ∨ (SqT C.K H p ys ∧ Q (.ref p) H))) gTuple := by
  intro F O H x dx Qd Q hF hx q k
  unfold gTuple at q
  split at q
  · obtain ⟨a, vs, rfl, _, h1, r1⟩ := hx.list
    refine ⟨a, vs, rfl, .inl ⟨SqL.of h1, fun p hp => ?_⟩⟩
    have g : Grow F H F (upd H p (.tup vs)) := grow_tup hp
    refine k _ q _ _ F g ?_
    simp only [Dat]
    exact ⟨p, vs, rfl, .inl (.inl upd_same), Dats.mono g.kp g.sub _ _ r1⟩
  · obtain ⟨a, vs, rfl, h1, r1⟩ := hx.tuple
    refine ⟨a, vs, rfl, .inr ⟨h1, k _ q _ H F .refl ?_⟩⟩
    simp only [Dat]
    exact ⟨a, vs, rfl, h1, r1⟩
  · exact q.elim
theorem re_tuple {p : Pos} {ta : DE} (hm : X.mg "tuple" = none) (ha : RB X a ta) (hg : Gl X "tuple" := by rfl) (hs : starEach [a] X.env = (false, eval a X.env) :: starEach [] X.env := by rfl) (hpl : (backTo pos (starEach [] X.env)).any (·.1) = false := by rfl) : RE X (.Call (.Name "tuple" p) [a] [] pos) (d1 gTuple ta) :=
  re_1 o1_tuple (fun h => pe_callTy call_tuple_of hg hm boot_tuple0 h (by decide) (by decide) hs hpl) ha hs
/-- list(list or tuple) -/
def gList : D → (List D → Prop) → Prop
  | .list ds, Q => Q ds
  | .tuple ds, Q => Q ds
  | _, _ => False
theorem o1_list {C : Cfg} : Op1O C (fun xs H Q => ∃ p ys, xs = [.ref p] ∧ (SqL C.K H p ys ∨ SqT C.K H p ys) ∧ ∀ l, H l = none → Q (.ref l) (upd H l (.lst ys))) gList := by
  intro F O H x dx Qd Q hF hx q k
  unfold gList at q
  split at q
  · obtain ⟨a, vs, rfl, _, h1, r1⟩ := hx.list
    refine ⟨a, vs, rfl, .inl (SqL.of h1), fun p hp => ?_⟩
    obtain ⟨g, nf⟩ := grow_lst (o := .lst vs) hp hF
    exact k _ q p vs _ F g hp nf upd_same (Dats.mono g.kp g.sub _ _ r1)
  · obtain ⟨a, vs, rfl, h1, r1⟩ := hx.tuple
    refine ⟨a, vs, rfl, .inr h1, fun p hp => ?_⟩
    obtain ⟨g, nf⟩ := grow_lst (o := .lst vs) hp hF
    exact k _ q p vs _ F g hp nf upd_same (Dats.mono g.kp g.sub _ _ r1)
  · exact q.elim
theorem ro_list {p : Pos} {ta : DE} (hm : X.mg "list" = none) (ha : RB X a ta) (hg : Gl X "list" := by rfl) (hs : starEach [a] X.env = (false, eval a X.env) :: starEach [] X.env := by rfl) (hpl : (backTo pos (starEach [] X.env)).any (·.1) = false := by rfl) : RO X (.Call (.Name "list" p) [a] [] pos) (d1O gList ta) :=
  ro_1 o1_list (fun h => pe_callTy call_list_of hg hm boot_list0 h (by decide) (by decide) hs hpl) ha hs
/-- any, all of a list of truths -/
def gAny (f : List Bool → Bool) : D → (D → Prop) → Prop := fun x Q => ∃ bs : List Bool, x = .list (bs.map .bool) ∧ Q (.bool (f bs))
theorem boot_any0 : bootBuiltins "any" = some (.builtin "any") := by decide +kernel
theorem boot_all0 : bootBuiltins "all" = some (.builtin "all") := by decide +kernel
theorem o1_any {C : Cfg} : Op1 C (rAny C.K) (gAny fun bs => bs.any id) := by
  intro F O H x dx Qd Q hF hx q k
  obtain ⟨bs, rfl, q⟩ := q
  obtain ⟨a, vs, rfl, _, h1, r1⟩ := hx.list
  have e := dats_bools.mp r1
  subst e
  exact ⟨a, bs, rfl, SqL.of h1, k _ q _ H F .refl (by simp only [Dat])⟩
theorem o1_all {C : Cfg} : Op1 C (rAll C.K) (gAny fun bs => bs.all id) := by
  intro F O H x dx Qd Q hF hx q k
  obtain ⟨bs, rfl, q⟩ := q
  obtain ⟨a, vs, rfl, _, h1, r1⟩ := hx.list
  have e := dats_bools.mp r1
  subst e
  exact ⟨a, bs, rfl, SqL.of h1, k _ q _ H F .refl (by simp only [Dat])⟩
theorem re_any {p : Pos} {ta : DE} (hc : X.calm = true) (hm : X.mg "any" = none) (ha : RB X a ta) (hg : Gl X "any" := by rfl) (hs : starEach [a] X.env = (false, eval a X.env) :: starEach [] X.env := by rfl) (hpl : (backTo pos (starEach [] X.env)).any (·.1) = false := by rfl) : RE X (.Call (.Name "any" p) [a] [] pos) (d1 (gAny fun bs => bs.any id) ta) :=
  re_1 o1_any (fun h => pe_callB (cr_any hc) hg hm boot_any0 h (by decide) (by decide) hs hpl) ha hs
theorem re_all {p : Pos} {ta : DE} (hc : X.calm = true) (hm : X.mg "all" = none) (ha : RB X a ta) (hg : Gl X "all" := by rfl) (hs : starEach [a] X.env = (false, eval a X.env) :: starEach [] X.env := by rfl) (hpl : (backTo pos (starEach [] X.env)).any (·.1) = false := by rfl) : RE X (.Call (.Name "all" p) [a] [] pos) (d1 (gAny fun bs => bs.all id) ta) :=
  re_1 o1_all (fun h => pe_callB (cr_all hc) hg hm boot_all0 h (by decide) (by decide) hs hpl) ha hs
/-- sep.join(list of texts) -/
def gJoin : G2
  | .str z, .list ds, Q => ∃ ys : List Str, ds = ys.map .str ∧ (ys.map (·.length)).sum + ys.length * z.length ≤ 16777216 ∧ Q (.str (Txt.join z ys))
  | _, _, _ => False
theorem re_join {o : Expr} {apos : Pos} {ta tb : DE} (ho : RE X o ta) (hb : RB X b tb) (hs : starEach [b] X.env = [(false, eval b X.env)] := by rfl) (hbase : attributeBase o "join" X.env (eval o X.env) = eval o X.env := by rfl) (hline : (apos.endLine == pos.line) = true := by rfl) : RE X (.Call (.Attribute o "join" apos) [b] [] pos) (fun ρ n Q => ta ρ n fun x n1 => (∃ z, x = .str z) ∧ tb ρ n1 fun y n2 => gJoin x y fun z => Q z n2) :=
  PE.imp (pe_join ho hb hs hbase hline) fun σ H Q ⟨G, F, ρ, n, Qd, E, q, k⟩ => ⟨G, F, ρ, n, _, E, q, fun x n1 ⟨⟨z, ez⟩, q1⟩ v H1 F1 E1 x1 dv => by
    subst ez
    have ev : v = .str z := by simpa only [Dat] using dv
    subst ev
    refine ⟨⟨z, rfl⟩, G, F1, ρ, n1, _, E1, q1, fun y n2 q2 u H2 F2 E2 x2 du => ?_⟩
    unfold gJoin at q2
    split at q2
    · rename_i z' ds e1
      cases e1
      obtain ⟨ys, rfl, hz, q2⟩ := q2
      obtain ⟨a, vs, rfl, _, h1, r1⟩ := du.list
      have e := dats_strs.mp r1
      subst e
      exact ⟨_, a, ys, rfl, rfl, .inl (SqL.of h1), hz, k _ n2 q2 _ H2 F2 E2 (x1.trans x2 E E1) (by simp only [Dat])⟩
    · exact q2.elim⟩
end
end DL

namespace DL
open PySem L2

section
variable {C : Cfg} {G : Gx} {F F' : Addr → Prop} {H H' : Hp} {σ : L2.St} {ρ : Sl} {n : Nat}
theorem set_some {α : Type} {l : List (Option α)} {i j : Nat} {x y : α} (h : (l.set i (some x))[j]? = some (some y)) : (j = i ∧ y = x ∧ i < l.length) ∨ (j ≠ i ∧ l[j]? = some (some y)) := by
  by_cases e : j = i
  · subst e
    rw [List.getElem?_set] at h
    by_cases hl : j < l.length
    · rw [if_pos rfl, if_pos hl] at h
      cases h
      exact .inl ⟨rfl, rfl, hl⟩
    · rw [if_pos rfl, if_neg hl] at h
      cases h
  · rw [List.getElem?_set_ne (Ne.symm e)] at h
    exact .inr ⟨e, h⟩
theorem EnvOk.setv (E : EnvOk C G F H σ ρ n) {i : Nat} {d : D} {v : V} (h : Dat C F H d v) : EnvOk C G F H (σ.set i (some v)) (ρ.set i (some (.val d))) n where
  len := by rw [List.length_set, List.length_set]; exact E.len
  slot := fun j e q => by
    rcases set_some q with ⟨rfl, rfl, hl⟩ | ⟨ne, q⟩
    · exact ⟨v, List.getElem?_set_self (by rw [← E.len]; exact hl), h⟩
    · obtain ⟨u, q1, r⟩ := E.slot j e q
      exact ⟨u, by rw [List.getElem?_set_ne (Ne.symm ne)]; exact q1, r⟩
  apart := fun j k e e' a ne q1 q2 m1 m2 q3 q4 => by
    rcases set_some q1 with ⟨rfl, rfl, _⟩ | ⟨n1, q1⟩
    · exact m1.elim
    · rcases set_some q2 with ⟨rfl, rfl, _⟩ | ⟨n2, q2⟩
      · exact m2.elim
      · rw [List.getElem?_set_ne (Ne.symm n1)] at q3
        rw [List.getElem?_set_ne (Ne.symm n2)] at q4
        exact E.apart j k e e' a ne q1 q2 m1 m2 q3 q4
  keep := E.keep
  fsub := E.fsub
  live := E.live
  tape := E.tape
theorem EnvOk.seto (E : EnvOk C G F H σ ρ n) {i : Nat} {e : Ent} {p : Addr} (hm : EntOk C G F H e (.ref p)) (ho : ¬ Own σ ρ p) : EnvOk C G F H (σ.set i (some (.ref p))) (ρ.set i (some e)) n where
  len := by rw [List.length_set, List.length_set]; exact E.len
  slot := fun j e q => by
    rcases set_some q with ⟨rfl, rfl, hl⟩ | ⟨ne, q⟩
    · exact ⟨_, List.getElem?_set_self (by rw [← E.len]; exact hl), hm⟩
    · obtain ⟨u, q1, r⟩ := E.slot j e q
      exact ⟨u, by rw [List.getElem?_set_ne (Ne.symm ne)]; exact q1, r⟩
  apart := fun j k e1 e2 a ne q1 q2 m1 m2 q3 q4 => by
    rcases set_some q1 with ⟨rfl, rfl, hl⟩ | ⟨n1, q1⟩
    · rcases set_some q2 with ⟨rfl, rfl, _⟩ | ⟨n2, q2⟩
      · exact ne rfl
      · rw [List.getElem?_set_self (by rw [← E.len]; exact hl)] at q3
        cases q3
        rw [List.getElem?_set_ne (Ne.symm n2)] at q4
        exact ho ⟨k, e2, q2, m2, q4⟩
    · rcases set_some q2 with ⟨z, z2, hl⟩ | ⟨n2, q2⟩
      · rw [z, List.getElem?_set_self (by rw [← E.len]; exact hl)] at q4
        cases q4
        rw [List.getElem?_set_ne (Ne.symm n1)] at q3
        exact ho ⟨j, e1, q1, m1, q3⟩
      · rw [List.getElem?_set_ne (Ne.symm n1)] at q3
        rw [List.getElem?_set_ne (Ne.symm n2)] at q4
        exact E.apart j k e1 e2 a ne q1 q2 m1 m2 q3 q4
  keep := E.keep
  fsub := E.fsub
  live := E.live
  tape := E.tape
theorem kp_upd {a : Addr} {o o' : HO} (f : ¬ F a) (e : H a = some o) (h1 : ∀ xs, o ≠ .tup xs) (h2 : ∀ b u, o ≠ .frz b u) : Kp F H (upd H a o') := by
  refine ⟨fun x u fx q => ?_, fun x xs q => ?_, fun x b u q => ?_⟩
  · rw [upd_ne fun z => f (by rw [← z]; exact fx)]; exact q
  · rw [upd_ne fun z => ?_]
    · exact q
    · rw [z, e] at q; cases q; exact h1 _ rfl
  · rw [upd_ne fun z => ?_]
    · exact q
    · rw [z, e] at q; cases q; exact h2 _ _ rfl
/-- a list of one's own is changed -/
theorem EnvOk.write (E : EnvOk C G F H σ ρ n) {i : Nat} {ds ds' : List D} {a : Addr} {vs' : List V} (h : ρ[i]? = some (some (.own ds))) (hs : σ[i]? = some (some (.ref a))) (hd : Dats C F H ds' vs') : EnvOk C G F (upd H a (.lst vs')) σ (ρ.set i (some (.own ds'))) n ∧ ExtS F H F (upd H a (.lst vs')) := by
  obtain ⟨v, q, a', vs, e, f, h0, ht, hl, hr⟩ := E.slot i _ h
  rw [hs] at q
  cases q
  cases e
  have k : Kp F H (upd H a (.lst vs')) := kp_upd f hl (fun _ z => by cases z) fun _ _ z => by cases z
  have hi : i < ρ.length := (List.getElem?_eq_some_iff.mp h).1
  refine ⟨⟨by rw [List.length_set]; exact E.len, fun j e q => ?_, fun j k e1 e2 b ne q1 q2 m1 m2 q3 q4 => ?_, fun b o q hb => ?_, E.fsub, fun b fb => ?_, fun t hT => ?_⟩, fun _ z => z, k⟩
  · rcases set_some q with ⟨rfl, rfl, _⟩ | ⟨ne, q⟩
    · exact ⟨_, hs, a, vs', rfl, f, h0, ht, upd_same, Dats.mono k (fun _ z => z) _ _ hd⟩
    · obtain ⟨u, q1, r⟩ := E.slot j e q
      refine ⟨u, q1, ?_⟩
      cases e with
      | val d => exact Dat.mono k (fun _ z => z) d u r
      | own es =>
        obtain ⟨b, us, rfl, fb, hb0, hbt, hb, rb⟩ := r
        have nb : b ≠ a := fun z => E.apart j i _ _ a ne q h trivial trivial (by rw [← z]; exact q1) hs
        exact ⟨b, us, rfl, fb, hb0, hbt, by rw [upd_ne nb]; exact hb, Dats.mono k (fun _ z => z) _ _ rb⟩
      | dic es =>
        obtain ⟨b, us, rfl, fb, hb0, hbt, ⟨ks, hb, hb2⟩, rb⟩ := r
        have nb : b ≠ a := fun z => E.apart j i _ _ a ne q h trivial trivial (by rw [← z]; exact q1) hs
        exact ⟨b, us, rfl, fb, hb0, hbt, ⟨ks, by rw [upd_ne nb]; exact hb, hb2⟩, DKv.mono k (fun _ z => z) _ _ rb⟩
      | tape => exact r
  · have aux : ∀ {j : Nat} {e : Ent}, (ρ.set i (some (.own ds')))[j]? = some (some e) → e.mut → ∃ e', ρ[j]? = some (some e') ∧ e'.mut := fun {j e} z zm => by
      rcases set_some z with ⟨rfl, rfl, _⟩ | ⟨_, z⟩
      · exact ⟨_, h, trivial⟩
      · exact ⟨e, z, zm⟩
    obtain ⟨e1', z1, y1⟩ := aux q1 m1
    obtain ⟨e2', z2, y2⟩ := aux q2 m2
    exact E.apart j k e1' e2' b ne z1 z2 y1 y2 q3 q4
  · have nb : b ≠ a := fun z => by rw [z, h0] at q; cases q
    rw [upd_ne nb]
    exact E.keep b o q hb
  · by_cases z : b = a
    · exact ⟨_, by rw [z]; exact upd_same⟩
    · rw [upd_ne z]; exact E.live b fb
  · obtain ⟨h1, h2, h3⟩ := E.tape t hT
    refine ⟨h1.mono (fun o q => ?_) k (fun _ z => z) (Nat.le_refl _), h2, h3⟩
    rw [upd_ne fun z => ht (by rw [← z]; exact hT)]
    exact q
end

/-! ### targets -/
abbrev DG := D → Sl → (Sl → Prop) → Prop
abbrev DGs := List D → Sl → (Sl → Prop) → Prop
def liftG (C : Cfg) (g : DG) : TG := fun v σ H Q => ∃ (G : Gx) (F : Addr → Prop) (ρ : Sl) (n : Nat) (d : D) (K : Sl → Prop), EnvOk C G F H σ ρ n ∧ Dat C F H d v ∧ g d ρ K ∧ ∀ ρ', K ρ' → ∀ σ', EnvOk C G F H σ' ρ' n → Q σ' H
def liftGs (C : Cfg) (g : DGs) : TGs := fun vs σ H Q => ∃ (G : Gx) (F : Addr → Prop) (ρ : Sl) (n : Nat) (ds : List D) (K : Sl → Prop), EnvOk C G F H σ ρ n ∧ Dats C F H ds vs ∧ g ds ρ K ∧ ∀ ρ', K ρ' → ∀ σ', EnvOk C G F H σ' ρ' n → Q σ' H
abbrev RG (X : Cx) (e : Expr) (g : DG) : Prop := PG X e (liftG (cfg X) g)
abbrev RGs (X : Cx) (es : List Expr) (g : DGs) : Prop := PGs X es (liftGs (cfg X) g)
theorem PG.imp {X : Cx} {e : Expr} {t u : TG} (h : PG X e t) (q : ∀ v σ H Q, u v σ H Q → t v σ H Q) : PG X e u := ⟨fun pins s σ H v w Q I r z => h.run pins s σ H v w Q I r (q _ _ _ _ z)⟩
theorem PGs.imp {X : Cx} {e : List Expr} {t u : TGs} (h : PGs X e t) (q : ∀ v σ H Q, u v σ H Q → t v σ H Q) : PGs X e u := ⟨fun pins s σ H v w Q I r z => h.run pins s σ H v w Q I r (q _ _ _ _ z)⟩
def gN (i : Nat) : DG := fun d ρ K => K (ρ.set i (some (.val d)))
def gNil0 : DGs := fun ds ρ K => ds = [] ∧ K ρ
def gCo (g : DG) (gs : DGs) : DGs := fun ds ρ K => ∃ d r, ds = d :: r ∧ g d ρ fun ρ' => gs r ρ' K
def gT (n : Nat) (gs : DGs) : DG := fun d ρ K => ∃ ds, d = .tuple ds ∧ ds.length = n ∧ gs ds ρ K
section
variable {X : Cx} {a b c e : Expr} {es : List Expr} {pos : Pos} {st : Stmt} {sts : List Stmt}
theorem rg_n {i : Nat} (h : PG X e (gName i)) : RG X e (gN i) := PG.imp h fun v σ H Q ⟨G, F, ρ, n, d, K, E, hd, q, k⟩ => k _ q _ (E.setv hd)
theorem rgs_nil : RGs X [] gNil0 := PGs.imp pgs_nil fun v σ H Q ⟨G, F, ρ, n, ds, K, E, hd, ⟨e, q⟩, k⟩ => by
  subst e
  simp only [Dats] at hd
  exact ⟨hd, k _ q _ E⟩
theorem rgs_cons {g : DG} {gs : DGs} (h1 : RG X e g) (h2 : RGs X es gs) (hs : (assignEach (e :: es) X.env).map (·.2) = assign e X.env :: (assignEach es X.env).map (·.2) := by rfl) : RGs X (e :: es) (gCo g gs) :=
  PGs.imp (pgs_cons h1 h2 hs) fun v σ H Q ⟨G, F, ρ, n, ds, K, E, hd, ⟨d, r, e, q⟩, k⟩ => by
    subst e
    simp only [Dats] at hd
    obtain ⟨u, us, rfl, h1, h2⟩ := hd
    exact ⟨u, us, rfl, G, F, ρ, n, d, _, E, h1, q, fun ρ' q' σ' E' => ⟨G, F, ρ', n, r, K, E', h2, q', k⟩⟩
theorem rg_t {gs : DGs} {k n : Nat} (hc : X.calm = true) (h : RGs X es gs) (hn : (assignEach es X.env).length = n := by rfl) (hst : (assignEach es X.env).findIdx? (·.1) = none := by rfl) : RG X (.Tuple es k pos) (gT n gs) :=
  PG.imp (pg_tup hc h hn hst) fun v σ H Q ⟨G, F, ρ, m, d, K, E, hd, ⟨ds, e, hl, q⟩, k⟩ => by
    subst e
    simp only [Dat] at hd
    obtain ⟨a, vs, rfl, h1, r1⟩ := hd
    exact ⟨a, vs, rfl, h1, by rw [r1.len]; exact hl, G, F, ρ, m, ds, K, E, r1, q, k⟩

/-! ### statements -/
def dNext : DS := fun Dd ρ n => Dd.nx ρ n
def dSeq (t u : DS) : DS := fun Dd ρ n => t { Dd with nx := fun ρ' n' => u Dd ρ' n' } ρ n
theorem rss_nil : RSs X [] dNext := PSs.imp pss_nil fun Dq σ H ⟨G, F, ρ, n, Dd, E, q, k1, k2, k3, k4⟩ => k1 _ _ q _ _ _ E .refl
theorem rss_cons {t u : DS} (h1 : RS X st t) (h2 : RSs X sts u) : RSs X (st :: sts) (dSeq t u) := PSs.imp (pss_cons h1 h2) fun Dq σ H ⟨G, F, ρ, n, Dd, E, q, k1, k2, k3, k4⟩ =>
  ⟨G, F, ρ, n, _, E, q, fun ρ' m q' σ' H' F' E' x' => ⟨G, F', ρ', m, Dd, E', q', fun ρ2 m2 z σ2 H2 F2 E2 x2 => k1 ρ2 m2 z σ2 H2 F2 E2 (x'.trans x2), fun d m2 z v H2 F2 R2 x2 => k2 d m2 z v H2 F2 R2 (x'.trans x2),
    fun ρ2 m2 z σ2 H2 F2 E2 x2 => k3 ρ2 m2 z σ2 H2 F2 E2 (x'.trans x2), fun ρ2 m2 z σ2 H2 F2 E2 x2 => k4 ρ2 m2 z σ2 H2 F2 E2 (x'.trans x2)⟩, k2, k3, k4⟩
theorem rss_one {t : DS} (h : RS X st t) : RSs X [st] t := pss_one h
/-- name = e -/
def dSet (i : Nat) (t : DE) : DS := fun Dd ρ n => t ρ n fun d m => Dd.nx (ρ.set i (some (.val d))) m
theorem rs_set {i : Nat} {t : DE} (h : PS X st (tAsg (liftE (cfg X) t) (gName i))) : RS X st (dSet i t) := PS.imp h fun Dq σ H ⟨G, F, ρ, n, Dd, E, q, k1, k2, k3, k4⟩ => ⟨G, F, ρ, n, _, E, q, fun d m z v H' F' E' x' dv => k1 _ m z _ H' F' (E'.setv dv) x'.s⟩
/-- name = a fresh list, one's own -/
def dSetO (i : Nat) (t : DO) : DS := fun Dd ρ n => t ρ n fun ds m => Dd.nx (ρ.set i (some (.own ds))) m
theorem rs_setO {i : Nat} {t : DO} (h : PS X st (tAsg (liftO (cfg X) t) (gName i))) : RS X st (dSetO i t) := PS.imp h fun Dq σ H ⟨G, F, ρ, n, Dd, E, q, k1, k2, k3, k4⟩ => ⟨G, F, ρ, n, _, E, q, fun ds m z p vs H' F' E' x' hp nf hl hd => by
  have ho : ¬ Own σ ρ p := fun ho => by
    obtain ⟨⟨o, z⟩, _⟩ := E.own_some ho
    rw [hp] at z; cases z
  obtain ⟨h0, ht⟩ := E.none0 hp
  exact k1 _ m z _ H' F' (E'.seto ⟨p, vs, rfl, nf, h0, ht, hl, hd⟩ ho) x'.s⟩
/-- targets = e -/
def dAsg (t : DE) (g : DG) : DS := fun Dd ρ n => t ρ n fun d m => g d ρ fun ρ' => Dd.nx ρ' m
theorem rs_asg {t : DE} {g : DG} (h : PS X st (tAsg (liftE (cfg X) t) (liftG (cfg X) g))) : RS X st (dAsg t g) := PS.imp h fun Dq σ H ⟨G, F, ρ, n, Dd, E, q, k1, k2, k3, k4⟩ => ⟨G, F, ρ, n, _, E, q, fun d m z v H' F' E' x' dv => ⟨G, F', ρ, m, d, _, E', dv, z, fun ρ' q' σ' E2 => k1 ρ' m q' σ' H' F' E2 x'.s⟩⟩
/-- a, b = x, y -/
def dPar (i j : Nat) (t : DO) : DS := fun Dd ρ n => t ρ n fun ds m => ∃ x y, ds = [x, y] ∧ Dd.nx ((ρ.set i (some (.val x))).set j (some (.val y))) m
theorem rs_par {i j : Nat} {t : DO} (h : PS X st (tPar i j (liftL (cfg X) t))) : RS X st (dPar i j t) := PS.imp h fun Dq σ H ⟨G, F, ρ, n, Dd, E, q, k1, k2, k3, k4⟩ => ⟨G, F, ρ, n, _, E, q, fun ds m ⟨x, y, e, z⟩ vs H' F' E' x' dv => by
  subst e
  simp only [Dats] at dv
  obtain ⟨v, r, rfl, h1, w, r', rfl, h2, rfl⟩ := dv
  exact ⟨v, w, rfl, k1 _ m z _ H' F' ((E'.setv h1).setv h2) x'.s⟩⟩
def dIfS (c : DT) (t u : DS) : DS := fun Dd ρ n => c ρ n fun b n1 => if b = true then t Dd ρ n1 else u Dd ρ n1
theorem rs_if {c : Expr} {x y : List Stmt} {tc : DT} {t u : DS} (hc : RT X c tc) (ha : RSs X x t) (hb : RSs X y u) : RS X (.If c x y pos) (dIfS tc t u) := PS.imp (ps_if hc ha hb) fun Dq σ H ⟨G, F, ρ, n, Dd, E, q, k1, k2, k3, k4⟩ => ⟨G, F, ρ, n, _, E, q, fun b n1 q1 H1 F1 E1 x1 => by
  cases b with
  | true =>
    rw [if_pos rfl] at q1 ⊢
    exact ⟨G, F1, ρ, n1, Dd, E1, q1, fun ρ2 m2 z σ2 H2 F2 E2 x2 => k1 ρ2 m2 z σ2 H2 F2 E2 (x1.s.trans x2), fun d m2 z v H2 F2 R2 x2 => k2 d m2 z v H2 F2 R2 (x1.s.trans x2),
      fun ρ2 m2 z σ2 H2 F2 E2 x2 => k3 ρ2 m2 z σ2 H2 F2 E2 (x1.s.trans x2), fun ρ2 m2 z σ2 H2 F2 E2 x2 => k4 ρ2 m2 z σ2 H2 F2 E2 (x1.s.trans x2)⟩
  | false =>
    rw [if_neg Bool.false_ne_true] at q1 ⊢
    exact ⟨G, F1, ρ, n1, Dd, E1, q1, fun ρ2 m2 z σ2 H2 F2 E2 x2 => k1 ρ2 m2 z σ2 H2 F2 E2 (x1.s.trans x2), fun d m2 z v H2 F2 R2 x2 => k2 d m2 z v H2 F2 R2 (x1.s.trans x2),
      fun ρ2 m2 z σ2 H2 F2 E2 x2 => k3 ρ2 m2 z σ2 H2 F2 E2 (x1.s.trans x2), fun ρ2 m2 z σ2 H2 F2 E2 x2 => k4 ρ2 m2 z σ2 H2 F2 E2 (x1.s.trans x2)⟩⟩
def dBreak : DS := fun Dd ρ n => Dd.bk ρ n
def dCont : DS := fun Dd ρ n => Dd.ct ρ n
theorem rs_break : RS X (.Break pos) dBreak := PS.imp ps_break fun Dq σ H ⟨G, F, ρ, n, Dd, E, q, k1, k2, k3, k4⟩ => k3 _ _ q _ _ _ E .refl
theorem rs_cont : RS X (.Continue pos) dCont := PS.imp ps_continue fun Dq σ H ⟨G, F, ρ, n, Dd, E, q, k1, k2, k3, k4⟩ => k4 _ _ q _ _ _ E .refl
theorem rs_pass : RS X (.Pass pos) dNext := PS.imp ps_pass fun Dq σ H ⟨G, F, ρ, n, Dd, E, q, k1, k2, k3, k4⟩ => k1 _ _ q _ _ _ E .refl
theorem EnvOk.ret {C : Cfg} {G : Gx} {F : Addr → Prop} {H : Hp} {σ : L2.St} {ρ : Sl} {n : Nat} (E : EnvOk C G F H σ ρ n) {d : D} {v : V} (h : Dat C F H d v) : RetOk C G F H d v n := ⟨h, E.live, E.keep, E.fsub, E.tape⟩
def dRet (t : DE) : DS := fun Dd ρ n => t ρ n Dd.rt
theorem rs_ret {t : DE} (h : RE X e t) : RS X (.Return (some e) pos) (dRet t) := PS.imp (ps_ret h) fun Dq σ H ⟨G, F, ρ, n, Dd, E, q, k1, k2, k3, k4⟩ => ⟨G, F, ρ, n, _, E, q, fun d m z v H' F' E' x' dv => k2 d m z v H' F' (E'.ret dv) x'.s⟩
def dRetN : DS := fun Dd ρ n => Dd.rt .none n
theorem rs_retN : RS X (.Return none pos) dRetN := PS.imp ps_retN fun Dq σ H ⟨G, F, ρ, n, Dd, E, q, k1, k2, k3, k4⟩ => k2 .none n q .non H F (E.ret (by simp only [Dat])) .refl
/-- an expression whose value is dropped -/
def dDrop (t : DE) : DS := fun Dd ρ n => t ρ n fun _ m => Dd.nx ρ m
theorem rs_expr {t : DE} (h : PS X st (tDrop (liftE (cfg X) t))) : RS X st (dDrop t) := PS.imp h fun Dq σ H ⟨G, F, ρ, n, Dd, E, q, k1, k2, k3, k4⟩ => ⟨G, F, ρ, n, _, E, q, fun d m z v H' F' E' x' dv => k1 _ m z _ H' F' E' x'.s⟩

/-- what is one's own is one's own no more -/
def frz : Ent → Option D
  | .own ds => some (.list ds)
  | .dic kvs => some (.dict kvs)
  | .val d => some d
  | .tape => none
def dFrz (i : Nat) (t : DS) : DS := fun Dd ρ n => match ρ[i]? with
  | some (some e) => ∃ d, frz e = some d ∧ t Dd (ρ.set i (some (.val d))) n
  | _ => False
theorem Own.set_val {σ : L2.St} {ρ : Sl} {i : Nat} {d : D} {a : Addr} (h : Own σ (ρ.set i (some (.val d))) a) : ∃ (j : Nat) (e : Ent), j ≠ i ∧ ρ[j]? = some (some e) ∧ e.mut ∧ σ[j]? = some (some (.ref a)) := by
  obtain ⟨j, e, h1, h2, h3⟩ := h
  rcases set_some h1 with ⟨rfl, rfl, _⟩ | ⟨ne, h1⟩
  · exact h2.elim
  · exact ⟨j, e, ne, h1, h2, h3⟩
theorem set_id {α : Type} {l : List α} {i : Nat} {x : α} (h : l[i]? = some x) : l.set i x = l := by
  apply List.ext_getElem?
  intro j
  by_cases e : j = i
  · subst e
    obtain ⟨hl, _⟩ := List.getElem?_eq_some_iff.mp h
    rw [List.getElem?_set_self hl, h]
  · rw [List.getElem?_set_ne (Ne.symm e)]
theorem EnvOk.frz {C : Cfg} {G : Gx} {F : Addr → Prop} {H : Hp} {σ : L2.St} {ρ : Sl} {n i : Nat} {e : Ent} {d : D} (E : EnvOk C G F H σ ρ n) (h : ρ[i]? = some (some e)) (hf : frz e = some d) : ∃ F', EnvOk C G F' H σ (ρ.set i (some (.val d))) n ∧ ∀ a, F a → F' a := by
  obtain ⟨v, q, r⟩ := E.slot i e h
  -- the slot, not looked at for a while
  have base : EnvOk C G F H σ (ρ.set i none) n := by
    refine ⟨by rw [List.length_set]; exact E.len, fun j e' z => ?_, fun j k e1 e2 b ne q1 q2 m1 m2 q3 q4 => ?_, E.keep, E.fsub, E.live, E.tape⟩
    · by_cases hj : j = i
      · rw [hj, List.getElem?_set] at z
        split at z
        · split at z <;> cases z
        · rename_i w; exact absurd rfl w
      · rw [List.getElem?_set_ne (Ne.symm hj)] at z
        exact E.slot j e' z
    · have aux : ∀ {j : Nat} {e : Ent}, (ρ.set i none)[j]? = some (some e) → ρ[j]? = some (some e) := fun {j e} z => by
        by_cases hj : j = i
        · rw [hj, List.getElem?_set] at z
          split at z
          · split at z <;> cases z
          · rename_i w; exact absurd rfl w
        · rw [List.getElem?_set_ne (Ne.symm hj)] at z
          exact z
      exact E.apart j k e1 e2 b ne (aux q1) (aux q2) m1 m2 q3 q4
  have fin : ∀ {F' : Addr → Prop}, EnvOk C G F' H σ (ρ.set i none) n → Dat C F' H d v → EnvOk C G F' H σ (ρ.set i (some (.val d))) n := fun {F'} E' hd => by
    have z := E'.setv (i := i) hd
    rw [List.set_set, set_id q] at z
    exact z
  have notown : ∀ {a : Addr}, e.mut → v = .ref a → ¬ Own σ (ρ.set i none) a := fun {a} hm hv ⟨j, e', h1, h2, h3⟩ => by
    by_cases hj : j = i
    · rw [hj, List.getElem?_set] at h1
      split at h1
      · split at h1 <;> cases h1
      · rename_i w; exact absurd rfl w
    · rw [List.getElem?_set_ne (Ne.symm hj)] at h1
      exact E.apart j i e' e a hj h1 h h2 hm h3 (by rw [← hv]; exact q)
  cases e with
  | val d' => cases hf; exact ⟨F, fin base r, fun _ z => z⟩
  | own ds =>
    cases hf
    obtain ⟨a, vs, rfl, f, h0, ht, hl, hr⟩ := r
    refine ⟨fun x => F x ∨ x = a, fin (base.freeze (notown trivial rfl) h0 ht ⟨_, hl⟩) ?_, fun _ z => .inl z⟩
    simp only [Dat]
    exact ⟨a, vs, rfl, .inr rfl, hl, Dats.mono .refl (fun _ z => .inl z) _ _ hr⟩
  | dic kvs =>
    cases hf
    obtain ⟨a, vs, rfl, f, h0, ht, hl, hr⟩ := r
    obtain ⟨ks, hk, _⟩ := id hl
    refine ⟨fun x => F x ∨ x = a, fin (base.freeze (notown trivial rfl) h0 ht ⟨_, hk⟩) ?_, fun _ z => .inl z⟩
    simp only [Dat]
    exact ⟨a, vs, rfl, .inr rfl, hl, DKv.mono .refl (fun _ z => .inl z) _ _ hr⟩
  | tape => cases hf
theorem rss_frz {i : Nat} {t : DS} (h : RSs X sts t) : RSs X sts (dFrz i t) := PSs.imp h fun Dq σ H ⟨G, F, ρ, n, Dd, E, q, k1, k2, k3, k4⟩ => by
  unfold dFrz at q
  split at q
  · rename_i e he
    obtain ⟨d, hf, q⟩ := q
    obtain ⟨F', E', s⟩ := E.frz he hf
    have x0 : ExtS F H F' H := ⟨s, .refl⟩
    exact ⟨G, F', _, n, Dd, E', q, fun ρ2 m2 z σ2 H2 F2 E2 x2 => k1 ρ2 m2 z σ2 H2 F2 E2 (x0.trans x2), fun d m2 z v H2 F2 R2 x2 => k2 d m2 z v H2 F2 R2 (x0.trans x2),
      fun ρ2 m2 z σ2 H2 F2 E2 x2 => k3 ρ2 m2 z σ2 H2 F2 E2 (x0.trans x2), fun ρ2 m2 z σ2 H2 F2 E2 x2 => k4 ρ2 m2 z σ2 H2 F2 E2 (x0.trans x2)⟩
  · exact q.elim

/-! ### lists of one's own -/
def dApp (i : Nat) (t : DE) : DS := fun Dd ρ n => ∃ ds0, ρ[i]? = some (some (.own ds0)) ∧ t ρ n fun d m => ds0.length < sizeLine ∧ Dd.nx (ρ.set i (some (.own (ds0 ++ [d])))) m
theorem rs_app {i : Nat} {t : DE} (h : PS X st (tDrop (tBM X.K "list" rAppend (tVar i) (tCons (liftE (cfg X) t) tNil)))) : RS X st (dApp i t) := PS.imp h fun Dq σ H ⟨G, F, ρ, n, Dd, E, ⟨ds, he, q⟩, k1, k2, k3, k4⟩ => by
  obtain ⟨v, hv, a, vs, rfl, f, h0, ht, hl, hr⟩ := E.slot i _ he
  refine ⟨_, hv, .inl ⟨rfl, _, SqL.of hl⟩, G, F, ρ, n, _, E, q, fun d m ⟨hz, z⟩ v H' F' E' x' dv => ?_⟩
  obtain ⟨v2, hv2, a2, vs2, e2, f2, h02, ht2, hl2, hr2⟩ := E'.slot i _ he
  rw [hv] at hv2
  cases hv2
  cases e2
  obtain ⟨E2, x2⟩ := E'.write he hv (hr2.snoc dv)
  exact ⟨a, vs2, v, rfl, rfl, hl2, by rw [hr2.len]; exact hz, k1 _ m z σ _ F' E2 (x'.s.trans x2)⟩
def dExt (i : Nat) (t : DE) : DS := fun Dd ρ n => ∃ ds0, ρ[i]? = some (some (.own ds0)) ∧ t ρ n fun d m => ∃ es, d = .list es ∧ ds0.length + es.length ≤ sizeLine ∧ Dd.nx (ρ.set i (some (.own (ds0 ++ es)))) m
theorem rs_ext {i : Nat} {t : DE} (h : PS X st (tDrop (tBM X.K "list" rExtend (tVar i) (tCons (liftB (cfg X) t) tNil)))) : RS X st (dExt i t) := PS.imp h fun Dq σ H ⟨G, F, ρ, n, Dd, E, ⟨ds, he, q⟩, k1, k2, k3, k4⟩ => by
  obtain ⟨v, hv, a, vs, rfl, f, h0, ht, hl, hr⟩ := E.slot i _ he
  refine ⟨_, hv, .inl ⟨rfl, _, SqL.of hl⟩, G, F, ρ, n, _, E, q, fun d m ⟨es, e, hz, z⟩ v H' F' E' x' dv => ?_⟩
  subst e
  obtain ⟨v2, hv2, a2, vs2, e2, f2, h02, ht2, hl2, hr2⟩ := E'.slot i _ he
  rw [hv] at hv2
  cases hv2
  cases e2
  obtain ⟨b, us, rfl, _, hb, rb⟩ := dv.list
  obtain ⟨E2, x2⟩ := E'.write he hv (hr2.append rb)
  exact ⟨a, b, vs2, us, rfl, rfl, hl2, hb, by rw [hr2.len, rb.len]; exact hz, k1 _ m z σ _ F' E2 (x'.s.trans x2)⟩
/-- name = list.pop() -/
def dPop (j i : Nat) : DS := fun Dd ρ n => ∃ ds d, ρ[i]? = some (some (.own (ds ++ [d]))) ∧ Dd.nx ((ρ.set i (some (.own ds))).set j (some (.val d))) n
theorem rs_pop {i j : Nat} (h : PS X st (tAsg (tBM0 X.K "list" rPop (tVar i)) (gName j))) : RS X st (dPop j i) := PS.imp h fun Dq σ H ⟨G, F, ρ, n, Dd, E, ⟨ds, d, he, q⟩, k1, k2, k3, k4⟩ => by
  obtain ⟨v, hv, a, vs, rfl, f, h0, ht, hl, hr⟩ := E.slot i _ he
  have hlen := hr.len
  rw [List.length_append, List.length_singleton] at hlen
  have hget : (ds ++ [d])[vs.length - 1]? = some d := by
    rw [hlen, Nat.add_sub_cancel]
    simp
  obtain ⟨u, hu, du⟩ := hr.get hget
  have hdrop : Dats (cfg X) F H ds vs.dropLast := by
    have z := hr.take ds.length
    rw [List.take_left' rfl, show ds.length = vs.length - 1 by omega, ← List.dropLast_eq_take] at z
    exact z
  refine ⟨_, hv, .inl ⟨rfl, _, SqL.of hl⟩, a, vs, u, rfl, rfl, hl, hu, ?_⟩
  obtain ⟨E2, x2⟩ := E.write he hv hdrop
  exact k1 _ n q _ _ F (E2.setv (Dat.mono x2.kp x2.sub d u du)) x2
/-- list[k] = e -/
def dSetIx (i : Nat) (ti te : DE) : DS := fun Dd ρ n => te ρ n fun d n1 => ∃ ds0, ρ[i]? = some (some (.own ds0)) ∧ ti ρ n1 fun x m => ∃ k j, x = .int k ∧ ixN ds0.length k = some j ∧ Dd.nx (ρ.set i (some (.own (ds0.set j d)))) m
theorem Dats.set {C : Cfg} {F : Addr → Prop} {H : Hp} : ∀ {ds : List D} {vs : List V} {d : D} {v : V} (j : Nat), Dats C F H ds vs → Dat C F H d v → Dats C F H (ds.set j d) (vs.set j v)
  | [], vs, d, v, j, h, g => by simp only [Dats] at h; subst h; simp [Dats]
  | x :: ds, vs, d, v, 0, h, g => by
    simp only [Dats] at h
    obtain ⟨u, r, rfl, h1, h2⟩ := h
    simp only [List.set_cons_zero, Dats]
    exact ⟨v, r, rfl, g, h2⟩
  | x :: ds, vs, d, v, j + 1, h, g => by
    simp only [Dats] at h
    obtain ⟨u, r, rfl, h1, h2⟩ := h
    simp only [List.set_cons_succ, Dats]
    exact ⟨u, _, rfl, h1, Dats.set j h2 g⟩
theorem rs_setIx {i : Nat} {ti te : DE} (h : PS X st (tAsg (liftE (cfg X) te) (gSub (tVar i) (liftB (cfg X) ti) rSetL))) : RS X st (dSetIx i ti te) := PS.imp h fun Dq σ H ⟨G, F, ρ, n, Dd, E, q, k1, k2, k3, k4⟩ => ⟨G, F, ρ, n, _, E, q, fun d n1 ⟨ds, he, q1⟩ v H1 F1 E1 x1 dv => by
  obtain ⟨w, hv, a, vs, rfl, f, h0, ht, hl, hr⟩ := E1.slot i _ he
  refine ⟨_, hv, G, F1, ρ, n1, _, E1, q1, fun x m ⟨k, j, e, hj, z⟩ u H2 F2 E2 x2 du => ?_⟩
  subst e
  obtain ⟨v2, hv2, a2, vs2, e2, f2, h02, ht2, hl2, hr2⟩ := E2.slot i _ he
  rw [hv] at hv2
  cases hv2
  cases e2
  obtain ⟨E3, x3⟩ := E2.write he hv (hr2.set j (Dat.mono x2.kp x2.sub d v dv))
  exact ⟨a, vs2, k, j, rfl, du.int, hl2, by rw [hr2.len]; exact hj, k1 _ m z σ _ F2 E3 ((x1.trans x2 E E1).s.trans x3)⟩⟩

/-! ### while -/
def dWh (c : DT) (tb : DS) : DS := fun Dd ρ n => ∃ W : Nat → Sl → Nat → Prop, (∃ m, W m ρ n) ∧ ∀ m ρ n, W m ρ n →
  c ρ n fun b n1 => if b = true then tb { Dd with nx := fun ρ' n' => ∃ m', m' < m ∧ W m' ρ' n', ct := fun ρ' n' => ∃ m', m' < m ∧ W m' ρ' n', bk := Dd.nx } ρ n1 else Dd.nx ρ n1
theorem rs_while {c : Expr} {body : List Stmt} {tc : DT} {tb : DS} (hp : PassesOwn (model X.prog X.w) X.A X.env X.xe) (hc : RT X c tc) (hb : RSs X body tb) : RS X (.While c body [] pos) (dWh tc tb) := PS.imp (ps_while hp hc hb) fun Dq σ H ⟨G, F, ρ, n, Dd, E, ⟨W, ⟨m0, w0⟩, turn⟩, k1, k2, k3, k4⟩ => by
  refine ⟨fun m σ' H' => ∃ F' ρ' n', EnvOk (cfg X) G F' H' σ' ρ' n' ∧ ExtS F H F' H' ∧ W m ρ' n', ⟨m0, F, ρ, n, E, .refl, w0⟩, ?_⟩
  rintro m σ1 H1 ⟨F1, ρ1, n1, E1, x1, w1⟩
  refine ⟨G, F1, ρ1, n1, _, E1, turn m ρ1 n1 w1, fun b n2 q2 H2 F2 E2 x2 => ?_⟩
  cases b with
  | true =>
    rw [if_pos rfl] at q2 ⊢
    refine ⟨fun σ' H' => ∃ m', m' < m ∧ ∃ F' ρ' n', EnvOk (cfg X) G F' H' σ' ρ' n' ∧ ExtS F H F' H' ∧ W m' ρ' n', fun σ' H' ⟨m', hm, z⟩ => ⟨m', hm, z⟩, ?_⟩
    exact ⟨G, F2, ρ1, n2, _, E2, q2, fun ρ3 m3 ⟨m', hm, z⟩ σ3 H3 F3 E3 x3 => ⟨m', hm, F3, ρ3, m3, E3, x1.trans (x2.s.trans x3), z⟩, fun d m3 z v H3 F3 R3 x3 => k2 d m3 z v H3 F3 R3 (x1.trans (x2.s.trans x3)),
      fun ρ3 m3 z σ3 H3 F3 E3 x3 => k1 ρ3 m3 z σ3 H3 F3 E3 (x1.trans (x2.s.trans x3)), fun ρ3 m3 ⟨m', hm, z⟩ σ3 H3 F3 E3 x3 => ⟨m', hm, F3, ρ3, m3, E3, x1.trans (x2.s.trans x3), z⟩⟩
  | false =>
    rw [if_neg Bool.false_ne_true] at q2 ⊢
    exact k1 ρ1 n2 q2 σ1 H2 F2 E2 (x1.trans x2.s)
end
end DL

namespace DL
open PySem L2 RT

/-! ### what is walked -/
structure ItOk (C : Cfg) (S F1 : Addr → Prop) (H1 : Hp) (J : It) (items : List D) : Prop where
  go : ∀ (i : Nat) (H : Hp), Kp S H1 H → i < items.length → J.go i H
  stop : ∀ (i : Nat) (H : Hp), Kp S H1 H → items.length ≤ i → J.stop i H
  yld : ∀ (i : Nat) (H : Hp) (F : Addr → Prop) (x : V) (H' : Hp), Kp S H1 H → (∀ a, F1 a → F a) → i < items.length → J.yld i H x H' → ∃ d, items[i]? = some d ∧ Grow F H F H' ∧ Dat C F H' d x
abbrev DI := Sl → Nat → (List D → Nat → Prop) → Prop
def liftI (C : Cfg) (ti : DI) : TI := fun σ H R => ∃ (G : Gx) (F : Addr → Prop) (ρ : Sl) (n : Nat) (Qd : List D → Nat → Prop), EnvOk C G F H σ ρ n ∧ ti ρ n Qd ∧
  ∀ items m, Qd items m → ∀ J H' F', EnvOk C G F' H' σ ρ m → Ext G F H F' H' → ItOk C F' F' H' J items → R J H'
/-- .. a list of one's own too: nothing of one's own is changed while it is walked -/
def liftIB (C : Cfg) (ti : DI) : TI := fun σ H R => ∃ (G : Gx) (F : Addr → Prop) (ρ : Sl) (n : Nat) (Qd : List D → Nat → Prop), EnvOk C G F H σ ρ n ∧ ti ρ n Qd ∧
  ∀ items m, Qd items m → ∀ J H' F', EnvOk C G F' H' σ ρ m → Ext G F H F' H' → ItOk C (fun a => F' a ∨ Own σ ρ a) F' H' J items → R J H'
abbrev RI (X : Cx) (tg iter : Expr) (ti : DI) : Prop := PI X tg iter (liftI (cfg X) ti)
abbrev RIB (X : Cx) (tg iter : Expr) (ti : DI) : Prop := PI X tg iter (liftIB (cfg X) ti)
theorem PI.imp {X : Cx} {tg e : Expr} {t u : TI} (h : PI X tg e t) (q : ∀ σ H Q, u σ H Q → t σ H Q) : PI X tg e u := ⟨fun pins s σ H Q I z => h.run pins s σ H Q I (q _ _ _ z)⟩
theorem Kp.sub {F S : Addr → Prop} {H H' : Hp} (k : Kp S H H') (s : ∀ a, F a → S a) : Kp F H H' := ⟨fun a o f e => k.fr a o (s a f) e, k.tu, k.fz⟩
theorem ItOk.sub {C : Cfg} {S F1 : Addr → Prop} {H1 : Hp} {J : It} {items : List D} (h : ItOk C F1 F1 H1 J items) (s : ∀ a, F1 a → S a) : ItOk C S F1 H1 J items :=
  ⟨fun i H k => h.go i H (k.sub s), fun i H k => h.stop i H (k.sub s), fun i H F x H' k => h.yld i H F x H' (k.sub s)⟩

/-- the items of a list, a tuple -/
def gSeq : D → (List D → Prop) → Prop
  | .list ds, Q => Q ds
  | .tuple ds, Q => Q ds
  | .str z, Q => Q (z.cps.toList.map fun c => .str ⟨#[c]⟩)
  | _, _ => False
def diSeq (t : DE) : DI := fun ρ n Q => t ρ n fun x m => gSeq x fun ds => Q ds m
/-- a list, a tuple or a text -/
def iAny (K : PySem.W.Frag) (tl : TE) : TI := fun σ H R => tl σ H fun x H1 => (∃ a, x = .ref a ∧ (∃ xs, SqL K H1 a xs) ∧ R (Itl K a) H1) ∨ (∃ a, x = .ref a ∧ (∃ xs, SqT K H1 a xs) ∧ R (Itt K a) H1) ∨ ∃ z, x = .str z ∧ R (Its z) H1
theorem pi_any {X : Cx} {tg l : Expr} {tl : TE} (hl : PE X l tl) : PI X tg l (iAny X.K tl) := by
  refine ⟨fun pins s σ H R I h => ?_⟩
  refine thn (hl.run pins s σ H _ I h) fun v s1 ⟨x, H1, I1, r1, q1⟩ => ?_
  rcases q1 with ⟨a, rfl, ⟨xs, hq⟩, q⟩ | ⟨a, rfl, ⟨xs, hq⟩, q⟩ | ⟨z, rfl, q⟩
  · cases r1
    obtain ⟨its, rv, p, hz⟩ := I1.list hq
    refine wpAny_pyIter_list p.isList ?_
    exact pi_one (tk := s1.toks) I1 _ (turn_list a _) ⟨_, Heap.get?_push_size _ rfl, rfl, rfl⟩ q
  · cases r1
    obtain ⟨its, rv, p, hz⟩ := I1.tuple hq
    refine wpAny_pyIter_tuple (show s1.heap.IsTuple a its.toArray from p) ?_
    exact pi_one (tk := s1.toks) I1 _ (turn_tuple a _) ⟨_, Heap.get?_push_size _ rfl, rfl, rfl⟩ q
  · obtain ⟨t, rfl⟩ := r1
    cases ha : z.cps.all (· < 128)
    · exact wpAny_pyIter_wide ha (pi_one (tk := s1.toks) I1 _ (turn_str _ z t "str_iterator" (.inr rfl)) ⟨_, Heap.get?_push_size _ rfl, rfl, rfl⟩ q)
    · exact wpAny_pyIter_ascii ha (pi_one (tk := s1.toks) I1 _ (turn_str _ z t "str_ascii_iterator" (.inl rfl)) ⟨_, Heap.get?_push_size _ rfl, rfl, rfl⟩ q)
theorem it_list {C : Cfg} {S F1 : Addr → Prop} {H1 : Hp} {a : Addr} {vs : List V} {ds : List D} (hs : ∀ a, F1 a → S a) (ha : S a) (hl : H1 a = some (.lst vs)) (hd : Dats C F1 H1 ds vs) : ItOk C S F1 H1 (Itl C.K a) ds where
  go := fun i H k hi => ⟨vs, vs[i]'(by rw [hd.len]; exact hi), SqL.of (k.fr a _ ha hl), List.getElem?_eq_getElem _⟩
  stop := fun i H k hi => ⟨vs, SqL.of (k.fr a _ ha hl), by rw [hd.len]; exact hi⟩
  yld := fun i H F x H' k s _ ⟨e, y⟩ => by
    subst e
    obtain ⟨d, h1, h2⟩ := hd.get' (y vs (SqL.of (k.fr a _ ha hl)))
    exact ⟨d, h1, .refl, Dat.mono (k.sub hs) s d x h2⟩
theorem it_tup {C : Cfg} {S F1 : Addr → Prop} {H1 : Hp} {a : Addr} {vs : List V} {ds : List D} (hs : ∀ a, F1 a → S a) (hl : SqT C.K H1 a vs) (hd : Dats C F1 H1 ds vs) : ItOk C S F1 H1 (Itt C.K a) ds where
  go := fun i H k hi => ⟨vs, vs[i]'(by rw [hd.len]; exact hi), k.sqT hl, List.getElem?_eq_getElem _⟩
  stop := fun i H k hi => ⟨vs, k.sqT hl, by rw [hd.len]; exact hi⟩
  yld := fun i H F x H' k s _ ⟨e, y⟩ => by
    subst e
    obtain ⟨d, h1, h2⟩ := hd.get' (y vs (k.sqT hl))
    exact ⟨d, h1, .refl, Dat.mono (k.sub hs) s d x h2⟩
theorem it_str {C : Cfg} {S F1 : Addr → Prop} {H1 : Hp} {z : Str} : ItOk C S F1 H1 (Its z) (z.cps.toList.map fun c => .str ⟨#[c]⟩) where
  go := fun i H k hi => by
    rw [List.length_map, Array.length_toList] at hi
    exact hi
  stop := fun i H k hi => by
    rw [List.length_map, Array.length_toList] at hi
    exact hi
  yld := fun i H F x H' k s _ ⟨e, c, hc, hx⟩ => by
    subst e
    refine ⟨.str ⟨#[c]⟩, ?_, .refl, by simp only [Dat]; exact hx⟩
    rw [List.getElem?_map, Array.getElem?_toList, hc]
    rfl
section
variable {X : Cx} {tg a b e : Expr} {pos : Pos} {st : Stmt} {sts : List Stmt}
theorem ri_seq {t : DE} (h : RE X a t) : RI X tg a (diSeq t) := PI.imp (pi_any h) fun σ H R ⟨G, F, ρ, n, Qd, E, q, k⟩ => ⟨G, F, ρ, n, _, E, q, fun d m z v H' F' E' x dv => by
  unfold gSeq at z
  split at z
  · simp only [Dat] at dv
    obtain ⟨a, vs, rfl, f, hl, hd⟩ := dv
    exact .inl ⟨a, rfl, ⟨vs, SqL.of hl⟩, k _ m z _ H' F' E' x (it_list (fun _ w => w) f hl hd)⟩
  · simp only [Dat] at dv
    obtain ⟨a, vs, rfl, hl, hd⟩ := dv
    exact .inr (.inl ⟨a, rfl, ⟨vs, hl⟩, k _ m z _ H' F' E' x (it_tup (fun _ w => w) hl hd)⟩)
  · simp only [Dat] at dv
    exact .inr (.inr ⟨_, dv, k _ m z _ H' F' E' x it_str⟩)
  · exact z.elim⟩
theorem rib_seq {t : DE} (h : RB X a t) : RIB X tg a (diSeq t) := PI.imp (pi_any h) fun σ H R ⟨G, F, ρ, n, Qd, E, q, k⟩ => ⟨G, F, ρ, n, _, E, q, fun d m z v H' F' E' x dv => by
  unfold gSeq at z
  split at z
  · obtain ⟨a, vs, rfl, f, hl, hd⟩ := dv.list
    exact .inl ⟨a, rfl, ⟨vs, SqL.of hl⟩, k _ m z _ H' F' E' x (it_list (fun _ w => .inl w) f hl hd)⟩
  · obtain ⟨a, vs, rfl, hl, hd⟩ := dv.tuple
    exact .inr (.inl ⟨a, rfl, ⟨vs, hl⟩, k _ m z _ H' F' E' x (it_tup (fun _ w => .inl w) hl hd)⟩)
  · exact .inr (.inr ⟨_, dv.str, k _ m z _ H' F' E' x it_str⟩)
  · exact z.elim⟩
theorem RI.toB {ti : DI} (h : RI X tg a ti) : RIB X tg a ti := PI.imp h fun σ H R ⟨G, F, ρ, n, Qd, E, q, k⟩ => ⟨G, F, ρ, n, _, E, q, fun items m z J H' F' E' x i => k items m z J H' F' E' x (i.sub fun _ w => .inl w)⟩
/-- ranges -/
def ranged (lo : Int) (n : Nat) : List D := (List.range n).map fun i => .int (lo + (i : Nat))
theorem it_range {C : Cfg} {S F1 : Addr → Prop} {H1 : Hp} {lo : Int} {n : Nat} : ItOk C S F1 H1 (Itr lo n) (ranged lo n) where
  go := fun i H k hi => by
    unfold ranged at hi
    rw [List.length_map, List.length_range] at hi
    exact hi
  stop := fun i H k hi => by
    unfold ranged at hi
    rw [List.length_map, List.length_range] at hi
    exact hi
  yld := fun i H F x H' k s hi ⟨e, hx⟩ => by
    subst e
    subst hx
    unfold ranged at hi
    rw [List.length_map, List.length_range] at hi
    refine ⟨.int (lo + (i : Nat)), ?_, .refl, by simp only [Dat]⟩
    unfold ranged
    rw [List.getElem?_map, List.getElem?_range hi]
    rfl
def gRg1 : D → (List D → Prop) → Prop
  | .int j, Q => -(2 ^ 62) ≤ j ∧ j < 2 ^ 62 ∧ Q (ranged 0 j.toNat)
  | _, _ => False
def diRg1 (t : DE) : DI := fun ρ n Q => t ρ n fun x m => gRg1 x fun ds => Q ds m
def gRg2 : D → D → (List D → Prop) → Prop
  | .int i, .int j, Q => -(2 ^ 62) ≤ i ∧ i < 2 ^ 62 ∧ -(2 ^ 62) ≤ j ∧ j < 2 ^ 62 ∧ Q (ranged i (j - i).toNat)
  | _, _, _ => False
def diRg2 (t u : DE) : DI := fun ρ n Q => t ρ n fun x n1 => u ρ n1 fun y m => gRg2 x y fun ds => Q ds m
theorem ri_rg1 {p : Pos} {t : DE} (hm : X.mg "range" = none) (h : RB X a t) (hg : Gl X "range" := by rfl) (hs : starEach [a] X.env = (false, eval a X.env) :: starEach [] X.env := by rfl) (hs2 : starEach [a] X.env = [(false, eval a X.env)] := by rfl) : RI X tg (.Call (.Name "range" p) [a] [] pos) (diRg1 t) :=
  PI.imp (pi_range1 hg hm (pa_cons h pa_nil hs) hs2) fun σ H R ⟨G, F, ρ, n, Qd, E, q, k⟩ => ⟨G, F, ρ, n, _, E, q, fun d m z v H' F' E' x dv => by
    unfold gRg1 at z
    split at z
    · exact ⟨_, by rw [dv.int], z.1, z.2.1, k _ m z.2.2 _ H' F' E' x it_range⟩
    · exact z.elim⟩
theorem ri_rg2 {p : Pos} {t u : DE} (hm : X.mg "range" = none) (h : RB X a t) (h2 : RB X b u) (hg : Gl X "range" := by rfl) (hs : starEach (a :: [b]) X.env = (false, eval a X.env) :: starEach [b] X.env := by rfl) (hs' : starEach (b :: []) X.env = (false, eval b X.env) :: starEach [] X.env := by rfl)
    (hs2 : starEach [a, b] X.env = [(false, eval a X.env), (false, eval b X.env)] := by rfl) (hs3 : starEach [b] X.env = [(false, eval b X.env)] := by rfl) : RI X tg (.Call (.Name "range" p) [a, b] [] pos) (diRg2 t u) :=
  PI.imp (pi_range2 hg hm (pa_cons h (pa_cons h2 pa_nil hs') hs) hs2 hs3) fun σ H R ⟨G, F, ρ, n, Qd, E, q, k⟩ => ⟨G, F, ρ, n, _, E, q, fun d m z v H' F' E' x dv => ⟨G, F', ρ, m, _, E', z, fun d2 m2 z2 v2 H2 F2 E2 x2 dv2 => by
    unfold gRg2 at z2
    split at z2
    · exact ⟨_, _, by rw [dv.int, dv2.int], ⟨z2.1, z2.2.1, z2.2.2.1, z2.2.2.2.1⟩, k _ m2 z2.2.2.2.2 _ H2 F2 E2 (x.trans x2 E E') it_range⟩
    · exact z2.elim⟩⟩
/-- reversed(list or tuple) -/
theorem it_rev {C : Cfg} {S F1 : Addr → Prop} {H1 : Hp} {a : Addr} {vs : List V} {ds : List D} (hs : ∀ a, F1 a → S a) (ha : S a) (hl : H1 a = some (.lst vs)) (hd : Dats C F1 H1 ds vs) : ItOk C S F1 H1 (Itv C.K a vs.length) ds.reverse where
  go := fun i H k hi => by
    rw [List.length_reverse] at hi
    have hl' := hd.len
    exact ⟨by omega, vs, vs[vs.length - 1 - i]'(by omega), SqL.of (k.fr a _ ha hl), List.getElem?_eq_getElem _⟩
  stop := fun i H k hi => by
    rw [List.length_reverse] at hi
    show vs.length ≤ i
    rw [hd.len]; exact hi
  yld := fun i H F x H' k s hi ⟨e, y⟩ => by
    subst e
    rw [List.length_reverse] at hi
    obtain ⟨d, h1, h2⟩ := hd.get' (y vs (SqL.of (k.fr a _ ha hl)))
    refine ⟨d, ?_, .refl, Dat.mono (k.sub hs) s d x h2⟩
    rw [List.getElem?_reverse hi, ← hd.len]
    exact h1
theorem it_revT {C : Cfg} {S F1 : Addr → Prop} {H1 : Hp} {a : Addr} {vs : List V} {ds : List D} (hs : ∀ a, F1 a → S a) (hl : SqT C.K H1 a vs) (hd : Dats C F1 H1 ds vs) : ItOk C S F1 H1 (ItvT C.K a vs.length) ds.reverse where
  go := fun i H k hi => by
    rw [List.length_reverse] at hi
    have hl' := hd.len
    exact ⟨by omega, vs, vs[vs.length - 1 - i]'(by omega), k.sqT hl, List.getElem?_eq_getElem _⟩
  stop := fun i H k hi => by
    rw [List.length_reverse] at hi
    show vs.length ≤ i
    rw [hd.len]; exact hi
  yld := fun i H F x H' k s hi ⟨e, y⟩ => by
    subst e
    rw [List.length_reverse] at hi
    obtain ⟨d, h1, h2⟩ := hd.get' (y vs (k.sqT hl))
    refine ⟨d, ?_, .refl, Dat.mono (k.sub hs) s d x h2⟩
    rw [List.getElem?_reverse hi, ← hd.len]
    exact h1
def gRevI : D → (List D → Prop) → Prop
  | .list ds, Q => Q ds.reverse
  | .tuple ds, Q => Q ds.reverse
  | _, _ => False
def diRev (t : DE) : DI := fun ρ n Q => t ρ n fun x m => gRevI x fun ds => Q ds m
theorem ri_rev {p : Pos} {t : DE} (hm : X.mg "reversed" = none) (h : RE X a t) (hg : Gl X "reversed" := by rfl) (hs : starEach [a] X.env = (false, eval a X.env) :: starEach [] X.env := by rfl) : RI X tg (.Call (.Name "reversed" p) [a] [] pos) (diRev t) :=
  PI.imp (pi_revA hg hm h hs) fun σ H R ⟨G, F, ρ, n, Qd, E, q, k⟩ => ⟨G, F, ρ, n, _, E, q, fun d m z v H' F' E' x dv => by
    unfold gRevI at z
    split at z
    · simp only [Dat] at dv
      obtain ⟨a, vs, rfl, f, hl, hd⟩ := dv
      exact ⟨a, vs, rfl, .inl ⟨SqL.of hl, k _ m z _ H' F' E' x (it_rev (fun _ w => w) f hl hd)⟩⟩
    · simp only [Dat] at dv
      obtain ⟨a, vs, rfl, hl, hd⟩ := dv
      exact ⟨a, vs, rfl, .inr ⟨hl, k _ m z _ H' F' E' x (it_revT (fun _ w => w) hl hd)⟩⟩
    · exact z.elim⟩

/-! ### for -/
def dFor (ti : DI) (g : DG) (tb : DS) : DS := fun Dd ρ n => ti ρ n fun items m => ∃ W : Nat → Sl → Nat → Prop, W 0 ρ m ∧
  (∀ k x ρ n, items[k]? = some x → W k ρ n → g x ρ fun ρ' => tb { Dd with nx := W (k + 1), ct := W (k + 1), bk := Dd.nx } ρ' n) ∧ ∀ ρ n, W items.length ρ n → Dd.nx ρ n
theorem rs_for {iter : Expr} {body : List Stmt} {ti : DI} {g : DG} {tb : DS} (hp : PassesOwn (model X.prog X.w) X.A X.env X.xe) (hc : X.calm = true) (hi : RI X tg iter ti) (hg : RG X tg g) (hb : RSs X body tb)
    (hs : ∀ x, foldedSetIterable iter X.env x = pure x := by intro _; rfl) : RS X (.For tg iter body [] pos) (dFor ti g tb) := PS.imp (ps_for hp hc hi hg hb hs) fun Dq σ H ⟨G, F, ρ, n, Dd, E, q, k1, k2, k3, k4⟩ => ⟨G, F, ρ, n, _, E, q, fun items m ⟨W, w0, turn, fin⟩ J H1 F1 E1 x1 it => by
  refine ⟨fun i mm σ' H' => mm = items.length - i ∧ i ≤ items.length ∧ ∃ F' ρ' n', EnvOk (cfg X) G F' H' σ' ρ' n' ∧ ExtS F1 H1 F' H' ∧ W i ρ' n', ⟨_, rfl, Nat.zero_le _, F1, ρ, m, E1, .refl, w0⟩, ?_⟩
  rintro i mm σ2 H2 ⟨rfl, hi, F2, ρ2, n2, E2, x2, w2⟩
  by_cases hlt : i < items.length
  · refine .inr ⟨it.go i H2 x2.kp hlt, fun σ' H' => i + 1 ≤ items.length ∧ ∃ F' ρ' n', EnvOk (cfg X) G F' H' σ' ρ' n' ∧ ExtS F1 H1 F' H' ∧ W (i + 1) ρ' n', fun σ' H' ⟨h1, h2⟩ => ⟨items.length - (i + 1), by omega, rfl, h1, h2⟩, fun x H3 hy => ?_⟩
    obtain ⟨d, hd, g3, dv⟩ := it.yld i H2 F2 x H3 x2.kp x2.sub hlt hy
    have E3 := E2.grow g3
    refine ⟨G, F2, ρ2, n2, d, _, E3, dv, turn i d ρ2 n2 hd w2, fun ρ3 q3 σ3 E4 => ?_⟩
    have x3 : ExtS F1 H1 F2 H3 := x2.trans (g3.ext (G := G)).s
    exact ⟨G, F2, ρ3, n2, _, E4, q3, fun ρ4 m4 z σ4 H4 F4 E5 x5 => ⟨hlt, F4, ρ4, m4, E5, x3.trans x5, z⟩, fun d4 m4 z v H4 F4 R4 x5 => k2 d4 m4 z v H4 F4 R4 (x1.s.trans (x3.trans x5)),
      fun ρ4 m4 z σ4 H4 F4 E5 x5 => k1 ρ4 m4 z σ4 H4 F4 E5 (x1.s.trans (x3.trans x5)), fun ρ4 m4 z σ4 H4 F4 E5 x5 => ⟨hlt, F4, ρ4, m4, E5, x3.trans x5, z⟩⟩
  · have e : i = items.length := by omega
    subst e
    exact .inl ⟨it.stop _ H2 x2.kp (Nat.le_refl _), k1 ρ2 n2 (fin ρ2 n2 w2) σ2 H2 F2 E2 (x1.s.trans x2)⟩⟩
end
end DL

namespace DL
open PySem PyProof.Rows L2

/-! ### comprehensions -/
def wipeD (ρ : Sl) : List Nat → Sl
  | [] => ρ
  | v :: vs => (wipeD ρ vs).set v none
section
variable {C : Cfg} {G : Gx} {F F' : Addr → Prop} {H H' : Hp} {σ : L2.St} {ρ : Sl} {n m : Nat}
theorem set_none {α : Type} {l : List (Option α)} {i j : Nat} {y : α} (h : (l.set i none)[j]? = some (some y)) : j ≠ i ∧ l[j]? = some (some y) := by
  by_cases e : j = i
  · subst e
    rw [List.getElem?_set] at h
    by_cases hl : j < l.length
    · rw [if_pos rfl, if_pos hl] at h; cases h
    · rw [if_pos rfl, if_neg hl] at h; cases h
  · rw [List.getElem?_set_ne (Ne.symm e)] at h
    exact ⟨e, h⟩
theorem EnvOk.wipe1 (E : EnvOk C G F H σ ρ n) (i : Nat) : EnvOk C G F H (σ.set i none) (ρ.set i none) n where
  len := by rw [List.length_set, List.length_set]; exact E.len
  slot := fun j e q => by
    obtain ⟨ne, q⟩ := set_none q
    obtain ⟨v, q1, r⟩ := E.slot j e q
    exact ⟨v, by rw [List.getElem?_set_ne (Ne.symm ne)]; exact q1, r⟩
  apart := fun j k e e' a ne q1 q2 m1 m2 q3 q4 => E.apart j k e e' a ne (set_none q1).2 (set_none q2).2 m1 m2 (set_none q3).2 (set_none q4).2
  keep := E.keep
  fsub := E.fsub
  live := E.live
  tape := E.tape
theorem EnvOk.wipe (E : EnvOk C G F H σ ρ n) : ∀ vs : List Nat, EnvOk C G F H (L2.wipe σ vs) (wipeD ρ vs) n
  | [] => E
  | v :: vs => (E.wipe vs).wipe1 v
/-- the whole environment behind a part of it -/
theorem EnvOk.ext {σ2 : L2.St} {ρ2 : Sl} (E : EnvOk C G F H σ ρ n) (x : Ext G F H F' H') (E' : EnvOk C G F' H' σ2 ρ2 m) : EnvOk C G F' H' σ ρ m where
  len := E.len
  slot := fun i e q => by
    obtain ⟨v, q1, r⟩ := E.slot i e q
    refine ⟨v, q1, ?_⟩
    cases e with
    | val d => exact Dat.mono x.kp x.sub d v r
    | own ds =>
      obtain ⟨a, vs, rfl, f, h0, ht, hl, hr⟩ := r
      exact ⟨a, vs, rfl, fun z => (x.new a z).elim f fun z' => by (rw [hl] at z'; cases z'), h0, ht, x.keep a _ hl ht, Dats.mono x.kp x.sub _ _ hr⟩
    | dic kvs =>
      obtain ⟨a, es, rfl, f, h0, ht, ⟨ks, hl, hl2⟩, hr⟩ := r
      exact ⟨a, es, rfl, fun z => (x.new a z).elim f fun z' => by (rw [hl] at z'; cases z'), h0, ht, ⟨ks, x.keep a _ hl ht, hl2⟩, DKv.mono x.kp x.sub _ _ hr⟩
    | tape => exact r
  apart := E.apart
  keep := E'.keep
  fsub := E'.fsub
  live := E'.live
  tape := E'.tape
/-- a thing that no one knows of is laid or changed -/
theorem EnvOk.hid (E : EnvOk C G F H σ ρ n) {p : Addr} {o : HO} (nf : ¬ F p) (no : ¬ Own σ ρ p) (h0 : G.H0 p = none) (ht : G.tp ≠ some p) (k : Kp F H (upd H p o)) : EnvOk C G F (upd H p o) σ ρ n where
  len := E.len
  slot := fun i e q => by
    obtain ⟨v, q1, r⟩ := E.slot i e q
    refine ⟨v, q1, ?_⟩
    cases e with
    | val d => exact Dat.mono k (fun _ z => z) d v r
    | own ds =>
      obtain ⟨a, vs, rfl, f, h0, ht, hl, hr⟩ := r
      have na : a ≠ p := fun z => no ⟨i, _, q, trivial, by rw [← z]; exact q1⟩
      exact ⟨a, vs, rfl, f, h0, ht, by rw [upd_ne na]; exact hl, Dats.mono k (fun _ z => z) _ _ hr⟩
    | dic kvs =>
      obtain ⟨a, es, rfl, f, h0, ht, ⟨ks, hl, hl2⟩, hr⟩ := r
      have na : a ≠ p := fun z => no ⟨i, _, q, trivial, by rw [← z]; exact q1⟩
      exact ⟨a, es, rfl, f, h0, ht, ⟨ks, by rw [upd_ne na]; exact hl, hl2⟩, DKv.mono k (fun _ z => z) _ _ hr⟩
    | tape => exact r
  apart := E.apart
  keep := fun a u q hb => by
    rw [upd_ne fun z => by rw [z, h0] at q; cases q]
    exact E.keep a u q hb
  fsub := E.fsub
  live := fun a f => by
    rw [upd_ne fun z => nf (by rw [← z]; exact f)]
    exact E.live a f
  tape := fun t hT => by
    obtain ⟨h1, h2, h3⟩ := E.tape t hT
    refine ⟨h1.mono (fun o q => ?_) k (fun _ z => z) (Nat.le_refl _), h2, h3⟩
    rw [upd_ne fun z => ht (by rw [← z]; exact hT)]
    exact q
end

/-- a target that stores into the slots vs alone -/
def GOk (C : Cfg) (g : TG) (gd : DG) (vs : List Nat) : Prop := ∀ (G : Gx) (F : Addr → Prop) (H : Hp) (σ : L2.St) (ρ : Sl) (n : Nat) (d : D) (K : Sl → Prop) (v : V) (Q : L2.St → Hp → Prop), EnvOk C G F H σ ρ n → Dat C F H d v → gd d ρ K →
  (∀ ρ' σ', K ρ' → EnvOk C G F H σ' ρ' n → L2.wipe σ' vs = L2.wipe σ vs → Q σ' H) → g v σ H Q
def GsOk (C : Cfg) (g : TGs) (gd : DGs) (vs : List Nat) : Prop := ∀ (G : Gx) (F : Addr → Prop) (H : Hp) (σ : L2.St) (ρ : Sl) (n : Nat) (ds : List D) (K : Sl → Prop) (us : List V) (Q : L2.St → Hp → Prop), EnvOk C G F H σ ρ n → Dats C F H ds us → gd ds ρ K →
  (∀ ρ' σ', K ρ' → EnvOk C G F H σ' ρ' n → L2.wipe σ' vs = L2.wipe σ vs → Q σ' H) → g us σ H Q
theorem wipe_set {σ : L2.St} {x : Option V} {i : Nat} : ∀ {vs : List Nat}, i ∈ vs → L2.wipe (σ.set i x) vs = L2.wipe σ vs
  | [], h => by cases h
  | v :: vs, h => by
    unfold L2.wipe
    by_cases hi : i ∈ vs
    · rw [wipe_set hi]
    · have e : i = v := by
        rcases List.mem_cons.mp h with e | e
        · exact e
        · exact absurd e hi
      subst e
      have aux : ∀ (us : List Nat), i ∉ us → L2.wipe (σ.set i x) us = (L2.wipe σ us).set i x := by
        intro us
        induction us with
        | nil => intro _; rfl
        | cons u us ih =>
          intro hu
          simp only [List.mem_cons, not_or] at hu
          unfold L2.wipe
          rw [ih hu.2, List.set_comm _ _ (Ne.symm hu.1)]
      rw [aux vs hi, List.set_set]
theorem wipe_get {σ : L2.St} {j : Nat} : ∀ {vs : List Nat}, (L2.wipe σ vs)[j]? = if j ∈ vs then (if j < σ.length then some none else none) else σ[j]?
  | [] => by rw [if_neg (by simp)]; rfl
  | v :: vs => by
    unfold L2.wipe
    by_cases e : v = j
    · subst e
      rw [if_pos List.mem_cons_self, List.getElem?_set, if_pos rfl, L2.wipe_length]
    · rw [List.getElem?_set_ne e, wipe_get]
      have q : j ∈ v :: vs ↔ j ∈ vs := by
        rw [List.mem_cons]
        exact ⟨fun z => z.resolve_left (Ne.symm e), .inr⟩
      simp only [q]
theorem wipe_idem {σ : L2.St} {vs : List Nat} : L2.wipe (L2.wipe σ vs) vs = L2.wipe σ vs := by
  apply List.ext_getElem?
  intro j
  rw [wipe_get, wipe_get, L2.wipe_length]
  split <;> rfl
theorem gok_n {C : Cfg} {i : Nat} {vs : List Nat} (h : i ∈ vs) : GOk C (gName i) (gN i) vs := fun G F H σ ρ n d K v Q E hd q k => k _ _ q (E.setv hd) (wipe_set h)
theorem gsok_nil {C : Cfg} {vs : List Nat} : GsOk C gNil gNil0 vs := fun G F H σ ρ n ds K us Q E hd ⟨e, q⟩ k => by
  subst e
  simp only [Dats] at hd
  exact ⟨hd, k _ _ q E rfl⟩
theorem gsok_cons {C : Cfg} {g : TG} {gd : DG} {gs : TGs} {gds : DGs} {vs : List Nat} (h : GOk C g gd vs) (h2 : GsOk C gs gds vs) : GsOk C (gCons g gs) (gCo gd gds) vs := fun G F H σ ρ n ds K us Q E hd ⟨d, r, e, q⟩ k => by
  subst e
  simp only [Dats] at hd
  obtain ⟨u, us', rfl, h1, h3⟩ := hd
  refine ⟨u, us', rfl, h G F H σ ρ n d _ u _ E h1 q fun ρ1 σ1 q1 E1 w1 => ?_⟩
  exact h2 G F H σ1 ρ1 n r K us' Q E1 h3 q1 fun ρ2 σ2 q2 E2 w2 => k ρ2 σ2 q2 E2 (w2.trans w1)
theorem gok_t {C : Cfg} {gs : TGs} {gds : DGs} {n : Nat} {vs : List Nat} (h : GsOk C gs gds vs) : GOk C (gTup C.K n gs) (gT n gds) vs := fun G F H σ ρ m d K v Q E hd ⟨ds, e, hl, q⟩ k => by
  subst e
  simp only [Dat] at hd
  obtain ⟨a, us, rfl, h1, r1⟩ := hd
  exact ⟨a, us, rfl, h1, by rw [r1.len]; exact hl, h G F H σ ρ m ds K us Q E r1 q k⟩

def dLc (ti : DI) (gd : DG) (tt : DT) (te : DE) (vs : List Nat) : DO := fun ρ n Q => ti ρ n fun items m => ∃ W : Nat → List D → Nat → Prop, W 0 [] m ∧
  (∀ k x acc n, items[k]? = some x → W k acc n → gd x (wipeD ρ vs) fun ρ' => tt ρ' n fun b n1 => if b = true then te ρ' n1 fun y n2 => acc.length < sizeLine ∧ W (k + 1) (acc ++ [y]) n2 else W (k + 1) acc n1) ∧
  ∀ acc n, W items.length acc n → Q acc n
def tYesD : DT := fun _ n Q => Q true n
theorem lift_lc {C : Cfg} {ti : DI} {g : TG} {gd : DG} {tt : DT} {te : DE} {vs : List Nat} {σ : L2.St} {H : Hp} {Q : VK} (hg : GOk C g gd vs) (h : liftO C (dLc ti gd tt te vs) σ H Q) : tLc (liftIB C ti) g (liftT C tt) (liftE C te) vs σ H Q := by
  obtain ⟨G, F, ρ, n, Qd, E, q, k⟩ := h
  refine ⟨G, F, ρ, n, _, E, q, fun items m ⟨W, w0, turn, fin⟩ J H1 F1 E1 x1 it p hp => ?_⟩
  have np : ¬ F1 p := fun z => by
    obtain ⟨o, z⟩ := E1.live p z
    rw [hp] at z; cases z
  have no : ¬ Own σ ρ p := fun z => by
    obtain ⟨⟨o, z⟩, _⟩ := E1.own_some z
    rw [hp] at z; cases z
  obtain ⟨h0, ht⟩ := E1.none0 hp
  have kp0 : Kp F1 H1 (upd H1 p (.lst [])) := .of fun a o e => by rw [upd_ne (ne_of_none e hp)]; exact e
  -- what holds between two turns
  refine ⟨fun i mm H' => mm = items.length - i ∧ i ≤ items.length ∧ ∃ (F' : Addr → Prop) (acc : List D) (us : List V) (n' : Nat), EnvOk C G F' H' σ ρ n' ∧ Ext G F1 H1 F' H' ∧ ¬ F' p ∧ H' p = some (.lst us) ∧ Dats C F' H' acc us ∧ W i acc n',
    ⟨_, rfl, Nat.zero_le _, F1, [], [], m, E1.hid np no h0 ht kp0, ⟨fun _ z => z, fun _ z => .inl z, fun a o e _ => by rw [upd_ne (ne_of_none e hp)]; exact e, kp0⟩, np, upd_same, .nil, w0⟩, ?_⟩
  rintro i mm H2 ⟨rfl, hi, F2, acc, us, n2, E2, x2, np2, hl2, hd2, w2⟩
  have kS : Kp (fun a => F1 a ∨ Own σ ρ a) H1 H2 := ⟨fun a o f e => f.elim (fun f => x2.kp.fr a o f e) fun f => x2.keep a o e (E1.own_some f).2.2.2, x2.kp.tu, x2.kp.fz⟩
  by_cases hlt : i < items.length
  · refine .inr ⟨it.go i H2 kS hlt, fun H' => i + 1 ≤ items.length ∧ ∃ (F' : Addr → Prop) (acc : List D) (us : List V) (n' : Nat), EnvOk C G F' H' σ ρ n' ∧ Ext G F1 H1 F' H' ∧ ¬ F' p ∧ H' p = some (.lst us) ∧ Dats C F' H' acc us ∧ W (i + 1) acc n',
      fun H' ⟨h1, h2⟩ => ⟨items.length - (i + 1), by omega, rfl, h1, h2⟩, fun x H3 hy => ?_⟩
    obtain ⟨d, hdi, g3, dv⟩ := it.yld i H2 F2 x H3 kS x2.sub hlt hy
    have E3 := E2.grow g3
    have x3 := x2.grow g3 E1 E2
    refine hg G F2 H3 _ _ n2 d _ x _ (E3.wipe vs) dv (turn i d acc n2 hdi w2) fun ρ4 σ4 q4 E4 w4 => ⟨?_, G, F2, ρ4, n2, _, E4, q4, fun b n5 q5 H5 F5 E5 x5 => ?_⟩
    · rw [w4, wipe_idem]
    · have hl3 := g3.keep p _ hl2
      have np5 : ¬ F5 p := fun z => (x5.new p z).elim np2 fun z => by (rw [hl3] at z; cases z)
      have hl5 := x5.keep p _ hl3 ht
      have E5' := E3.ext x5 E5
      have x5' := x3.trans x5 E1 E3
      have hd5 : Dats C F5 H5 acc us := Dats.mono x5.kp x5.sub _ _ (Dats.mono g3.kp g3.sub _ _ hd2)
      cases b with
      | false =>
        rw [if_neg Bool.false_ne_true] at q5
        refine iteF ?_
        exact ⟨hlt, F5, acc, us, n5, E5', x5', np5, hl5, hd5, q5⟩
      | true =>
        rw [if_pos rfl] at q5
        refine iteT ?_
        refine ⟨G, F5, ρ4, n5, _, E5, q5, fun y n6 ⟨hz, q6⟩ v H6 F6 E6 x6 dv6 => ?_⟩
        have np6 : ¬ F6 p := fun z => (x6.new p z).elim np5 fun z => by (rw [hl5] at z; cases z)
        have hl6 := x6.keep p _ hl5 ht
        have E6' := E5'.ext x6 E6
        have x6' := x5'.trans x6 E1 E5'
        have hd6 : Dats C F6 H6 acc us := Dats.mono x6.kp x6.sub _ _ hd5
        refine ⟨us, hl6, by rw [hd6.len]; exact hz, hlt, F6, acc ++ [y], us ++ [v], n6, ?_, ?_, np6, upd_same, ?_, q6⟩
        all_goals have kp7 : Kp F6 H6 (upd H6 p (.lst (us ++ [v]))) := kp_upd np6 hl6 (fun _ z => by cases z) fun _ _ z => by cases z
        · exact E6'.hid np6 no h0 ht kp7
        · refine ⟨x6'.sub, x6'.new, fun a o e hta => ?_, x6'.kp.trans kp7 x6'.sub⟩
          rw [upd_ne (ne_of_none e hp)]
          exact x6'.keep a o e hta
        · exact Dats.mono kp7 (fun _ z => z) _ _ (hd6.snoc dv6)
  · have e : i = items.length := by omega
    subst e
    exact .inl ⟨it.stop _ H2 kS (Nat.le_refl _), k acc n2 (fin acc n2 w2) p us H2 F2 E2 (x1.trans x2 E E1) (x1.none_of E (fun t ht => E1.tp_some ht) hp) np2 hl2 hd2⟩
section
variable {X : Cx} {tg a b e : Expr} {pos : Pos} {st : Stmt} {sts : List Stmt}
abbrev RTs (X : Cx) (ifs : List Expr) (t : DT) : Prop := PTs X ifs (liftT (cfg X) t)
theorem rts_nil : RTs X [] tYesD := ⟨fun pins s σ H Q I ⟨G, F, ρ, n, Qd, E, q, k⟩ => pts_nil.run pins s σ H Q I (k _ n q H F E .refl)⟩
theorem rts_one {t : DT} (h : RT X e t) : RTs X [e] t := pts_one h
theorem ro_lc {ti : DI} {g : TG} {gd : DG} {tt : DT} {te : DE} {vs : List Nat} (h : PE X e (tLc (liftIB (cfg X) ti) g (liftT (cfg X) tt) (liftE (cfg X) te) vs)) (hg : GOk (cfg X) g gd vs) : RO X e (dLc ti gd tt te vs) := PE.imp h fun σ H Q z => lift_lc hg z
/-- name = [..] on one line -/
theorem ps_lcO {i : Nat} {ti : DI} {g : TG} {gd : DG} {tt : DT} {te : DE} {vs : List Nat} (h : PS X st (tAsg (tLc (liftIB (cfg X) ti) g (liftT (cfg X) tt) (liftE (cfg X) te) vs) (gName i))) (hg : GOk (cfg X) g gd vs) : PS X st (tAsg (liftO (cfg X) (dLc ti gd tt te vs)) (gName i)) := PS.imp h fun Dq σ H z => lift_lc hg z
/-- an own list is a value where it is kept -/
theorem tAsg_val {i : Nat} {t : DO} (h : PS X st (tAsg (liftO (cfg X) t) (gName i))) : RS X st (dSet i (dList t)) := PS.imp h fun Dq σ H ⟨G, F, ρ, n, Dd, E, q, k1, k2, k3, k4⟩ => ⟨G, F, ρ, n, _, E, q, fun ds m z p vs H' F' E' x hp fp q1 r1 => by
  have ho : ¬ Own σ ρ p := fun ho => by
    obtain ⟨⟨o, z⟩, _⟩ := E.own_some ho
    rw [hp] at z; cases z
  obtain ⟨h0, ht⟩ := E.none0 hp
  have dv : Dat (cfg X) (fun a => F' a ∨ a = p) H' (.list ds) (.ref p) := by
    simp only [Dat]
    exact ⟨p, vs, rfl, .inr rfl, q1, Dats.mono .refl (fun _ z => .inl z) ds vs r1⟩
  exact k1 _ m z _ H' (fun a => F' a ∨ a = p) ((E'.freeze ho h0 ht ⟨_, q1⟩).setv dv) ⟨fun a f => .inl (x.sub a f), x.kp⟩⟩

/-! ### defs and their promises over data -/
abbrev PSp := List D → (D → Prop) → Prop
abbrev TSp := List D → Nat → (D → Nat → Prop) → Prop
def SpP (C : Cfg) (sp : PSp) : Sp := fun vs H Q _ => ∃ (F : Addr → Prop) (ds : List D) (Qd : D → Prop), Dats C F H ds vs ∧ Live F H ∧ sp ds Qd ∧ ∀ d, Qd d → ∀ v H' F', Grow F H F' H' → Live F' H' → Dat C F' H' d v → Q v H'
structure TapeEx (t : Addr) (F : Addr → Prop) (H : Hp) (F' : Addr → Prop) (H' : Hp) (m : Nat) : Prop where
  sub : ∀ a, F a → F' a
  new : ∀ a, F' a → F a ∨ H a = none
  keep : ∀ a o, H a = some o → a ≠ t → H' a = some o
  live : Live F' H'
  tape : TapeOk F' H' t m
  nt : ¬ F' t
def SpT (C : Cfg) (sp : TSp) : Sp := fun us H Q _ => ∃ (t : Addr) (F : Addr → Prop) (ds : List D) (vs : List V) (n : Nat) (Qd : D → Nat → Prop), us = .ref t :: vs ∧ Dats C F H ds vs ∧ Live F H ∧ TapeOk F H t n ∧ ¬ F t ∧ sp ds n Qd ∧
  ∀ d m, Qd d m → ∀ v H' F', TapeEx t F H F' H' m → Dat C F' H' d v → Q v H'
def dCallP (sp : PSp) (t : DO) : DE := fun ρ n Q => t ρ n fun ds m => sp ds fun d => Q d m
theorem re_callP {sp : PSp} {t : DO} {es : List Expr} {E0 : XK} (h : ∀ {ta : TA}, PA X es ta → PE X e (tCall (SpP (cfg X) sp) [] E0 ta)) (ha : RL X es t) : RE X e (dCallP sp t) := PE.imp (h ha) fun σ H Q ⟨G, F, ρ, n, Qd, E, q, k⟩ => ⟨G, F, ρ, n, _, E, q, fun ds m q1 vs H1 F1 E1 x1 d1 => by
  show SpP (cfg X) sp (vs ++ []) H1 Q E0
  rw [List.append_nil]
  exact ⟨F1, ds, _, d1, E1.live, q1, fun d z v H2 F2 g2 l2 dv => k d m z v H2 F2 (E1.grow g2) (x1.grow g2 E E1) dv⟩⟩
/-- arguments that are only looked at -/
def DatsB (C : Cfg) (F O : Addr → Prop) (H : Hp) : List D → List V → Prop
  | [], vs => vs = []
  | d :: ds, vs => ∃ v r, vs = v :: r ∧ DatB C F O H d v ∧ DatsB C F O H ds r
def liftLB (C : Cfg) (t : DO) : TA := fun σ H Q => ∃ (G : Gx) (F : Addr → Prop) (ρ : Sl) (n : Nat) (Qd : List D → Nat → Prop), EnvOk C G F H σ ρ n ∧ t ρ n Qd ∧
  ∀ ds m, Qd ds m → ∀ vs H' F', EnvOk C G F' H' σ ρ m → Ext G F H F' H' → DatsB C F' (Own σ ρ) H' ds vs → Q vs H'
abbrev RLB (X : Cx) (es : List Expr) (t : DO) : Prop := PA X es (liftLB (cfg X) t)
theorem DatsB.mono {C : Cfg} {G : Gx} {F F' : Addr → Prop} {H H' : Hp} {σ : L2.St} {ρ : Sl} {n : Nat} (E : EnvOk C G F H σ ρ n) (x : Ext G F H F' H') : ∀ {ds : List D} {vs : List V}, DatsB C F (Own σ ρ) H ds vs → DatsB C F' (Own σ ρ) H' ds vs
  | [], vs, h => h
  | d :: ds, vs, ⟨v, r, e, h1, h2⟩ => ⟨v, r, e, h1.mono E x, DatsB.mono E x h2⟩
theorem DatsB.dats {C : Cfg} {F O : Addr → Prop} {H : Hp} : ∀ {ds : List D} {vs : List V}, DatsB C F O H ds vs → Dats C (fun a => F a ∨ O a) H ds vs
  | [], vs, h => by simp only [Dats]; exact h
  | d :: ds, vs, ⟨v, r, e, h1, h2⟩ => by
    simp only [Dats]
    refine ⟨v, r, e, ?_, h2.dats⟩
    rcases h1 with h1 | ⟨es, a, us, rfl, rfl, o, hl, hr⟩ | ⟨kvs, a, es, rfl, rfl, o, hl, hr⟩
    · exact Dat.mono .refl (fun _ z => .inl z) _ _ h1
    · simp only [Dat]
      exact ⟨a, us, rfl, .inr o, hl, Dats.mono .refl (fun _ z => .inl z) _ _ hr⟩
    · simp only [Dat]
      exact ⟨a, es, rfl, .inr o, hl, DKv.mono .refl (fun _ z => .inl z) _ _ hr⟩
theorem rlb_nil : RLB X [] dNil := PA.imp pa_nil fun σ H Q ⟨G, F, ρ, n, Qd, E, q, k⟩ => k [] n q [] H F E .refl rfl
theorem rlb_cons {es : List Expr} {te : DE} {t : DO} (ha : RB X e te) (hr : RLB X es t) (hs : starEach (e :: es) X.env = (false, eval e X.env) :: starEach es X.env := by rfl) : RLB X (e :: es) (dCons te t) :=
  PA.imp (pa_cons ha hr hs) fun σ H Q ⟨G, F, ρ, n, Qd, E, q, k⟩ => ⟨G, F, ρ, n, _, E, q, fun d n1 q1 v H1 F1 E1 x1 dv => ⟨G, F1, ρ, n1, _, E1, q1, fun ds n2 q2 vs H2 F2 E2 x2 ds2 =>
    k _ n2 q2 _ H2 F2 E2 (x1.trans x2 E E1) ⟨v, vs, rfl, dv.mono E1 x2, ds2⟩⟩⟩
def dCallPB (sp : PSp) (t : DO) : DE := fun ρ n Q => t ρ n fun ds m => sp ds fun d => flatD d = true ∧ Q d m
theorem re_callPB {sp : PSp} {t : DO} {es : List Expr} {E0 : XK} (h : ∀ {ta : TA}, PA X es ta → PE X e (tCall (SpP (cfg X) sp) [] E0 ta)) (ha : RLB X es t) : RE X e (dCallPB sp t) := PE.imp (h ha) fun σ H Q ⟨G, F, ρ, n, Qd, E, q, k⟩ => ⟨G, F, ρ, n, _, E, q, fun ds m q1 vs H1 F1 E1 x1 d1 => by
  show SpP (cfg X) sp (vs ++ []) H1 Q E0
  rw [List.append_nil]
  refine ⟨fun a => F1 a ∨ Own σ ρ a, ds, _, d1.dats, fun a z => z.elim (E1.live a) fun z => (E1.own_some z).1, q1, fun d ⟨hf, z⟩ v H2 F2 g2 l2 dv => ?_⟩
  have g : Grow F1 H1 F1 H2 := ⟨fun _ z => z, fun _ z => .inl z, g2.keep⟩
  exact k d m z v H2 F1 (E1.grow g) (x1.grow g E E1) (Dat.flat d v hf dv)⟩
/-- a def that draws from the tape, handed first -/
def dCallT (i : Nat) (sp : TSp) (t : DO) : DE := fun ρ n Q => ρ[i]? = some (some .tape) ∧ t ρ n fun ds m => sp ds m Q
theorem re_callT {i : Nat} {sp : TSp} {t : DO} {es : List Expr} {x : Str} {px : Pos} {E0 : XK} (h : ∀ {ta : TA}, PA X (.Name x px :: es) ta → PE X e (tCall (SpT (cfg X) sp) [] E0 ta)) (hx : PE X (.Name x px) (tVar i)) (ha : RL X es t)
    (hs : starEach (.Name x px :: es) X.env = (false, eval (.Name x px) X.env) :: starEach es X.env := by rfl) : RE X e (dCallT i sp t) := PE.imp (h (pa_cons hx ha hs)) fun σ H Q ⟨G, F, ρ, n, Qd, E, ⟨hi, q⟩, k⟩ => by
  obtain ⟨v, hv, t0, ht, rfl⟩ := E.slot i _ hi
  refine ⟨_, hv, G, F, ρ, n, _, E, q, fun ds m q1 vs H1 F1 E1 x1 d1 => ?_⟩
  show SpT (cfg X) sp ((V.ref t0 :: vs) ++ []) H1 Q E0
  rw [List.append_nil]
  obtain ⟨h1, h2, h3⟩ := E1.tape t0 ht
  refine ⟨t0, F1, ds, vs, m, _, rfl, d1, E1.live, h1, h2, q1, fun d m2 z v H2 F2 x2 dv => ?_⟩
  have kp : Kp F1 H1 H2 := by
    obtain ⟨s, ns, a, b, e0, _⟩ := h1
    refine ⟨fun a o f e => x2.keep a o e fun w => h2 (by rw [← w]; exact f), fun a xs e => x2.keep a _ e fun w => ?_, fun a o u e => x2.keep a _ e fun w => ?_⟩
    · rw [w, e0] at e; cases e
    · rw [w, e0] at e; cases e
  have x12 : Ext G F1 H1 F2 H2 := ⟨x2.sub, x2.new, fun a o e hta => x2.keep a o e fun w => hta (by rw [w]; exact ht), kp⟩
  have E2 : EnvOk (cfg X) G F2 H2 [] [] m2 := ⟨rfl, fun i e z => by simp at z, fun i j e e' a ne z => by simp at z, fun a o e hta => x12.keep a o (E1.keep a o e hta) hta, fun a f => (x2.new a f).elim (E1.fsub a) fun z => .inr ((E1.none0 z).1), x2.live, fun t hT => by
    rw [ht] at hT
    cases hT
    exact ⟨x2.tape, x2.nt, h3⟩⟩
  exact k d m2 z v H2 F2 (E1.ext x12 E2) (x1.trans x12 E E1) dv
end
section
variable {P : Program} {w : World} {K : PySem.W.Frag} {mg : Str → Option Value} {base : Heap}
def start0 (N : Nat) (es : List Ent) : Sl := es.map some ++ List.replicate (N - es.length) none
theorem start_slot {N : List Str} {vs : List V} {i : Nat} {v : V} (h : vs[i]? = some v) : (L2.start N vs)[i]? = some (some v) := by
  unfold L2.start
  rw [List.getElem?_append_left (by rw [List.length_map]; exact (List.getElem?_eq_some_iff.mp h).1), List.getElem?_map, h]
  rfl
theorem start0_slot {N : Nat} {es : List Ent} {i : Nat} {e : Ent} (h : (start0 N es)[i]? = some (some e)) : es[i]? = some e := by
  unfold start0 at h
  by_cases hi : i < es.length
  · rw [List.getElem?_append_left (by rw [List.length_map]; exact hi), List.getElem?_map] at h
    cases q : es[i]? with
    | none => rw [q] at h; cases h
    | some z => rw [q] at h; cases h; rfl
  · rw [List.getElem?_append_right (by rw [List.length_map]; omega), List.getElem?_replicate] at h
    split at h <;> cases h
/-- what a def is handed, as its body's start -/
theorem vc_P {C : Cfg} {N : List Str} {sp : PSp} {t : DS} {vs : List V} {H : Hp} {Q : VK} {E : XK} (h : SpP C sp vs H Q E)
    (hvc : ∀ ds Qd, sp ds Qd → t { nx := fun _ _ => Qd .none, rt := fun d _ => Qd d } (start0 N.length (ds.map .val)) 0) : liftS C t { nx := fun _ H' => Q .non H', rt := Q } (L2.start N vs) H := by
  obtain ⟨F, ds, Qd, hd, lv, hs, hq⟩ := h
  refine ⟨⟨none, F, H⟩, F, start0 N.length (ds.map .val), 0, _, ⟨?_, ?_, ?_, fun a o e _ => e, fun a f => .inl f, lv, fun t ht => by cases ht⟩, hvc ds Qd hs, fun ρ' m z σ' H' F' E' x' => ?_, fun d m z v H' F' R x' => ?_, fun _ _ z => z.elim, fun _ _ z => z.elim⟩
  · unfold start0 L2.start
    simp only [List.length_append, List.length_map, List.length_replicate, hd.len]
  · intro i e h
    have q := start0_slot h
    rw [List.getElem?_map] at q
    cases e2 : ds[i]? with
    | none => rw [e2] at q; cases q
    | some d =>
      rw [e2] at q
      cases q
      obtain ⟨v, h1, h2⟩ := hd.get e2
      exact ⟨v, start_slot h1, h2⟩
  · intro i j e e' a ne q1 q2 m1
    have q := start0_slot q1
    rw [List.getElem?_map] at q
    cases e2 : ds[i]? with
    | none => rw [e2] at q; cases q
    | some d => rw [e2] at q; cases q; exact m1.elim
  · refine hq .none z .non H' F' ⟨x'.sub, fun a f => (E'.fsub a f).elim .inl fun z => .inr ⟨z, E'.live a f⟩, fun a o e => E'.keep a o e (fun w => by cases w)⟩ E'.live (by simp only [Dat])
  · exact hq d z v H' F' ⟨x'.sub, fun a f => (R.fsub a f).elim .inl fun z => .inr ⟨z, R.live a f⟩, fun a o e => R.keep a o e (fun w => by cases w)⟩ R.live R.dat
theorem vc_T {C : Cfg} {N : List Str} {sp : TSp} {t : DS} {vs : List V} {H : Hp} {Q : VK} {E : XK} (h : SpT C sp vs H Q E)
    (hvc : ∀ ds n Qd, sp ds n Qd → t { nx := fun _ m => Qd .none m, rt := fun d m => Qd d m } (start0 N.length (.tape :: ds.map .val)) n) : liftS C t { nx := fun _ H' => Q .non H', rt := Q } (L2.start N vs) H := by
  obtain ⟨t0, F, ds, us, n, Qd, e, hd, lv, ht, nt, hs, hq⟩ := h
  subst e
  have h3 : ∃ o, H t0 = some o := by
    obtain ⟨s, ns, a, b, e, _⟩ := ht
    exact ⟨_, e⟩
  refine ⟨⟨some t0, F, H⟩, F, start0 N.length (.tape :: ds.map .val), n, _, ⟨?_, ?_, ?_, fun a o e _ => e, fun a f => .inl f, lv, fun t hT => by cases hT; exact ⟨ht, nt, h3⟩⟩, hvc ds n Qd hs, fun ρ' m z σ' H' F' E' x' => ?_, fun d m z v H' F' R x' => ?_, fun _ _ z => z.elim, fun _ _ z => z.elim⟩
  · unfold start0 L2.start
    simp only [List.length_append, List.length_map, List.length_replicate, List.length_cons, hd.len]
  · intro i e h
    have q := start0_slot h
    cases i with
    | zero =>
      cases q
      exact ⟨_, start_slot (i := 0) rfl, t0, rfl, rfl⟩
    | succ i =>
      rw [List.getElem?_cons_succ, List.getElem?_map] at q
      cases e2 : ds[i]? with
      | none => rw [e2] at q; cases q
      | some d =>
        rw [e2] at q
        cases q
        obtain ⟨v, h1, h2⟩ := hd.get e2
        exact ⟨v, start_slot (i := i + 1) (by rw [List.getElem?_cons_succ]; exact h1), h2⟩
  · intro i j e e' a ne q1 q2 m1
    have q := start0_slot q1
    cases i with
    | zero => cases q; exact m1.elim
    | succ i =>
      rw [List.getElem?_cons_succ, List.getElem?_map] at q
      cases e2 : ds[i]? with
      | none => rw [e2] at q; cases q
      | some d => rw [e2] at q; cases q; exact m1.elim
  · obtain ⟨a1, a2, _⟩ := E'.tape t0 rfl
    exact hq .none m z .non H' F' ⟨x'.sub, fun a f => E'.fsub a f, fun a o e n => E'.keep a o e (fun w => by cases w; exact n rfl), E'.live, a1, a2⟩ (by simp only [Dat])
  · obtain ⟨a1, a2, _⟩ := R.tape t0 rfl
    exact hq d m z v H' F' ⟨x'.sub, fun a f => R.fsub a f, fun a o e n => R.keep a o e (fun w => by cases w; exact n rfl), R.live, a1, a2⟩ R.dat
/-- a def of the text that draws nothing -/
theorem fn_P {x qual : Str} {st : Stmt} {f : Addr} {fd : FuncData} {N ps : List Str} {k : Nat} {sp : PSp} {t : DS} (Fn : Fun K x qual st f fd) (S : FnScope N ps (defScope st)) (hlen : ∀ ds Q, sp ds Q → ds.length = ps.length)
    (hbody : ∀ (cdv : Value) (A : Around) (outer : List Env) (s : Shared) (H : Hp) (E : XK), Room k (A.deeper (envOfC qual (defScope st) s.heap.objs.size f cdv)) → RSs (cxOf CX0 P w K mg base N qual (defScope st) f cdv A outer s H E).nox (defBody st) t)
    (hvc : ∀ ds Qd, sp ds Qd → t { nx := fun _ _ => Qd .none, rt := fun d _ => Qd d } (start0 N.length (ds.map .val)) 0) : FnOk P w K mg base CX0 (k + 1) f fd ps (SpP ⟨P, w, K⟩ sp) := by
  exact Fn.ok S (fun vs H Q E ⟨F, ds, Qd, hd, _, hs, _⟩ => by rw [hd.len]; exact hlen _ _ hs) fun cdv A outer s H vs Q E hr h => ⟨_, hbody cdv A outer s H E hr, vc_P h hvc⟩
/-- a def of the text that is handed the tape first -/
theorem fn_T {x qual : Str} {st : Stmt} {f : Addr} {fd : FuncData} {N ps : List Str} {k : Nat} {sp : TSp} {t : DS} (Fn : Fun K x qual st f fd) (S : FnScope N ps (defScope st)) (hlen : ∀ ds n Q, sp ds n Q → ds.length + 1 = ps.length)
    (hbody : ∀ (cdv : Value) (A : Around) (outer : List Env) (s : Shared) (H : Hp) (E : XK), Room k (A.deeper (envOfC qual (defScope st) s.heap.objs.size f cdv)) → RSs (cxOf CX0 P w K mg base N qual (defScope st) f cdv A outer s H E).nox (defBody st) t)
    (hvc : ∀ ds n Qd, sp ds n Qd → t { nx := fun _ m => Qd .none m, rt := fun d m => Qd d m } (start0 N.length (.tape :: ds.map .val)) n) : FnOk P w K mg base CX0 (k + 1) f fd ps (SpT ⟨P, w, K⟩ sp) := by
  exact Fn.ok S (fun vs H Q E ⟨t0, F, ds, us, n, Qd, e, hd, _, _, _, hs, _⟩ => by rw [e, List.length_cons, hd.len]; exact hlen _ _ _ hs) fun cdv A outer s H vs Q E hr h => ⟨_, hbody cdv A outer s H E hr, vc_T h hvc⟩
end
end DL

namespace DL
open PySem PySem.W PyProof.Rows L2

/-! ### dicts whose keys are whole numbers or texts -/
def keyD : Key → D
  | .inl i => .int i
  | .inr x => .str x
def kEq : D → D → Bool
  | .int i, .int j => decide (i = j)
  | .str x, .str y => decide (x = y)
  | _, _ => false
def isKey : D → Bool
  | .int _ => true
  | .str _ => true
  | _ => false
def dLook (kvs : List (D × D)) (k : D) : Option D := (kvs.find? fun p => kEq p.1 k).map (·.2)
def dPut (kvs : List (D × D)) (k v : D) : List (D × D) := if (kvs.any fun p => kEq p.1 k) = true then kvs.map fun p => if kEq p.1 k = true then (p.1, v) else p else kvs ++ [(k, v)]
section
variable {C : Cfg} {F F' : Addr → Prop} {H H' : Hp}
theorem kEq_key (a b : Key) : kEq (keyD a) (keyD b) = decide (a = b) := by
  cases a <;> cases b <;> simp [kEq, keyD]
theorem dat_key {k : Key} {d : D} (h : Dat C F H d (kV k)) : d = keyD k := by
  cases k <;> cases d <;> simp [Dat, kV, keyD] at h ⊢ <;> first | exact h.symm | skip
theorem key_dat {d : D} {v : V} (hk : isKey d = true) (h : Dat C F H d v) : ∃ k : Key, v = kV k ∧ d = keyD k := by
  cases d with
  | int i => simp only [Dat] at h; exact ⟨.inl i, h, rfl⟩
  | str i => simp only [Dat] at h; exact ⟨.inr i, h, rfl⟩
  | _ => simp [isKey] at hk
theorem dkv_cons {kvs : List (D × D)} {p : Key × V} {ks : List (Key × V)} (h : DKv C F H kvs ((p :: ks).map fun p => (kV p.1, p.2))) : ∃ d r, kvs = (keyD p.1, d) :: r ∧ Dat C F H d p.2 ∧ DKv C F H r (ks.map fun p => (kV p.1, p.2)) := by
  cases kvs with
  | nil => simp [DKv] at h
  | cons q r =>
    obtain ⟨k, d⟩ := q
    simp only [DKv] at h
    obtain ⟨x, y, r', e, h1, h2, h3⟩ := h
    rw [List.map_cons] at e
    cases e
    exact ⟨d, r, by rw [dat_key h1], h2, h3⟩
theorem dkv_nil {kvs : List (D × D)} (h : DKv C F H kvs []) : kvs = [] := by
  cases kvs with
  | nil => rfl
  | cons q r =>
    obtain ⟨k, d⟩ := q
    simp only [DKv] at h
    obtain ⟨x, y, r', e, _⟩ := h
    cases e
theorem dkv_mk {k : Key} {d : D} {v : V} {r : List (D × D)} {es : List (V × V)} (h : Dat C F H d v) (h2 : DKv C F H r es) : DKv C F H ((keyD k, d) :: r) ((kV k, v) :: es) := by
  simp only [DKv]
  refine ⟨kV k, v, es, rfl, ?_, h, h2⟩
  cases k <;> simp [keyD, kV, Dat]
theorem dLook_get {k : Key} : ∀ {ks : List (Key × V)} {kvs : List (D × D)}, DKv C F H kvs (ks.map fun p => (kV p.1, p.2)) → (valV ks k = none ∧ dLook kvs (keyD k) = none) ∨ ∃ v d, valV ks k = some v ∧ dLook kvs (keyD k) = some d ∧ Dat C F H d v
  | [], kvs, h => by
    rw [dkv_nil h]
    exact .inl ⟨rfl, rfl⟩
  | p :: ks, kvs, h => by
    obtain ⟨d, r, rfl, h1, h2⟩ := dkv_cons h
    by_cases e : p.1 = k
    · refine .inr ⟨p.2, d, valV_pos e, ?_, h1⟩
      unfold dLook
      rw [List.find?_cons_of_pos (by show kEq (keyD p.1) (keyD k) = true; rw [kEq_key, e]; exact decide_eq_true rfl)]
      rfl
    · have q := dLook_get (k := k) h2
      have e2 : dLook ((keyD p.1, d) :: r) (keyD k) = dLook r (keyD k) := by
        unfold dLook
        rw [List.find?_cons_of_neg (by show ¬ kEq (keyD p.1) (keyD k) = true; rw [kEq_key]; simpa using e)]
      rw [valV_neg e, e2]
      exact q
theorem dkv_map {k : Key} {v : V} {d : D} (hd : Dat C F H d v) : ∀ {ks : List (Key × V)} {kvs : List (D × D)}, DKv C F H kvs (ks.map fun p => (kV p.1, p.2)) → DKv C F H (kvs.map fun p => if kEq p.1 (keyD k) = true then (p.1, d) else p) ((ks.map fun kv => if kv.1 = k then (kv.1, v) else kv).map fun p => (kV p.1, p.2))
  | [], kvs, h => by
    rw [dkv_nil h]
    simp [DKv]
  | p :: ks, kvs, h => by
    obtain ⟨d', r, rfl, h1, h2⟩ := dkv_cons h
    have q := dkv_map (k := k) hd h2
    rw [List.map_cons, List.map_cons, List.map_cons]
    by_cases e : p.1 = k
    · rw [if_pos (show kEq (keyD p.1) (keyD k) = true by rw [kEq_key, e]; exact decide_eq_true rfl), if_pos e]
      exact dkv_mk hd q
    · rw [if_neg (show ¬ kEq (keyD p.1) (keyD k) = true by rw [kEq_key]; simpa using e), if_neg e]
      exact dkv_mk h1 q
theorem dkv_any {k : Key} : ∀ {ks : List (Key × V)} {kvs : List (D × D)}, DKv C F H kvs (ks.map fun p => (kV p.1, p.2)) → (kvs.any fun p => kEq p.1 (keyD k)) = ks.any fun kv => decide (kv.1 = k)
  | [], kvs, h => by
    rw [dkv_nil h]
    rfl
  | p :: ks, kvs, h => by
    obtain ⟨d', r, rfl, h1, h2⟩ := dkv_cons h
    rw [List.any_cons, List.any_cons, dkv_any h2, kEq_key]
theorem dkv_append {r r2 : List (D × D)} {es es2 : List (V × V)} (h : DKv C F H r es) (h2 : DKv C F H r2 es2) : DKv C F H (r ++ r2) (es ++ es2) := by
  induction r generalizing es with
  | nil =>
    have e : es = [] := by simpa only [DKv] using h
    subst e
    exact h2
  | cons p r ih =>
    obtain ⟨k, d⟩ := p
    simp only [DKv] at h
    obtain ⟨x, y, r', rfl, h1, h3, h4⟩ := h
    simp only [List.cons_append, DKv]
    exact ⟨x, y, _, rfl, h1, h3, ih h4⟩
theorem dkv_put {k : Key} {v : V} {d : D} {ks : List (Key × V)} {kvs : List (D × D)} (hd : Dat C F H d v) (h : DKv C F H kvs (ks.map fun p => (kV p.1, p.2))) : DKv C F H (dPut kvs (keyD k) d) ((putK ks k v).map fun p => (kV p.1, p.2)) := by
  unfold dPut putK
  rw [dkv_any h]
  by_cases e : (ks.any fun kv => decide (kv.1 = k)) = true
  · rw [if_pos e, if_pos e]
    exact dkv_map hd h
  · rw [if_neg e, if_neg e, List.map_append]
    exact dkv_append h (dkv_mk hd (by simp [DKv]))
end

section
variable {C : Cfg} {G : Gx} {F F' : Addr → Prop} {H H' : Hp} {σ : L2.St} {ρ : Sl} {n : Nat}
/-- a dict of one's own is changed -/
theorem EnvOk.writeD (E : EnvOk C G F H σ ρ n) {i : Nat} {ds ds' : List (D × D)} {a : Addr} {ks' : List (Key × V)} (h : ρ[i]? = some (some (.dic ds))) (hs : σ[i]? = some (some (.ref a))) (hd : DKv C F H ds' (ks'.map fun p => (kV p.1, p.2))) : EnvOk C G F (upd H a (.dK ks')) σ (ρ.set i (some (.dic ds'))) n ∧ ExtS F H F (upd H a (.dK ks')) := by
  obtain ⟨v, q, a', vs, e, f, h0, ht, ⟨ks, hl, hl2⟩, hr⟩ := E.slot i _ h
  rw [hs] at q
  cases q
  cases e
  have k : Kp F H (upd H a (.dK ks')) := kp_upd f hl (fun _ z => by cases z) fun _ _ z => by cases z
  refine ⟨⟨by rw [List.length_set]; exact E.len, fun j e q => ?_, fun j k e1 e2 b ne q1 q2 m1 m2 q3 q4 => ?_, fun b o q hb => ?_, E.fsub, fun b fb => ?_, fun t hT => ?_⟩, fun _ z => z, k⟩
  · rcases set_some q with ⟨rfl, rfl, _⟩ | ⟨ne, q⟩
    · exact ⟨_, hs, a, _, rfl, f, h0, ht, ⟨ks', upd_same, rfl⟩, DKv.mono k (fun _ z => z) _ _ hd⟩
    · obtain ⟨u, q1, r⟩ := E.slot j e q
      refine ⟨u, q1, ?_⟩
      cases e with
      | val d => exact Dat.mono k (fun _ z => z) d u r
      | own es =>
        obtain ⟨b, us, rfl, fb, hb0, hbt, hb, rb⟩ := r
        have nb : b ≠ a := fun z => E.apart j i _ _ a ne q h trivial trivial (by rw [← z]; exact q1) hs
        exact ⟨b, us, rfl, fb, hb0, hbt, by rw [upd_ne nb]; exact hb, Dats.mono k (fun _ z => z) _ _ rb⟩
      | dic es =>
        obtain ⟨b, us, rfl, fb, hb0, hbt, ⟨ks, hb, hb2⟩, rb⟩ := r
        have nb : b ≠ a := fun z => E.apart j i _ _ a ne q h trivial trivial (by rw [← z]; exact q1) hs
        exact ⟨b, us, rfl, fb, hb0, hbt, ⟨ks, by rw [upd_ne nb]; exact hb, hb2⟩, DKv.mono k (fun _ z => z) _ _ rb⟩
      | tape => exact r
  · have aux : ∀ {j : Nat} {e : Ent}, (ρ.set i (some (.dic ds')))[j]? = some (some e) → e.mut → ∃ e', ρ[j]? = some (some e') ∧ e'.mut := fun {j e} z zm => by
      rcases set_some z with ⟨rfl, rfl, _⟩ | ⟨_, z⟩
      · exact ⟨_, h, trivial⟩
      · exact ⟨e, z, zm⟩
    obtain ⟨e1', z1, y1⟩ := aux q1 m1
    obtain ⟨e2', z2, y2⟩ := aux q2 m2
    exact E.apart j k e1' e2' b ne z1 z2 y1 y2 q3 q4
  · have nb : b ≠ a := fun z => by rw [z, h0] at q; cases q
    rw [upd_ne nb]
    exact E.keep b o q hb
  · by_cases z : b = a
    · exact ⟨_, by rw [z]; exact upd_same⟩
    · rw [upd_ne z]; exact E.live b fb
  · obtain ⟨h1, h2, h3⟩ := E.tape t hT
    refine ⟨h1.mono (fun o q => ?_) k (fun _ z => z) (Nat.le_refl _), h2, h3⟩
    rw [upd_ne fun z => ht (by rw [← z]; exact hT)]
    exact q
/-- a new object that no one knows is laid, and kept by slot i -/
theorem EnvOk.newD (E : EnvOk C G F H σ ρ n) {i : Nat} {p : Addr} {ks : List (Key × V)} {kvs : List (D × D)} (hp : H p = none) (hd : DKv C F H kvs (ks.map fun p => (kV p.1, p.2))) : EnvOk C G F (upd H p (.dK ks)) (σ.set i (some (.ref p))) (ρ.set i (some (.dic kvs))) n ∧ Grow F H F (upd H p (.dK ks)) := by
  have g : Grow F H F (upd H p (.dK ks)) := grow_tup hp
  have nf : ¬ F p := fun z => by
    obtain ⟨o, z⟩ := E.live p z
    rw [hp] at z; cases z
  have no : ¬ Own σ ρ p := fun z => by
    obtain ⟨⟨o, z⟩, _⟩ := E.own_some z
    rw [hp] at z; cases z
  obtain ⟨h0, ht⟩ := E.none0 hp
  exact ⟨(E.grow g).seto ⟨p, _, rfl, nf, h0, ht, ⟨ks, upd_same, rfl⟩, DKv.mono g.kp g.sub _ _ hd⟩ no, g⟩
end

section
variable {X : Cx} {a b c e o i : Expr} {es : List Expr} {pos : Pos} {st : Stmt} {sts : List Stmt}
/-- name = {} -/
def dNewD (i : Nat) : DS := fun Dd ρ n => Dd.nx (ρ.set i (some (.dic []))) n
theorem rs_newD {i : Nat} (h : PS X st (tAsg tDNewK (gName i))) : RS X st (dNewD i) := PS.imp h fun Dq σ H ⟨G, F, ρ, n, Dd, E, q, k1, k2, k3, k4⟩ => fun p hp => by
  obtain ⟨E1, g⟩ := E.newD (i := i) (ks := []) (kvs := []) hp (by simp [DKv])
  exact k1 _ n q _ _ F E1 ⟨g.sub, g.kp⟩
/-- name[k] = v, a dict of one's own -/
def dDPut (i : Nat) (tk tv : DE) : DS := fun Dd ρ n => ∃ kvs, ρ[i]? = some (some (.dic kvs)) ∧ tv ρ n fun d n1 => tk ρ n1 fun k n2 => isKey k = true ∧ kvs.length < sizeLine ∧ Dd.nx (ρ.set i (some (.dic (dPut kvs k d)))) n2
theorem rs_dput {i : Nat} {tk tv : DE} (h : PS X st (sDPut (tVar i) (liftE (cfg X) tk) (liftE (cfg X) tv))) : RS X st (dDPut i tk tv) := PS.imp h fun Dq σ H ⟨G, F, ρ, n, Dd, E, ⟨kvs, hi, q⟩, k1, k2, k3, k4⟩ => ⟨G, F, ρ, n, _, E, q, fun d n1 q1 v H1 F1 E1 x1 dv => by
  obtain ⟨x, hx, a, es, rfl, _⟩ := E1.slot i _ hi
  refine ⟨.ref a, hx, G, F1, ρ, n1, _, E1, q1, fun kd n2 ⟨hk, hz, q2⟩ y H2 F2 E2 x2 dk => ?_⟩
  obtain ⟨x', hx', a', es', ex, f, h0, ht, ⟨ks, hl, el⟩, hr⟩ := E2.slot i _ hi
  rw [hx] at hx'
  cases hx'
  cases ex
  subst el
  obtain ⟨k, rfl, rfl⟩ := key_dat hk dk
  have dv2 := Dat.mono x2.kp x2.sub _ _ dv
  obtain ⟨E3, x3⟩ := E2.writeD (ks' := putK ks k v) hi hx (dkv_put dv2 hr)
  exact ⟨a, _, rfl, .k hl (by have := hr.len; rw [List.length_map] at this; omega), k1 _ n2 q2 _ _ _ E3 ((x1.s.trans x2.s).trans x3)⟩⟩
/-- d[k] -/
def dDGet (td tk : DE) : DE := fun ρ n Q => td ρ n fun d n1 => ∃ kvs, d = .dict kvs ∧ tk ρ n1 fun k n2 => isKey k = true ∧ ∃ v, dLook kvs k = some v ∧ Q v n2
theorem re_dget {td tk : DE} (hu : X.A.units + 64 < cLine) (ho : RB X o td) (hi : RE X i tk) (hs : NoSl i) : RE X (.Subscript o i pos) (dDGet td tk) := PE.imp (pe_dget (by omega) ho hi hs) fun σ H Q ⟨G, F, ρ, n, Qd, E, q, k⟩ => ⟨G, F, ρ, n, _, E, q, fun d n1 ⟨kvs, e, q1⟩ v H1 F1 E1 x1 dv => by
  subst e
  refine ⟨G, F1, ρ, n1, _, E1, q1, fun kd n2 ⟨hk, w, hw, q2⟩ y H2 F2 E2 x2 dk => ?_⟩
  obtain ⟨a, es, rfl, _, ⟨ks, hl, el⟩, hr⟩ := (dv.mono E1 x2).dict
  subst el
  obtain ⟨key, rfl, rfl⟩ := key_dat hk dk
  rcases dLook_get (k := key) hr with ⟨_, z⟩ | ⟨u, d', z1, z2, z3⟩
  · rw [hw] at z; cases z
  · rw [hw] at z2; cases z2
    exact ⟨a, u, rfl, by rw [← z1]; exact .k hl, k w n2 q2 u H2 F2 E2 (x1.trans x2 E E1) z3⟩⟩
/-- k in d -/
def dDIn (neg : Bool) (tk td : DE) : DE := fun ρ n Q => tk ρ n fun k n1 => td ρ n1 fun d n2 => ∃ kvs, d = .dict kvs ∧ isKey k = true ∧ Q (.bool (if neg then !(dLook kvs k).isSome else (dLook kvs k).isSome)) n2
theorem dic_in {neg : Bool} {td tk : DE} {σ : L2.St} {H : Hp} {Q : VK} (h : liftE (cfg X) (dDIn neg tk td) σ H Q) : (if neg then tDNotIn else tDIn) (liftE (cfg X) tk) (liftB (cfg X) td) σ H Q := by
  obtain ⟨G, F, ρ, n, Qd, E, q, k⟩ := h
  have main : liftE (cfg X) tk σ H fun y H1 => liftB (cfg X) td σ H1 fun x H2 => ∃ a o, x = .ref a ∧ DGet H2 a y o ∧ Q (.bl (if neg then !o.isSome else o.isSome)) H2 := by
    refine ⟨G, F, ρ, n, _, E, q, fun kd n1 q1 y H1 F1 E1 x1 dk => ⟨G, F1, ρ, n1, _, E1, q1, fun d n2 ⟨kvs, e, hk, q2⟩ x H2 F2 E2 x2 dd => ?_⟩⟩
    subst e
    obtain ⟨a, es, rfl, _, ⟨ks, hl, el⟩, hr⟩ := dd.dict
    subst el
    obtain ⟨key, rfl, rfl⟩ := key_dat hk dk
    refine ⟨a, valV ks key, rfl, .k hl, k _ n2 q2 _ H2 F2 E2 (x1.trans x2 E E1) ?_⟩
    rcases dLook_get (k := key) hr with ⟨z1, z2⟩ | ⟨u, d', z1, z2, z3⟩ <;> rw [z1, z2] <;> simp [Dat]
  cases neg
  · exact main
  · exact main
theorem re_din {td tk : DE} (hu : X.A.units + 64 < cLine) (hi : RE X i tk) (ho : RB X o td) (hm : behindInMarks .In o = false := by rfl) : RE X (.Compare i [.In] [o] pos) (dDIn false tk td) := PE.imp (pe_cmp (pc_din (by omega) hi ho) hm) fun σ H Q z => dic_in (neg := false) z
theorem re_dnotin {td tk : DE} (hu : X.A.units + 64 < cLine) (hi : RE X i tk) (ho : RB X o td) (hm : behindInMarks .NotIn o = false := by rfl) : RE X (.Compare i [.NotIn] [o] pos) (dDIn true tk td) := PE.imp (pe_cmp (pc_dnotin (by omega) hi ho) hm) fun σ H Q z => dic_in (neg := true) z
theorem lift_tB {t : DE} {σ : L2.St} {H : Hp} {Q : Bool → Hp → Prop} (h : liftT (cfg X) (tBoolD t) σ H Q) : tB (liftE (cfg X) t) σ H Q := by
  obtain ⟨G, F, ρ, n, Qd, E, q, k⟩ := h
  exact ⟨G, F, ρ, n, _, E, q, fun d m ⟨b, e, z⟩ v H' F' E' x' dv => by
    subst e
    exact ⟨b, by simpa only [Dat] using dv, k b m z H' F' E' x'⟩⟩
theorem rt_din {td tk : DE} (hu : X.A.units + 64 < cLine) (hi : RE X i tk) (ho : RB X o td) (hm : behindInMarks .In o = false := by rfl) : RT X (.Compare i [.In] [o] pos) (tBoolD (dDIn false tk td)) := PT.imp (pt_cmp (pc_din (by omega) hi ho) hm) fun σ H Q ⟨G, F, ρ, n, Qd, E, q, k⟩ => dic_in (neg := false) (Q := fun v H1 => ∃ b, v = .bl b ∧ Q b H1) (lift_tB ⟨G, F, ρ, n, Qd, E, q, k⟩)
theorem rt_dnotin {td tk : DE} (hu : X.A.units + 64 < cLine) (hi : RE X i tk) (ho : RB X o td) (hm : behindInMarks .NotIn o = false := by rfl) : RT X (.Compare i [.NotIn] [o] pos) (tBoolD (dDIn true tk td)) := PT.imp (pt_cmp (pc_dnotin (by omega) hi ho) hm) fun σ H Q ⟨G, F, ρ, n, Qd, E, q, k⟩ => dic_in (neg := true) (Q := fun v H1 => ∃ b, v = .bl b ∧ Q b H1) (lift_tB ⟨G, F, ρ, n, Qd, E, q, k⟩)
/-- d.get(k), d.get(k, x) -/
def dDGet1 (td tk : DE) : DE := fun ρ n Q => td ρ n fun d n1 => ∃ kvs, d = .dict kvs ∧ tk ρ n1 fun k n2 => isKey k = true ∧ Q ((dLook kvs k).getD .none) n2
theorem re_dget1 {td tk : DE} {apos : Pos} (hu : X.A.units + 64 < cLine) (ho : RB X o td) (hi : RE X e tk) (m : M1 X o "get" apos e pos) : RE X (.Call (.Attribute o "get" apos) [e] [] pos) (dDGet1 td tk) := PE.imp (pe_dget1 (by omega) ho hi m) fun σ H Q ⟨G, F, ρ, n, Qd, E, q, k⟩ => ⟨G, F, ρ, n, _, E, q, fun d n1 ⟨kvs, e, q1⟩ v H1 F1 E1 x1 dv => by
  subst e
  obtain ⟨a0, es0, rfl, _, ⟨ks0, hl0, el0⟩, hr0⟩ := dv.dict
  refine ⟨a0, rfl, .inl ⟨ks0, .inl hl0⟩, G, F1, ρ, n1, _, E1, q1, fun kd n2 ⟨hk, q2⟩ y H2 F2 E2 x2 dk => ?_⟩
  obtain ⟨a, es, ea, _, ⟨ks, hl, el⟩, hr⟩ := (dv.mono E1 x2).dict
  cases ea
  subst el
  obtain ⟨key, rfl, rfl⟩ := key_dat hk dk
  refine ⟨_, .k hl, k _ n2 q2 _ H2 F2 E2 (x1.trans x2 E E1) ?_⟩
  rcases dLook_get (k := key) hr with ⟨z1, z2⟩ | ⟨u, d', z1, z2, z3⟩ <;> rw [z1, z2]
  · simp [Dat]
  · exact z3⟩
def dDGet2 (td tk tx : DE) : DE := fun ρ n Q => td ρ n fun d n1 => ∃ kvs, d = .dict kvs ∧ tk ρ n1 fun k n2 => isKey k = true ∧ tx ρ n2 fun x n3 => Q ((dLook kvs k).getD x) n3
theorem re_dget2 {td tk tx : DE} {apos : Pos} (hu : X.A.units + 64 < cLine) (ho : RB X o td) (hi : RE X e tk) (hx : RE X a tx) (m : M2 X o "get" apos e a pos) : RE X (.Call (.Attribute o "get" apos) [e, a] [] pos) (dDGet2 td tk tx) := PE.imp (pe_dget2 (by omega) ho hi hx m) fun σ H Q ⟨G, F, ρ, n, Qd, E, q, k⟩ => ⟨G, F, ρ, n, _, E, q, fun d n1 ⟨kvs, e, q1⟩ v H1 F1 E1 x1 dv => by
  subst e
  obtain ⟨a0, es0, rfl, _, ⟨ks0, hl0, el0⟩, hr0⟩ := dv.dict
  refine ⟨a0, rfl, .inl ⟨ks0, .inl hl0⟩, G, F1, ρ, n1, _, E1, q1, fun kd n2 ⟨hk, q2⟩ y H2 F2 E2 x2 dk => ⟨G, F2, ρ, n2, _, E2, q2, fun xd n3 q3 z H3 F3 E3 x3 dz => ?_⟩⟩
  obtain ⟨a, es, ea, _, ⟨ks, hl, el⟩, hr⟩ := ((dv.mono E1 x2).mono E2 x3).dict
  cases ea
  subst el
  obtain ⟨key, rfl, rfl⟩ := key_dat hk dk
  refine ⟨_, .k hl, k _ n3 q3 _ H3 F3 E3 ((x1.trans x2 E E1).trans x3 E E2) ?_⟩
  rcases dLook_get (k := key) hr with ⟨z1, z2⟩ | ⟨u, d', z1, z2, z3⟩ <;> rw [z1, z2]
  · exact dz
  · exact z3⟩
/-- name = dict(pairs) -/
def dMerge (kvs : List (D × D)) (more : List (D × D)) : List (D × D) := more.foldl (fun acc p => dPut acc p.1 p.2) kvs
def pairD (p : D × D) : D := .tuple [p.1, p.2]
def dDict (i : Nat) (t : DE) : DS := fun Dd ρ n => t ρ n fun d m => ∃ ps : List (D × D), d = .list (ps.map pairD) ∧ (∀ p ∈ ps, isKey p.1 = true) ∧ Dd.nx (ρ.set i (some (.dic (dMerge [] ps)))) m
theorem dkv_merge {C : Cfg} {F : Addr → Prop} {H : Hp} : ∀ {ps : List (D × D)} {as : List V} {ks : List (Key × V)} {kvs : List (D × D)}, Dats C F H (ps.map pairD) as → (∀ p ∈ ps, isKey p.1 = true) → DKv C F H kvs (ks.map fun p => (kV p.1, p.2)) →
    ∃ (rs : List Addr) (more : List (Key × V)), as = rs.map V.ref ∧ Paired (fun p kv => SqT C.K H p [kV kv.1, kv.2]) rs more ∧ DKv C F H (dMerge kvs ps) ((mergeK ks more).map fun p => (kV p.1, p.2))
  | [], as, ks, kvs, h, _, h2 => by
    simp only [List.map_nil, Dats] at h
    subst h
    exact ⟨[], [], rfl, .nil, h2⟩
  | p :: ps, as, ks, kvs, h, hk, h2 => by
    simp only [List.map_cons, Dats] at h
    obtain ⟨v, r, rfl, h3, h4⟩ := h
    simp only [pairD, Dat, Dats] at h3
    obtain ⟨a, vs, rfl, h5, x, vs', rfl, h6, y, vs'', rfl, h7, rfl⟩ := h3
    obtain ⟨k, rfl, ek⟩ := key_dat (hk p List.mem_cons_self) h6
    have q := dkv_put (k := k) h7 h2
    obtain ⟨rs, more, rfl, h8, h9⟩ := dkv_merge (ks := putK ks k y) h4 (fun p hp => hk p (List.mem_cons_of_mem _ hp)) q
    refine ⟨a :: rs, (k, y) :: more, rfl, .cons h5 h8, ?_⟩
    show DKv C F H (dMerge (dPut kvs p.1 p.2) ps) _
    rw [ek]
    exact h9
def rDictP (K : PySem.W.Frag) : List V → Hp → VK → Prop := fun xs H Q => ∃ (a : Addr) (ps : List Addr) (kvs : List (Key × V)), xs = [.ref a] ∧ SqL K H a (ps.map V.ref) ∧ Paired (fun p kv => SqT K H p [kV kv.1, kv.2]) ps kvs ∧
    ∀ p, H p = none → Q (.ref p) (upd H p (.dK (mergeK [] kvs)))
theorem rs_dict {i : Nat} {t : DE} {p : Pos} (hcalm : X.calm = true) (hm : X.mg "dict" = none) (hst : ∀ {te : TE}, PE X (.Call (.Name "dict" p) [a] [] pos) te → PS X st (tAsg te (gName i))) (h : RB X a t) (hg : Gl X "dict" := by rfl) (hs : starEach [a] X.env = (false, eval a X.env) :: starEach [] X.env := by rfl) (hpl : (backTo pos (starEach [] X.env)).any (·.1) = false := by rfl) : RS X st (dDict i t) :=
  PS.imp (hst (pe_callTy (call_dictP hcalm) hg hm boot_dict0 (pa_cons h pa_nil hs) (by decide) (by decide) hs hpl)) fun Dq σ H ⟨G, F, ρ, n, Dd, E, q, k1, k2, k3, k4⟩ => ⟨G, F, ρ, n, _, E, q, fun d m ⟨ps, e, hk, q1⟩ v H1 F1 E1 x1 dv => by
    subst e
    obtain ⟨a, vs, rfl, _, hl, hr⟩ := dv.list
    obtain ⟨rs, more, rfl, h1, h2⟩ := dkv_merge (ks := []) (kvs := []) hr hk (by simp [DKv])
    refine ⟨a, rs, more, rfl, SqL.of hl, h1, fun p hp => ?_⟩
    obtain ⟨E2, g⟩ := E1.newD (i := i) hp h2
    exact k1 _ m q1 _ _ F1 E2 ⟨x1.sub, x1.kp.trans g.kp x1.sub⟩⟩
end

/-! ### sorted -/
section
variable {X : Cx} {a b c e o i : Expr} {es : List Expr} {pos : Pos} {st : Stmt} {sts : List Stmt}
theorem each_of {C : Cfg} {F : Addr → Prop} {H : Hp} : ∀ {ds : List D} {vs : List V} {us : List Value}, Dats C F H ds vs → Vals vs us → EachIs (fun u d => ∃ v, RelV v u ∧ Dat C F H d v) us ds
  | [], vs, us, h, r => by
    simp only [Dats] at h
    subst h
    cases r
    exact .nil
  | d :: ds, vs, us, h, r => by
    simp only [Dats] at h
    obtain ⟨v, r', rfl, h1, h2⟩ := h
    cases r with
    | cons r1 r2 => exact .cons ⟨v, r1, h1⟩ (each_of h2 r2)
theorem of_each {C : Cfg} {F : Addr → Prop} {H : Hp} : ∀ {ds : List D} {us : List Value}, EachIs (fun u d => ∃ v, RelV v u ∧ Dat C F H d v) us ds → ∃ vs, Vals vs us ∧ Dats C F H ds vs
  | _, _, .nil => ⟨[], .nil, by simp [Dats]⟩
  | _, _, .cons ⟨v, r1, h1⟩ h => by
    obtain ⟨vs, r2, h2⟩ := of_each h
    exact ⟨v :: vs, .cons r1 r2, by simp only [Dats]; exact ⟨v, vs, rfl, h1, h2⟩⟩
theorem each_reads {X : Cx} {pins : List (Addr × Obj)} {σ : L2.St} {H : Hp} {s : Shared} {F : Addr → Prop} (I : Inv X pins σ H s) : ∀ {ds : List D} {us : List Value}, noDicts ds = true → EachIs (fun u d => ∃ v, RelV v u ∧ Dat (cfg X) F H d v) us ds → EachIs (fun u d => ∃ as, Reads s.heap u (id d) as) us ds
  | _, _, _, .nil => .nil
  | d :: ds, _, hn, .cons ⟨v, r1, h1⟩ h => by
    simp only [noDicts, Bool.and_eq_true] at hn
    exact .cons (Dp.reads I d v _ (Dat.dp d v hn.1 h1) r1) (each_reads I hn.2 h)
def dSort (ds : List D) : List D := ds.mergeSort (dataLe false id)
def rSortL (C : Cfg) : List V → Hp → VK → Prop := fun xs H Q => ∃ (F : Addr → Prop) (a : Addr) (vs : List V) (ds : List D), xs = [.ref a] ∧ SqL C.K H a vs ∧ Dats C F H ds vs ∧ noDicts ds = true ∧ AllAlike ds ∧ Sortable ds ∧ (∀ d ∈ ds, d.depth ≤ 60) ∧
  ∀ p ys, H p = none → Dats C F H (dSort ds) ys → Q (.ref p) (upd H p (.lst ys))
theorem call_sortL (hu : X.A.units + 64 < cLine) : CallR X (.builtin "sorted") (rSortL (cfg X)) := by
  intro pins s σ H xs us Q I r q
  obtain ⟨F, a, vs, ds, rfl, hs, hd, hn, hal, hso, hdp, q⟩ := q
  obtain ⟨its, rv, hl, hz⟩ := I.list hs
  rw [Vals.ref1 r]
  have e0 := each_of hd rv
  have hL : ds.length ≤ sizeLine := by rw [← hd.len]; exact hz
  refine sorted_data (enc := id) (bs := ds) hl.isList e0 (each_reads I hn e0) (by rw [List.map_id]; exact hal) (by rw [List.map_id]; exact hso) hL (fun d hm => by have := hdp d hm; show X.A.units + 2 + d.depth < cLine; omega) fun out ho eo => ?_
  obtain ⟨ys, ry, hy⟩ := of_each eo
  obtain ⟨ep, he'⟩ := PyProof.Rows.sortedAll_at s.heap its out.toArray
  have hlen : ys.length ≤ sizeLine := by rw [ry.length, ho]; exact hL
  exact ⟨.ref _, upd H (s.heap.objs.size + 1) (.lst ys), I.laid (t' := s.toks) (fun _ _ => PyProof.Rows.sortedAll_old) (Nat.le_succ _) ⟨hlen, out, ep, ry, he'⟩, rfl, q _ ys (I.hok.fresh (Nat.le_succ _)) hy⟩
/-- sorted(list), of alike data -/
def gSort : D → (List D → Prop) → Prop := fun x Q => ∃ ds, x = .list ds ∧ noDicts ds = true ∧ AllAlike ds ∧ Sortable ds ∧ (∀ d ∈ ds, d.depth ≤ 60) ∧ Q (dSort ds)
theorem o1_sort {C : Cfg} : Op1O C (rSortL C) gSort := by
  intro F O H x dx Qd Q hF hx q k
  obtain ⟨ds, rfl, hn, hal, hso, hdp, q⟩ := q
  obtain ⟨a, vs, rfl, _, h1, r1⟩ := hx.list
  refine ⟨F, a, vs, ds, rfl, SqL.of h1, r1, hn, hal, hso, hdp, fun p ys hp hy => ?_⟩
  obtain ⟨g, nf⟩ := grow_lst (o := .lst ys) hp hF
  exact k _ q p ys _ F g hp nf upd_same (Dats.mono g.kp g.sub _ _ hy)
theorem ro_sort {p : Pos} {ta : DE} (hu : X.A.units + 64 < cLine) (hm : X.mg "sorted" = none) (ha : RB X a ta) (hg : Gl X "sorted" := by rfl) (hs : starEach [a] X.env = (false, eval a X.env) :: starEach [] X.env := by rfl) (hpl : (backTo pos (starEach [] X.env)).any (·.1) = false := by rfl) : RO X (.Call (.Name "sorted" p) [a] [] pos) (d1O gSort ta) :=
  ro_1 o1_sort (fun h => pe_callB (call_sortL hu) hg hm boot_sorted0 h (by decide) (by decide) hs hpl) ha hs
/-- sorted(d), of a dict whose keys are all texts -/
def srtS (ks : List Str) : List Str := ks.mergeSort (dataLe false fun x => PyData.str x)
def rSortD : List V → Hp → VK → Prop := fun xs H Q => ∃ (a : Addr) (kvs : List (Key × V)) (ks : List Str), xs = [.ref a] ∧ Rd H a (.dK kvs) ∧ kvs.map (·.1) = ks.map Sum.inr ∧
    ∀ p, H p = none → Q (.ref p) (upd H p (.lst ((srtS ks).map V.str)))
theorem eachStr : ∀ {us : List Value} {ks : List Str}, StrsAre us ks → EachIs (fun u x => RelV (.str x) u) us ks
  | _, _, .nil => .nil
  | _, _, .cons x t h => .cons ⟨t, rfl⟩ (eachStr h)
theorem eachStr_vals : ∀ {us : List Value} {ks : List Str}, EachIs (fun u x => RelV (.str x) u) us ks → Vals (ks.map V.str) us
  | _, _, .nil => .nil
  | _, _, .cons r h => .cons r (eachStr_vals h)
theorem call_sortD (hcalm : X.calm = true) (hu : X.A.units + 64 < cLine) : CallR X (.builtin "sorted") rSortD := by
  intro pins s σ H xs us Q I r q
  obtain ⟨a, kvs, ks, rfl, hd, hks, q⟩ := q
  rw [Vals.ref1 r]
  obtain ⟨z, lo, vs, rel, dd⟩ := dk_rd I.hok hd
  obtain ⟨ep, hat⟩ := dd.dictAt
  have hkeys : vs.map (·.1) = ks.map Sum.inr := rel.keys.symm.trans hks
  have hl : vs.length = ks.length := by simpa using congrArg List.length hkeys
  have hsz : vs.length ≤ sizeLine := by rw [← rel.length]; exact z
  refine Calls.call_function_entry kind_sorted plain_sorted entry_sorted (args_sorted1 _) ?_
  unfold Builtin.«sorted»
  refine wpAny_bind (m := checkCount "sorted" 1 1 _) (wpAny_pure ?_)
  refine wpAny_bind (kdu_collect (A := X.A.in1) (kdl_dict (knd := mixKind X.prog X.w) (kvs := vs) (ep := ep) lo) (I.ok.hd hcalm) hat hsz fun h' tk acc hk hacc => ?_)
  have hal : acc.toList.length = ks.length := by rw [Array.length_toList, hacc.1, hl]
  have hS : StrsAre acc.toList ks := strs_at hal fun j v e => by
    obtain ⟨k, x, e1, e2⟩ := hacc.2 j v (by rw [← Array.getElem?_toList]; exact e)
    have e3 : (vs.map (·.1))[j]? = some k := by simp [e1]
    rw [hkeys, List.getElem?_map] at e3
    cases e4 : ks[j]? with
    | none => simp [e4] at e3
    | some y =>
      simp only [e4, Option.map_some, Option.some.injEq] at e3
      subst e3
      obtain ⟨t, ev⟩ := Value.isStrOf_shape (x := y) (v := v) e2
      exact ⟨y, t, rfl, ev⟩
  have I1 : Inv X pins σ H { s with heap := h', toks := tk } := I.kept hk
  have hL2 : ks.length ≤ sizeLine := by rw [← hl]; exact hsz
  refine wpAny_bind (wpAny_newList ?_ (by rw [hal]; exact hL2))
  have hoL : (h'.push (seqObj "list" acc.toList.toArray 0)).get? h'.objs.size = some (seqObj "list" acc.toList.toArray 0) := Heap.get?_push_size _ rfl
  show wpAny _ _ _ _ _ { s with heap := h'.push (seqObj "list" acc.toList.toArray 0), toks := tk }
  have e0 := eachStr hS
  have er : EachIs (fun v b => ∃ as, Reads (sortingHeap (h'.push (seqObj "list" acc.toList.toArray 0)) h'.objs.size acc.toList) v ((fun x => PyData.str x) b) as) acc.toList ks := e0.mono fun v b ⟨t, e⟩ => ⟨[], by rw [e]; exact .str b t⟩
  have ha : AllAlike (ks.map fun x => PyData.str x) := AllAlike.of fun _ _ => by simp [alike]
  have hso : Sortable (ks.map fun x => PyData.str x) := Sortable.others fun b => And.intro (fun z => by cases z) (fun xs z => by cases z)
  refine wpAny_bind (wpAny_holding (wpAny_call_entry slot_list_sort ⟨_, hoL, rfl⟩ entry_list_sort
    (list_sort_vals (κ := dataKind (sortingHeap (h'.push (seqObj "list" acc.toList.toArray 0)) h'.objs.size acc.toList) (ks.map fun x => PyData.str x)) (s := { s with heap := h'.push (seqObj "list" acc.toList.toArray 0), toks := tk }) hoL
      (SortsAt.data (s := { s with heap := sortingHeap (h'.push (seqObj "list" acc.toList.toArray 0)) h'.objs.size acc.toList, toks := tk }) (each_map (R := fun v d => ∃ as, Reads (sortingHeap (h'.push (seqObj "list" acc.toList.toArray 0)) h'.objs.size acc.toList) v d as) (fun x => PyData.str x) er) ha hso (bound_map (A := X.A.in1.in1) (bs := ks) (enc := fun x => PyData.str x) fun b _ => by show X.A.units + 1 + 1 + 0 < cLine; omega)) (by rw [hal]; exact hL2) ⟨_, rfl, ?_⟩)
    (args_list_sort _)))
  have eo := sortVals_data false e0 er ha
  have ry := eachStr_vals eo
  obtain ⟨e', he'⟩ := sortedHeap_at (vs := acc.toList) (out := (sortVals (dataKind (sortingHeap (h'.push (seqObj "list" acc.toList.toArray 0)) h'.objs.size acc.toList) (ks.map fun x => PyData.str x)) false acc.toList acc.toList).toArray) hoL
  refine wpAny_pure ⟨_, rfl, .ref h'.objs.size, upd H h'.objs.size _, I1.laid (t' := tk) (fun b u e => ?_) (Nat.le_refl _) (show ObjOk X.prog X.w _ _ _ (.lst _) from ⟨?_, _, e', ry, he'⟩), rfl, q _ (I1.hok.fresh (Nat.le_refl _))⟩
  · have hb : b < h'.objs.size := Heap.lt_size e
    rw [sortedHeap_old (Nat.ne_of_lt hb) (by rw [size_push']; exact Nat.lt_succ_of_lt hb)]
    exact Heap.get?_push_of_some _ e
  · rw [List.length_map, List.length_mergeSort]; exact hL2
def gSortD : D → (List D → Prop) → Prop := fun x Q => ∃ (kvs : List (D × D)) (ks : List Str), x = .dict kvs ∧ kvs.map (·.1) = ks.map PyData.str ∧ Q ((srtS ks).map PyData.str)
theorem dkv_keys {C : Cfg} {F : Addr → Prop} {H : Hp} : ∀ {ks : List (Key × V)} {kvs : List (D × D)} {zs : List Str}, DKv C F H kvs (ks.map fun p => (kV p.1, p.2)) → kvs.map (·.1) = zs.map PyData.str → ks.map (·.1) = zs.map Sum.inr
  | [], kvs, zs, h, e => by
    rw [dkv_nil h] at e
    cases zs with
    | nil => rfl
    | cons z zs => cases e
  | p :: ks, kvs, zs, h, e => by
    obtain ⟨d, r, rfl, h1, h2⟩ := dkv_cons h
    cases zs with
    | nil => cases e
    | cons z zs =>
      simp only [List.map_cons, List.cons.injEq] at e ⊢
      refine ⟨?_, dkv_keys h2 e.2⟩
      cases hp : p.1 with
      | inl i => rw [hp] at e; cases e.1
      | inr x => rw [hp] at e; cases e.1; rfl
theorem o1_sortD {C : Cfg} : Op1O C rSortD gSortD := by
  intro F O H x dx Qd Q hF hx q k
  obtain ⟨kvs, ks, rfl, ek, q⟩ := q
  obtain ⟨a, es, rfl, _, ⟨rs, h1, h2⟩, r1⟩ := hx.dict
  subst h2
  refine ⟨a, rs, ks, rfl, .inl h1, dkv_keys r1 ek, fun p hp => ?_⟩
  obtain ⟨g, nf⟩ := grow_lst (o := .lst ((srtS ks).map V.str)) hp hF
  exact k _ q p _ _ F g hp nf upd_same (dats_strs.mpr rfl)
theorem ro_sortD {p : Pos} {ta : DE} (hc : X.calm = true) (hu : X.A.units + 64 < cLine) (hm : X.mg "sorted" = none) (ha : RB X a ta) (hg : Gl X "sorted" := by rfl) (hs : starEach [a] X.env = (false, eval a X.env) :: starEach [] X.env := by rfl) (hpl : (backTo pos (starEach [] X.env)).any (·.1) = false := by rfl) : RO X (.Call (.Name "sorted" p) [a] [] pos) (d1O gSortD ta) :=
  ro_1 o1_sortD (fun h => pe_callB (call_sortD hc hu) hg hm boot_sorted0 h (by decide) (by decide) hs hpl) ha hs

/-! ### repr, where no repr is under way -/
def rReprX (C : Cfg) : List V → Hp → VK → Prop := fun xs H Q => ∃ (x : V) (d : D), xs = [x] ∧ Dp C.K H x d ∧ (∃ a, x = .ref a) ∧ d.hasDict = false ∧ d.showable = true ∧ d.depth ≤ 60 ∧ d.shown.length ≤ sizeLine ∧ Q (.str d.shown) H
theorem call_reprX (hg : X.A.guards = some []) (hu : X.A.units + 64 < cLine) : CallR X (.builtin "repr") (rReprX (cfg X)) := by
  intro pins s σ H xs us Q I r q
  obtain ⟨x, d, rfl, hd, ⟨a, rfl⟩, hn, hs, hdp, hz, q⟩ := q
  rw [Vals.ref1 r]
  obtain ⟨as, rd⟩ := Dp.reads I d (.ref a) (.ref a) hd rfl
  exact repr_of_reads' rd hs (fun z => by rw [hn] at z; cases z) hg (by omega) (fun _ _ e => e) (fun h' u tk hk => ⟨.str d.shown, H, I.kept hk, ⟨_, rfl⟩, q⟩) hz
/-- repr of a tuple or a list without dicts -/
def gRepr : D → (D → Prop) → Prop := fun d Q => ((∃ ds, d = .list ds) ∨ ∃ ds, d = .tuple ds) ∧ noDict d = true ∧ d.hasDict = false ∧ d.showable = true ∧ d.depth ≤ 60 ∧ d.shown.length ≤ sizeLine ∧ Q (.str d.shown)
theorem o1_repr {C : Cfg} : Op1 C (rReprX C) gRepr := by
  intro F O H x dx Qd Q hF hx q k
  obtain ⟨hsh, hn, hn2, hs, hdp, hz, q⟩ := q
  refine ⟨x, dx, rfl, hx.dp hn, ?_, hn2, hs, hdp, hz, k _ q _ H F .refl (by simp only [Dat])⟩
  rcases hsh with ⟨ds, rfl⟩ | ⟨ds, rfl⟩
  · obtain ⟨a, vs, rfl, _⟩ := hx.list
    exact ⟨a, rfl⟩
  · obtain ⟨a, vs, rfl, _⟩ := hx.tuple
    exact ⟨a, rfl⟩
theorem re_repr {p : Pos} {ta : DE} (hG : X.A.guards = some []) (hu : X.A.units + 64 < cLine) (hm : X.mg "repr" = none) (ha : RB X a ta) (hg : Gl X "repr" := by rfl) (hs : starEach [a] X.env = (false, eval a X.env) :: starEach [] X.env := by rfl) (hpl : (backTo pos (starEach [] X.env)).any (·.1) = false := by rfl) : RE X (.Call (.Name "repr" p) [a] [] pos) (d1 gRepr ta) :=
  re_1 o1_repr (fun h => pe_callB (call_reprX hG hu) hg hm boot_repr0 h (by decide) (by decide) hs hpl) ha hs
end
end DL

namespace DL
open PySem PySem.W PyProof.Rows L2

/-! ### defs that are run where no repr is under way, and the law's own -/
abbrev noX : XK := fun _ _ _ => False
structure FnG (P : Program) (w : World) (K : PySem.W.Frag) (mg : Str → Option Value) (base : Heap) (k : Nat) (f : Addr) (fd : FuncData) (ps : List Str) (sp : Sp) : Prop where
  len : ∀ vs H Q E, sp vs H Q E → vs.length = ps.length
  go : ∀ (A : Around) (outer : List Env) (s : Shared) (H : Hp) (args : Args) (us : List Value) (vs : List V) (Q : VK) (E : XK), A.guards = some [] → Room k A → Env0 P w K mg base A outer s H → BindsTo s fd args (ps.zip us) → Vals vs us →
    sp vs H Q E → codeAny (model P w) A (.call (.ref f) args) (CR CX0 outer P w H s Q E) s
section
variable {P : Program} {w : World} {K : PySem.W.Frag} {mg : Str → Option Value} {base : Heap}
theorem FnG.of {k : Nat} {f : Addr} {fd : FuncData} {ps : List Str} {sp : Sp} (h : FnOk P w K mg base CX0 k f fd ps sp) : FnG P w K mg base k f fd ps sp := ⟨h.len, fun A outer s H args us vs Q E _ => h.run A outer s H args us vs Q E⟩
theorem FnG.imp {k : Nat} {f : Addr} {fd : FuncData} {ps : List Str} {sp sp' : Sp} (h : FnG P w K mg base k f fd ps sp) (q : ∀ vs H Q E, sp' vs H Q E → sp vs H Q E) : FnG P w K mg base k f fd ps sp' :=
  ⟨fun vs H Q E z => h.len vs H Q E (q _ _ _ _ z), fun A outer s H args us vs Q E h1 h2 h3 h4 h5 h6 => h.go A outer s H args us vs Q E h1 h2 h3 h4 h5 (q _ _ _ _ h6)⟩
theorem fn_G {x qual : Str} {st : Stmt} {f : Addr} {fd : FuncData} {N ps : List Str} {k : Nat} {sp : Sp} (F : Fun K x qual st f fd) (S : FnScope N ps (defScope st)) (len : ∀ vs H Q E, sp vs H Q E → vs.length = ps.length)
    (hbody : ∀ (cdv : Value) (A : Around) (outer : List Env) (s : Shared) (H : Hp) (vs : List V) (Q : VK) (E : XK), (A.deeper (envOfC qual (defScope st) s.heap.objs.size f cdv)).guards = some [] → Room k (A.deeper (envOfC qual (defScope st) s.heap.objs.size f cdv)) → sp vs H Q E →
      ∃ t, PSs (cxOf CX0 P w K mg base N qual (defScope st) f cdv A outer s H E).nox (defBody st) t ∧ t { nx := fun _ H' => Q .non H', rt := Q } (start N vs) H) : FnG P w K mg base (k + 1) f fd ps sp := by
  obtain ⟨oc, od, kV, doc, pm, an, cdv, ct, osl, rfl, lk, hcd⟩ := F.ex
  constructor
  · exact len
  · intro A outer s H args us vs Q E hG hr e0 hb r hsp
    have hin : K.In s.heap := e0.mod.kin.keeps fun b o e => (e0.bs b o e).1
    have hnl : s.heap.NoLimit := e0.mod.nolimit.keeps fun b o e => (e0.bs b o e).1
    refine codeAny_call_function hr.depth (hin _ _ lk) rfl S.co S.gen rfl (codeRec_of hin hcd) (hb _ _ _ _ ?_)
    refine wpAny_newFunctionEnv_cells S.kind (fun y hy => ?_) fun env he s1 x => ?_
    · have hm : y.1 ∈ ps := (List.of_mem_zip (show (y.1, y.2) ∈ ps.zip us from hy)).1
      exact (S.par y.1 hm).elim .inl fun q => .inr ⟨q, cellsFrom_some _ _ _ (.inl q)⟩
    subst he
    refine ⟨hnl.keeps x.toInCall.keep, codeAny_func ?_⟩
    obtain ⟨t, ht, hq⟩ := hbody cdv A outer s H vs Q E hG (hr.deeper _) hsp
    have I0 := inv_start (CX := CX0) (E := E) S hr.hd e0 (len _ _ _ _ hsp) r x
    refine wpAny_mono (ht.nox.run [] s1 (start N vs) H _ I0 hq) (fun fl s' hs => ?_) fun _ _ hs => hs
    cases fl with
    | ret u =>
      obtain ⟨v, σ', H', J, rv, q⟩ := hs
      exact ⟨v, H', J.os, J.bare, J.base, J.hok, rv, q⟩
    | next =>
      obtain ⟨σ', H', J, q⟩ := hs
      exact ⟨V.non, H', J.os, J.bare, J.base, J.hok, rfl, q⟩
    | brk =>
      obtain ⟨_, _, _, q⟩ := hs
      exact q.elim
    | cont =>
      obtain ⟨_, _, _, q⟩ := hs
      exact q.elim
end
section
variable {X : Cx} {k : Nat} {f : Addr} {fd : FuncData} {ps : List Str} {sp : Sp} {dvs : List V} {ds : List Value} {x : Str} {p pos : Pos} {e : Expr} {es : List Expr} {t : TA} {E : XK}
/-- f(e, ..) of such a def -/
theorem pe_callG (F : FnG X.prog X.w X.K X.mg X.base k f fd ps sp) (hG : X.A.guards = some []) (hr : Room k X.A) (hg : Gl X x) (hm : X.mg x = some (.ref f)) (hk : PySem.W.keepIn X.K (.ref f) = true) (hb : Binds X.K fd ps ds) (hd : Vals dvs ds) (ha : PA X (e :: es) t)
    (hdb : (x == ("__debug__" : Str)) = false := by decide) (he : starEach (e :: es) X.env = (false, eval e X.env) :: starEach es X.env := by rfl) (hpl : (backTo pos (starEach es X.env)).any (·.1) = false := by rfl) : PE X (.Call (.Name x p) (e :: es) [] pos) (tCall sp dvs E t) := ⟨fun pins s σ H Q I h =>
  wpAny_Call_Name_kw (ld_glob I hg hm (callWith_K (h₀ := X.base) I.ok.mod.kin hk (thn (ha.run pos pins s σ H _ I h) fun us s1 ⟨vs, H1, I1, r, q⟩ => ⟨I1.kIn, by
    have r2 := r.append hd
    have hl : (us ++ ds).length = ps.length := r2.length.symm.trans (F.len _ _ _ _ q)
    refine wpAny_call (codeAny_mono (F.go X.A X.stack s1 H1 ⟨us, []⟩ _ _ Q E hG hr I1.env0 (hb s1 us I1.kIn hl) r2 q) fun res s2 hq => ?_)
    match res, hq with
    | .ok (.ret u), hq => exact I1.after hq
    | .ok .next, hq => exact hq.elim
    | .ok .brk, hq => exact hq.elim
    | .ok .cont, hq => exact hq.elim
    | .error _, hq => exact hq.elim⟩) he hpl) hdb)⟩
end

/-! ### the law's own call -/
/-- what is known of the script: it is no one's but the law's caller's -/
def scH (K : PySem.W.Frag) (a : Addr) (o : Obj) (ns : List Int) : Hp := fun b => if b = a ∧ (K.lookup a).isNone = true then some (.frz o (.lst (ns.map V.int))) else none
section
variable {P : Program} {w : World} {K : PySem.W.Frag} {mg mb : Str → Option Value}
theorem scH_some {a b : Addr} {o : Obj} {ns : List Int} {u : HO} (h : scH K a o ns b = some u) : b = a ∧ K.lookup a = none ∧ u = .frz o (.lst (ns.map V.int)) := by
  unfold scH at h
  split at h
  · rename_i c
    cases h
    exact ⟨c.1, by simpa using c.2, rfl⟩
  · cases h
theorem law_G {k : Nat} {fa a : Addr} {fd : FuncData} {x : Str} {sp : Sp} {s1 : Shared} {vs : List Value} {ns : List Int} (hin : K.In s1.heap) (hns : s1.heap.Ns mainGlobals mg) (hbn : s1.heap.Ns builtinsNs mb) (hbb : ∀ x : Str, x ≠ "__name__" → mb x = bootBuiltins x) (hnl : s1.heap.NoLimit)
    (hg : s1.gens = #[]) (ha : s1.heap.get? a = some { cls := .type "list", data := .seq vs.toArray }) (hi : IntsAre vs ns) (hl : ns.length ≤ sizeLine) (hr : Room k callerA)
    (F : ∀ base : Heap, K.In base → base.Ns mainGlobals mg → FnG P w K mg base k fa fd [x] sp) (hbind : ∀ (s : Shared) (u : Value), BindsTo s fd ⟨[u], []⟩ [(x, u)])
    (hsp : ∀ H : Hp, Only H → SqL K H a (ns.map V.int) → sp [.ref a] H (fun v _ => v = .bl true) noX) :
    codeAny (model P w) callerA (.call (.ref fa) ⟨[.ref a], []⟩) (fun r s' => r = .ok (.ret (.bool true)) ∧ OldK s1.heap s'.heap ∧ s'.os = s1.os ∧ AllBare s'.gens) s1 := by
  let ob : Obj := { cls := .type "list", data := .seq vs.toArray }
  let H := scH K a ob ns
  have rv : Vals (ns.map V.int) vs := vals_ints hi
  have hvl : vs.length = ns.length := hi.length
  have only : Only H := fun b => by
    cases e : H b with
    | none => exact .inl rfl
    | some u =>
      obtain ⟨_, _, z⟩ := scH_some e
      exact .inr ⟨_, _, by rw [z]⟩
  have sq : SqL K H a (ns.map V.int) := by
    cases hk : K.lookup a with
    | none => exact .inl (.inr ⟨ob, if_pos ⟨rfl, by rw [hk]; rfl⟩⟩)
    | some o =>
      have e := hin a o hk
      rw [ha] at e
      cases e
      exact .inr ⟨_, vs.toArray, _, hk, rfl, rfl, rfl, by rw [List.size_toArray, hvl]; exact hl, by simpa using rv⟩
  have hok : HOk P w H s1.heap := fun b u e => by
    obtain ⟨rfl, _, rfl⟩ := scH_some e
    exact ⟨ha, by rw [List.length_map]; exact hl, vs, _, rv, ha⟩
  have free : ∀ {b : Addr} {o : Obj} {es : Array DictEntry} {ep : Nat}, s1.heap.get? b = some o → o.data = .dict es ep → H b = none := fun {b o es ep} e d => by
    cases q : H b with
    | none => rfl
    | some u =>
      obtain ⟨rfl, _, _⟩ := scH_some q
      rw [ha] at e
      cases e
      cases d
  have freeK : ∀ {b : Addr} {o : Obj}, K.lookup b = some o → H b = none := fun {b o} e => by
    cases q : H b with
    | none => rfl
    | some u =>
      obtain ⟨rfl, z, _⟩ := scH_some q
      rw [e] at z
      cases z
  have hB : K.In (hidT s1.heap H) := fun b o e => hidT_get (hin b o e) (freeK e)
  have nsB : ∀ {b : Addr} {m : Str → Option Value}, s1.heap.Ns b m → (hidT s1.heap H).Ns b m := fun ⟨o, es, ep, e, d, r⟩ => ⟨o, es, ep, hidT_get e (free e d), d, r⟩
  have env : Env0 P w K mg (hidT s1.heap H) callerA [] s1 H := {
    frames := rfl
    mod := ⟨hB, nsB hns, ⟨mb, nsB hbn, hbb⟩, hnl.elim fun mc z => ⟨mc, nsB z.1, z.2⟩⟩
    bs := fun b o e => of_hidT e
    bsz := Nat.le_of_eq (hidT_size _ _)
    funs := trivial
    frf := fun b hb => absurd (show b ∈ ([] : List Addr) from hb) (by simp)
    hok := hok
    bare := .of_eq hg }
  refine codeAny_mono ((F _ hB (nsB hns)).go callerA [] s1 H ⟨[.ref a], []⟩ [.ref a] [.ref a] _ _ rfl hr env (hbind s1 (.ref a)) (.cons rfl .nil) (hsp H only sq)) fun r s' h => ?_
  match r, h with
  | .ok (.ret u), ⟨v, H', os, bare, un, hok', r', q⟩ =>
    have q' : v = .bl true := q
    subst q'
    have eu : u = Value.bool true := r'
    subst eu
    refine ⟨rfl, OldK.of_keep fun b o e => ?_, os, bare⟩
    cases q : H b with
    | none => exact un.keep b o e q (fun z => absurd (show b ∈ ([] : List Addr) from z) (by simp)) (by simp)
    | some u =>
      obtain ⟨rfl, _, rfl⟩ := scH_some q
      have z2 := un.frzs _ _ _ q
      have e2 := (hok' _ _ z2).1
      rw [ha] at e
      cases e
      exact e2
  | .ok .next, h => exact h.elim
  | .ok .brk, h => exact h.elim
  | .ok .cont, h => exact h.elim
  | .error _, h => exact h.elim
/-- the goal behind k_head, from the law's promise -/
theorem walk_G {l : PySem.W.OpenLaw} {n k : Nat} {q : Program} {loose : List Str} {XP : (Str → Option Value) → Heap → Prop} {YP : World → Heap → Prop} {d : DefRec} {KK : Params → PySem.W.Frag} {sp : World → Sp} {x : Str}
    (hn : l.most = some n) (hn2 : n ≤ sizeLine) (hdf : d.params.defaults = []) (hr : Room k callerA) (hY : ∀ (w : World) (h : Heap), YP w h → (KK w.params).In h)
    (F : ∀ (w : World) (mg : Str → Option Value) (fa : Addr) (h : Heap), (KK w.params).In h → h.Ns mainGlobals mg → mg d.name = some (.ref fa) →
      ∃ fd : FuncData, (∀ (s : Shared) (u : Value), BindsTo s fd ⟨[u], []⟩ [(x, u)]) ∧ ∀ base : Heap, (KK w.params).In base → base.Ns mainGlobals mg → FnG l.prog w (KK w.params) mg base k fa fd [x] (sp w))
    (hsp : ∀ (w : World) (H : Hp) (a : Addr) (ns : List Int), ns.length ≤ n → Only H → SqL (KK w.params) H a (ns.map V.int) → sp w [.ref a] H (fun v _ => v = .bl true) noX) : PySem.W.WalkO q loose XP YP l.row.toRowW d [] (fun f vs => PySem.call f vs) :=
  Att.attach_call hn hdf fun w s0 s1 mg mb fa o pm cd doc a vs ns G Y ho hd hcd hmg hobj hints hlen hg => by
    obtain ⟨fd, hb, hF⟩ := F w mg fa _ (hY w _ Y) G.T.g hmg
    exact law_G (hY w _ Y) G.T.g G.T.b G.T.builtins G.T.nolimit hg hobj hints (Nat.le_trans hlen hn2) hr hF hb fun H hO hS => hsp w H a ns hlen hO hS
end
end DL

namespace DL
open PySem PySem.W PyProof.Rows L2

/-! ### draws -/
def spDraw : TSp := fun ds n Q => ∃ many : Int, ds = [.int many] ∧ 0 < many ∧ many < 2 ^ 30 ∧ n < 2 ^ 40 ∧ ∀ r : Int, 0 ≤ r → r < many → Q (.int r) (n + 1)
section
variable (K : PySem.W.Frag)
def tTp (i : Int) : TE := tOp (rIx K) (tVar 0) (tC (.int i))
def tSetTp (i : Int) (te : TE) : TS := tAsg te (gSub (tVar 0) (tC (.int i)) rSetL)
def tLenTp : TE := tCB (rLenX K) (tCons (tTp K 0) tNil)
abbrev tMd (a b : TE) : TE := tOp (rI (fun _ j => 0 < j) fun i j => .int (i % j)) a b
abbrev tDv (a b : TE) : TE := tOp (rI CDiv fun i j => .int (i / j)) a b
abbrev tMl (a b : TE) : TE := tOp (rI CMul fun i j => .int (i * j)) a b
abbrev tAd (a b : TE) : TE := tOp (rI0 fun i j => .int (i + j)) a b
abbrev tI (i : Int) : TE := tC (.int i)
def tDraw (c1 c2 c3 : Int) : TS :=
  tSeq (tIfS (tTest (tOp (rI0 fun i j => .bl (decide (j < i))) (tTp K 2) (tI 0)))
    (tSeq (tAsg (tMd (tTp K 2) (tVar 1)) (gName 2)) (tSeq (tSetTp 2 (tDv (tTp K 2) (tVar 1))) (tRet (tVar 2)))) tNext)
  (tSeq (tAsg (tTp K 1) (gName 3))
  (tSeq (tSetTp 1 (tAd (tVar 3) (tI 1)))
  (tSeq (tAsg (tI 0) (gName 4))
  (tSeq (tIfS (tTest (tOp (rI0 fun i j => .bl (decide (j < i))) (tLenTp K) (tI 0)))
    (tAsg (tOp (rIx K) (tTp K 0) (tMd (tVar 3) (tLenTp K))) (gName 4)) tNext)
  (tSeq (tIfS (tAnd (tTest (tOp (rI0 fun i j => .bl (decide (j ≤ i))) (tVar 4) (tOp (rI CPow fun i j => .int (i ^ j.toNat)) (tI 10) (tI 18)))) (tTest (tOp (rI0 fun i j => .bl (decide (i < j))) (tVar 3) (tLenTp K))))
    (tSeq (tSetTp 2 (tDv (tVar 4) (tVar 1))) (tRet (tMd (tVar 4) (tVar 1)))) tNext)
  (tSeq (tAsg (tMd (tMl (tAd (tAd (tMd (tVar 4) (tI 999331)) (tMl (tMl (tI c1) (tVar 3)) (tVar 3))) (tI c2)) (tI 40692)) (tI 999961)) (gName 5))
  (tRet (tMd (tMd (tMl (tMd (tAd (tMl (tVar 5) (tI 48271)) (tMl (tVar 3) (tI c3))) (tI 999953)) (tI 16807)) (tI 524287)) (tVar 1)))))))))
end
theorem iteB {b : Bool} {A B : Prop} (h1 : b = true → A) (h2 : b = false → B) : if b = true then A else B := by
  cases b with
  | true => rw [if_pos rfl]; exact h1 rfl
  | false => rw [if_neg Bool.false_ne_true]; exact h2 rfl
theorem iteD {c A B : Prop} [Decidable c] (h1 : c → A) (h2 : ¬ c → B) : if decide c = true then A else B := iteB (fun h => h1 (of_decide_eq_true h)) fun h => h2 (of_decide_eq_false h)
theorem TapeEx.of {t s : Addr} {F : Addr → Prop} {H H' : Hp} {n : Nat} {ns : List Int} {spot rest : Int} (nt : ¬ F t) (lv : Live F H) (fs : F s) (hs : H s = some (.lst (ns.map V.int))) (hl : ns.length ≤ 63) (h0 : 0 ≤ spot) (h1 : spot ≤ n)
    (ho : ∀ a, a ≠ t → H' a = H a) (ht : H' t = some (.lst [.ref s, .int spot, .int rest])) : TapeEx t F H F H' n where
  sub := fun _ z => z
  new := fun _ z => .inl z
  keep := fun a o e ne => by rw [ho a ne]; exact e
  live := fun a f => by rw [ho a fun z => nt (by rw [← z]; exact f)]; exact lv a f
  tape := ⟨s, ns, spot, rest, ht, fs, by rw [ho s fun z => nt (by rw [← z]; exact fs)]; exact hs, hl, h0, h1⟩
  nt := nt
theorem draw_vc {C : Cfg} {c1 c2 c3 : Int} (hc1 : -(2 ^ 64) < c1 ∧ c1 < 2 ^ 64) (hc3 : -(2 ^ 64) < c3 ∧ c3 < 2 ^ 64) {N : List Str} (hN : N.length = 6) {vs : List V} {H : Hp} {Q : VK} {E : XK} (h : SpT C spDraw vs H Q E) : tDraw C.K c1 c2 c3 { nx := fun _ H' => Q .non H', rt := Q } (L2.start N vs) H := by
  obtain ⟨t, F, ds, us, n, Qd, rfl, hd, lv, ⟨s, ns, spot, rest, ht, fs, hs, hl, h0, h1⟩, nt, ⟨many, rfl, m0, m1, hn, hq⟩, k⟩ := h
  simp only [Dats, Dat] at hd
  obtain ⟨_, _, rfl, rfl, rfl⟩ := hd
  have hst : s ≠ t := fun z => nt (by rw [← z]; exact fs)
  have e0 : L2.start N [V.ref t, V.int many] = [some (.ref t), some (.int many), none, none, none, none] := by
    unfold L2.start
    rw [hN]
    rfl
  rw [e0]
  have fin : ∀ (r : Int) (H' : Hp) (spot' rest' : Int), 0 ≤ r → r < many → 0 ≤ spot' → spot' ≤ ((n + 1 : Nat) : Int) → (∀ a, a ≠ t → H' a = H a) → H' t = some (.lst [.ref s, .int spot', .int rest']) → Q (.int r) H' := fun r H' spot' rest' a1 a2 a3 a4 a5 a6 =>
    k _ _ (hq r a1 a2) _ H' F (.of nt lv fs hs hl a3 a4 a5 a6) (by simp only [Dat])
  have md0 : ∀ x : Int, 0 ≤ x % many := fun x => Int.emod_nonneg _ (by omega)
  have md1 : ∀ x : Int, x % many < many := fun x => Int.emod_lt_of_pos _ m0
  have one : ∀ {H' : Hp} {j : Nat} {v : V} {x : V}, H' t = some (.lst [.ref s, .int spot, .int rest]) → True := fun _ => trivial
  -- reading a cell of the tape
  have rd : ∀ {H' : Hp} {a b c : V} {σ : L2.St} {Q' : VK}, H' t = some (.lst [a, b, c]) → σ[0]? = some (some (.ref t)) → (Q' a H' → tTp C.K 0 σ H' Q') ∧ (Q' b H' → tTp C.K 1 σ H' Q') ∧ (Q' c H' → tTp C.K 2 σ H' Q') := fun {H' a b c σ Q'} e hσ =>
    ⟨fun q => ⟨_, hσ, .inl ⟨t, _, 0, a, rfl, rfl, SqL.of e, rfl, q⟩⟩, fun q => ⟨_, hσ, .inl ⟨t, _, 1, b, rfl, rfl, SqL.of e, rfl, q⟩⟩, fun q => ⟨_, hσ, .inl ⟨t, _, 2, c, rfl, rfl, SqL.of e, rfl, q⟩⟩⟩
  have ln : ∀ {H' : Hp} {b c : V} {σ : L2.St} {Q' : VK}, H' t = some (.lst [.ref s, b, c]) → H' s = some (.lst (ns.map V.int)) → σ[0]? = some (some (.ref t)) → Q' (.int ns.length) H' → tLenTp C.K σ H' Q' := fun {H' b c σ Q'} e e2 hσ q =>
    (rd e hσ).1 (.inl ⟨s, _, rfl, .inl (SqL.of e2), by rw [List.length_map]; exact q⟩)
  refine (rd ht rfl).2.2 ⟨rest, 0, rfl, rfl, _, rfl, ?_⟩
  refine iteD (fun hr => ?_) fun hr => ?_
  · refine (rd ht rfl).2.2 ⟨_, rfl, rest, many, rfl, rfl, m0, ?_⟩
    refine (rd ht rfl).2.2 ⟨_, rfl, rest, many, rfl, rfl, ⟨m0, m1⟩, ?_⟩
    refine ⟨_, rfl, t, _, 2, 2, rfl, rfl, ht, rfl, ?_⟩
    exact ⟨_, rfl, fin _ _ spot (rest / many) (md0 _) (md1 _) h0 (by omega) (fun a ne => upd_ne ne) upd_same⟩
  refine (rd ht rfl).2.1 ?_
  refine ⟨_, rfl, spot, 1, rfl, rfl, ?_⟩
  refine ⟨_, rfl, t, _, 1, 1, rfl, rfl, ht, rfl, ?_⟩
  -- the tape behind the step
  have ht1 : (upd H t (.lst [.ref s, .int (spot + 1), .int rest])) t = some (.lst [.ref s, .int (spot + 1), .int rest]) := upd_same
  have hs1 : (upd H t (.lst [.ref s, .int (spot + 1), .int rest])) s = some (.lst (ns.map V.int)) := by rw [upd_ne hst]; exact hs
  have rest1 : ∀ cell : Int, (tSeq (tIfS (tAnd (tTest (tOp (rI0 fun i j => .bl (decide (j ≤ i))) (tVar 4) (tOp (rI CPow fun i j => .int (i ^ j.toNat)) (tI 10) (tI 18)))) (tTest (tOp (rI0 fun i j => .bl (decide (i < j))) (tVar 3) (tLenTp C.K))))
    (tSeq (tSetTp 2 (tDv (tVar 4) (tVar 1))) (tRet (tMd (tVar 4) (tVar 1)))) tNext)
  (tSeq (tAsg (tMd (tMl (tAd (tAd (tMd (tVar 4) (tI 999331)) (tMl (tMl (tI c1) (tVar 3)) (tVar 3))) (tI c2)) (tI 40692)) (tI 999961)) (gName 5))
  (tRet (tMd (tMd (tMl (tMd (tAd (tMl (tVar 5) (tI 48271)) (tMl (tVar 3) (tI c3))) (tI 999953)) (tI 16807)) (tI 524287)) (tVar 1))))) { nx := fun _ H' => Q .non H', rt := Q } [some (.ref t), some (.int many), none, some (.int spot), some (.int cell), none] (upd H t (.lst [.ref s, .int (spot + 1), .int rest])) := by
    intro cell
    have tail : (tSeq (tAsg (tMd (tMl (tAd (tAd (tMd (tVar 4) (tI 999331)) (tMl (tMl (tI c1) (tVar 3)) (tVar 3))) (tI c2)) (tI 40692)) (tI 999961)) (gName 5))
      (tRet (tMd (tMd (tMl (tMd (tAd (tMl (tVar 5) (tI 48271)) (tMl (tVar 3) (tI c3))) (tI 999953)) (tI 16807)) (tI 524287)) (tVar 1)))) { nx := fun _ H' => Q .non H', rt := Q } [some (.ref t), some (.int many), none, some (.int spot), some (.int cell), none] (upd H t (.lst [.ref s, .int (spot + 1), .int rest])) := by
      have hsp : -(2 ^ 64 : Int) < spot ∧ spot < 2 ^ 64 := by
        have : (2 : Nat) ^ 40 = 1099511627776 := by decide
        have : (2 : Int) ^ 64 = 18446744073709551616 := by decide
        omega
      refine ⟨_, rfl, cell, 999331, rfl, rfl, (by decide : (0:Int) < 999331), ?_⟩
      refine ⟨_, rfl, c1, spot, rfl, rfl, .inl hc1, ?_⟩
      refine ⟨_, rfl, _, spot, rfl, rfl, .inr hsp, ?_⟩
      refine ⟨_, _, rfl, rfl, ?_⟩
      refine ⟨_, c2, rfl, rfl, ?_⟩
      refine ⟨_, 40692, rfl, rfl, .inr (by decide), ?_⟩
      refine ⟨_, 999961, rfl, rfl, (by decide : (0:Int) < 999961), ?_⟩
      refine ⟨_, rfl, _, 48271, rfl, rfl, .inr (by decide), ?_⟩
      refine ⟨_, rfl, spot, c3, rfl, rfl, .inr hc3, ?_⟩
      refine ⟨_, _, rfl, rfl, ?_⟩
      refine ⟨_, 999953, rfl, rfl, (by decide : (0:Int) < 999953), ?_⟩
      refine ⟨_, 16807, rfl, rfl, .inr (by decide), ?_⟩
      refine ⟨_, 524287, rfl, rfl, (by decide : (0:Int) < 524287), ?_⟩
      refine ⟨_, rfl, _, many, rfl, rfl, m0, ?_⟩
      exact fin _ _ (spot + 1) rest (md0 _) (md1 _) (by omega) (by omega) (fun a ne => upd_ne ne) upd_same
    refine ⟨_, rfl, 10, 18, rfl, rfl, ⟨by decide, by decide, by decide⟩, cell, _, rfl, rfl, _, rfl, ?_⟩
    refine iteD (fun hc => ?_) fun hc => ?_
    · refine ⟨_, rfl, ln ht1 hs1 rfl ⟨spot, _, rfl, rfl, _, rfl, ?_⟩⟩
      refine iteD (fun hlt => ?_) fun hlt => ?_
      · refine ⟨_, rfl, _, rfl, cell, many, rfl, rfl, ⟨m0, m1⟩, ?_⟩
        refine ⟨_, rfl, t, _, 2, 2, rfl, rfl, ht1, rfl, ?_⟩
        refine ⟨_, rfl, _, rfl, cell, many, rfl, rfl, m0, ?_⟩
        exact fin _ _ (spot + 1) (cell / many) (md0 _) (md1 _) (by omega) (by omega) (fun a ne => by rw [upd_ne ne, upd_ne ne]) upd_same
      · exact tail
    · exact iteF tail
  refine ln ht1 hs1 rfl ⟨_, 0, rfl, rfl, _, rfl, ?_⟩
  refine iteD (fun hz => ?_) fun hz => ?_
  · refine (rd ht1 rfl).1 ⟨_, rfl, ln ht1 hs1 rfl ⟨spot, _, rfl, rfl, hz, ?_⟩⟩
    have hj0 : 0 ≤ spot % (ns.length : Int) := Int.emod_nonneg _ (by omega)
    have hj1 : spot % (ns.length : Int) < ns.length := Int.emod_lt_of_pos _ hz
    obtain ⟨j, hj⟩ := Int.eq_ofNat_of_zero_le hj0
    have hjl : j < ns.length := by omega
    refine .inl ⟨s, _, _, .int (ns[j]), rfl, rfl, SqL.of hs1, ?_, ?_⟩
    · rw [hj]
      exact atI_nat (by rw [List.getElem?_map, List.getElem?_eq_getElem hjl]; rfl)
    · exact rest1 _
  · exact rest1 0
end DL

namespace DL
open PySem PySem.W PyProof.Rows L2
section
variable {P : Program} {w : World} {K : PySem.W.Frag} {mg : Str → Option Value} {base : Heap}
theorem fn_PG {x qual : Str} {st : Stmt} {f : Addr} {fd : FuncData} {N ps : List Str} {k : Nat} {sp : PSp} {t : DS} (Fn : Fun K x qual st f fd) (S : FnScope N ps (defScope st)) (hlen : ∀ ds Q, sp ds Q → ds.length = ps.length)
    (hbody : ∀ (cdv : Value) (A : Around) (outer : List Env) (s : Shared) (H : Hp) (E : XK), (A.deeper (envOfC qual (defScope st) s.heap.objs.size f cdv)).guards = some [] → Room k (A.deeper (envOfC qual (defScope st) s.heap.objs.size f cdv)) → RSs (cxOf CX0 P w K mg base N qual (defScope st) f cdv A outer s H E).nox (defBody st) t)
    (hvc : ∀ ds Qd, sp ds Qd → t { nx := fun _ _ => Qd .none, rt := fun d _ => Qd d } (start0 N.length (ds.map .val)) 0) : FnG P w K mg base (k + 1) f fd ps (SpP ⟨P, w, K⟩ sp) :=
  fn_G Fn S (fun vs H Q E ⟨F, ds, Qd, hd, _, hs, _⟩ => by rw [hd.len]; exact hlen _ _ hs) fun cdv A outer s H vs Q E hg hr h => ⟨_, hbody cdv A outer s H E hg hr, vc_P h hvc⟩
theorem fn_TG {x qual : Str} {st : Stmt} {f : Addr} {fd : FuncData} {N ps : List Str} {k : Nat} {sp : TSp} {t : DS} (Fn : Fun K x qual st f fd) (S : FnScope N ps (defScope st)) (hlen : ∀ ds n Q, sp ds n Q → ds.length + 1 = ps.length)
    (hbody : ∀ (cdv : Value) (A : Around) (outer : List Env) (s : Shared) (H : Hp) (E : XK), (A.deeper (envOfC qual (defScope st) s.heap.objs.size f cdv)).guards = some [] → Room k (A.deeper (envOfC qual (defScope st) s.heap.objs.size f cdv)) → RSs (cxOf CX0 P w K mg base N qual (defScope st) f cdv A outer s H E).nox (defBody st) t)
    (hvc : ∀ ds n Qd, sp ds n Qd → t { nx := fun _ m => Qd .none m, rt := fun d m => Qd d m } (start0 N.length (.tape :: ds.map .val)) n) : FnG P w K mg base (k + 1) f fd ps (SpT ⟨P, w, K⟩ sp) :=
  fn_G Fn S (fun vs H Q E ⟨t0, F, ds, us, n, Qd, e, hd, _, _, _, hs, _⟩ => by rw [e, List.length_cons, hd.len]; exact hlen _ _ _ hs) fun cdv A outer s H vs Q E hg hr h => ⟨_, hbody cdv A outer s H E hg hr, vc_T h hvc⟩

/-- _law_draw -/
theorem fn_draw {x qual : Str} {st : Stmt} {f : Addr} {fd : FuncData} {N ps : List Str} {k : Nat} {c1 c2 c3 : Int} (Fn : Fun K x qual st f fd) (S : FnScope N ps (defScope st)) (hps : ps.length = 2) (hN : N.length = 6) (hc1 : -(2 ^ 64) < c1 ∧ c1 < 2 ^ 64) (hc3 : -(2 ^ 64) < c3 ∧ c3 < 2 ^ 64)
    (hbody : ∀ (cdv : Value) (A : Around) (outer : List Env) (s : Shared) (H : Hp) (E : XK), Room k (A.deeper (envOfC qual (defScope st) s.heap.objs.size f cdv)) → PSs (cxOf CX0 P w K mg base N qual (defScope st) f cdv A outer s H E).nox (defBody st) (tDraw K c1 c2 c3)) :
    FnOk P w K mg base CX0 (k + 1) f fd ps (SpT ⟨P, w, K⟩ spDraw) :=
  Fn.ok S (fun vs H Q E ⟨t0, F, ds, us, n, Qd, e, hd, _, _, _, ⟨m, ed, _⟩, _⟩ => by rw [e, List.length_cons, hd.len, ed, hps]; rfl) fun cdv A outer s H vs Q E hr h => ⟨_, hbody cdv A outer s H E hr, draw_vc hc1 hc3 hN h⟩

/-- _law_tape -/
def SpTape (C : Cfg) : Sp := fun us H Q _ => ∃ (a : Addr) (ns : List Int), us = [.ref a] ∧ SqL C.K H a (ns.map .int) ∧ ns.length ≤ 63 ∧
  ∀ t s H', H t = none → H s = none → s ≠ t → (∀ b o, H b = some o → H' b = some o) → H' t = some (.lst [.ref s, .int 0, .int 0]) → H' s = some (.lst (ns.map .int)) → Q (.ref t) H'
def tTape (K : PySem.W.Frag) : TS := tRet (tLst (tCons (tSl (rSlL K) (tVar 0) tNoPart (tPart (tI 63))) (tCons (tI 0) (tCons (tI 0) tNil))))
theorem tape_vc {C : Cfg} {N : List Str} (hN : N.length = 1) {vs : List V} {H : Hp} {Q : VK} {E : XK} (h : SpTape C vs H Q E) : tTape C.K { nx := fun _ H' => Q .non H', rt := Q } (L2.start N vs) H := by
  obtain ⟨a, ns, rfl, hs, hl, k⟩ := h
  have e0 : L2.start N [V.ref a] = [some (.ref a)] := by
    unfold L2.start
    rw [hN]
    rfl
  rw [e0]
  refine ⟨_, rfl, 63, rfl, a, _, rfl, hs, fun s hp => ?_⟩
  have ec : cutV (ns.map V.int) none (some 63) = ns.map V.int := by
    have e1 : HT.sIx (ns.map V.int).length 0 none = 0 := rfl
    have e2 : HT.sIx (ns.map V.int).length (ns.map V.int).length (some 63) = ns.length := by
      rw [List.length_map]
      simp [HT.sIx]
      omega
    unfold cutV
    rw [e1, e2]
    simp
    exact List.take_of_length_le (by rw [List.length_map]; exact Nat.le_refl _)
  rw [ec]
  refine ⟨by show 3 ≤ sizeLine; decide, fun t ht => ?_⟩
  have hst : s ≠ t := fun z => by
    rw [z, upd_same] at ht; cases ht
  have ht0 : H t = none := by rw [upd_ne (Ne.symm hst)] at ht; exact ht
  refine k t s _ ht0 hp hst (fun b o e => ?_) upd_same (by rw [upd_ne hst]; exact upd_same)
  rw [upd_ne (ne_of_none e ht0), upd_ne (ne_of_none e hp)]
  exact e
theorem fn_tape {x qual : Str} {st : Stmt} {f : Addr} {fd : FuncData} {N ps : List Str} {k : Nat} (Fn : Fun K x qual st f fd) (S : FnScope N ps (defScope st)) (hps : ps.length = 1) (hN : N.length = 1)
    (hbody : ∀ (cdv : Value) (A : Around) (outer : List Env) (s : Shared) (H : Hp) (E : XK), Room k (A.deeper (envOfC qual (defScope st) s.heap.objs.size f cdv)) → PSs (cxOf CX0 P w K mg base N qual (defScope st) f cdv A outer s H E).nox (defBody st) (tTape K)) :
    FnOk P w K mg base CX0 (k + 1) f fd ps (SpTape ⟨P, w, K⟩) :=
  Fn.ok S (fun vs H Q E ⟨a, ns, e, _⟩ => by rw [e, hps]; rfl) fun cdv A outer s H vs Q E hr h => ⟨_, hbody cdv A outer s H E hr, tape_vc hN h⟩

/-- the law's own body: the tape is made, then what is over data -/
def SpLaw (C : Cfg) : Sp := fun vs H Q _ => ∃ (a : Addr) (ns : List Int), vs = [.ref a] ∧ SqL C.K H a (ns.map .int) ∧ ns.length ≤ 63 ∧ ∀ H', Q (.bl true) H'
def tLaw (C : Cfg) (t : DS) : TS := tSeq (tAsg (tCall (SpTape C) [] E0 (tCons (tVar 0) tNil)) (gName 1)) (liftS C t)
theorem law_vc {C : Cfg} {N : List Str} {t : DS} {vs : List V} {H : Hp} {Q : VK} {E : XK} (hN : 2 ≤ N.length) (h : SpLaw C vs H Q E)
    (hvc : t { nx := fun _ _ => False, rt := fun d _ => d = .bool true } ((List.replicate N.length none).set 1 (some .tape)) 0) : tLaw C t { nx := fun _ H' => Q .non H', rt := Q } (L2.start N vs) H := by
  obtain ⟨a, ns, rfl, hs, hl, k⟩ := h
  have hg : (L2.start N [V.ref a])[0]? = some (some (.ref a)) := start_slot rfl
  refine ⟨_, hg, ?_⟩
  refine ⟨a, ns, rfl, hs, hl, fun t0 s H' ht hs0 hst kp e1 e2 => ?_⟩
  have hlen : (L2.start N [V.ref a]).length = N.length := by
    unfold L2.start
    rw [List.length_append, List.length_map, List.length_replicate]
    show 1 + (N.length - 1) = N.length
    omega
  refine ⟨⟨some t0, fun x => x = s, H'⟩, fun x => x = s, _, 0, _, ⟨?_, ?_, ?_, fun a o e _ => e, fun a f => .inl f, fun a f => ⟨.lst (ns.map .int), by rw [f]; exact e2⟩, fun t hT => ?_⟩, hvc, fun _ _ z => z.elim, fun d m z v H2 F2 R x2 => ?_, fun _ _ z => z.elim, fun _ _ z => z.elim⟩
  · rw [List.length_set, List.length_set, List.length_replicate, hlen]
  · intro i e q
    rcases set_some q with ⟨rfl, rfl, hl⟩ | ⟨ne, q⟩
    · exact ⟨_, List.getElem?_set_self (by rw [hlen]; omega), t0, rfl, rfl⟩
    · rw [List.getElem?_replicate] at q
      split at q <;> cases q
  · intro i j e e' b ne q1 q2 m1
    rcases set_some q1 with ⟨rfl, rfl, hl⟩ | ⟨ne, q1⟩
    · exact m1.elim
    · rw [List.getElem?_replicate] at q1
      split at q1 <;> cases q1
  · cases hT
    exact ⟨⟨s, ns, 0, 0, e1, rfl, e2, hl, Int.le_refl _, Int.le_refl _⟩, fun z => hst z.symm, ⟨_, e1⟩⟩
  · have e : d = .bool true := z
    subst e
    have ev : v = .bl true := by simpa only [Dat] using R.dat
    subst ev
    exact k H2
theorem fn_law {x qual : Str} {st : Stmt} {f : Addr} {fd : FuncData} {N ps : List Str} {k : Nat} {t : DS} (Fn : Fun K x qual st f fd) (S : FnScope N ps (defScope st)) (hps : ps.length = 1) (hN : 2 ≤ N.length)
    (hbody : ∀ (cdv : Value) (A : Around) (outer : List Env) (s : Shared) (H : Hp) (E : XK), (A.deeper (envOfC qual (defScope st) s.heap.objs.size f cdv)).guards = some [] → Room k (A.deeper (envOfC qual (defScope st) s.heap.objs.size f cdv)) → PSs (cxOf CX0 P w K mg base N qual (defScope st) f cdv A outer s H E).nox (defBody st) (tLaw ⟨P, w, K⟩ t))
    (hvc : t { nx := fun _ _ => False, rt := fun d _ => d = .bool true } ((List.replicate N.length none).set 1 (some .tape)) 0) : FnG P w K mg base (k + 1) f fd ps (SpLaw ⟨P, w, K⟩) :=
  fn_G Fn S (fun vs H Q E ⟨a, ns, e, _⟩ => by rw [e, hps]; rfl) fun cdv A outer s H vs Q E hg hr h => ⟨_, hbody cdv A outer s H E hg hr, law_vc hN h hvc⟩
end
end DL

/-! list(reversed(tuple)) -/
namespace DL
open PySem PySem.W PyProof.Rows L2 RT

theorem nolen_rt : typeLookup (.type "reversed") "__len__" = pure none := by rw [typeLookup_type, builtinLookup_eq_fast]; kernel_rfl
theorem slot_rt_hint : Slot "reversed" "__length_hint__" "reversed.__length_hint__" :=
  .of (owner := "reversed") (n := "__length_hint__") (by rw [typeLookup_type, builtinLookup_eq_fast]; kernel_rfl) (by decide +kernel) (by decide +kernel) (by decide +kernel)
    (by first | exact .inl (by decide +kernel) | exact .inr (by decide +kernel)) (by rw [isSubtype_type]; kernel_rfl)
theorem entry_rt_hint : entryFor table "reversed.__length_hint__" = some Builtin.«reversed.__length_hint__» := entryFor_of_tree (by kernel_rfl)
theorem args_rt_hint (a : Value) : argsOk "reversed.__length_hint__" ⟨[a], []⟩ := by
  unfold argsOk; rw [signature?_of (id := "reversed.__length_hint__") (n := ("__length_hint__").toList.reverse) (o := ['d', 'e', 's', 'r', 'e', 'v', 'e', 'r']) (by kernel_rfl) owner_rt]; kernel_rfl
theorem isTup_at {h h' : Heap} {a : Addr} {items : Array Value} (x : IsTup h a items) (k : ∀ o, h.get? a = some o → h'.get? a = some o) : IsTup h' a items := let ⟨o, ho, r⟩ := x; ⟨o, k o ho, r⟩
section
variable {prog : Program} {w : World} {A : Around} {E : Value → Shared → Prop} {s : Shared}
theorem Walks.rt (hh : A.handled = none) (I t : Addr) (hne : t ≠ I) (items : Array Value) (hn : items.size ≤ sizeLine) :
    Walks prog w A I [I, t] [I] items.size (fun i v => items[items.size - 1 - i]? = some v) (fun i h => i ≤ items.size ∧ IsRt h I t ((items.size : Int) - 1 - (i : Int)) ∧ IsTup h t items) where
  sub := fun b hb => by simp at hb; simp [hb]
  frame := fun _ h h' x hk => ⟨x.1, x.2.1.at fun o e => hk I (by simp) o e, isTup_at x.2.2 fun o e => hk t (by simp) o e⟩
  item := fun i s Q E hi x hQ => by
    have e : (items.size : Int) - 1 - (i : Int) = ((items.size - 1 - i : Nat) : Int) := by omega
    have hit := x.2.1
    rw [e] at hit
    have hx : items[items.size - 1 - i]? = some (items[items.size - 1 - i]'(by omega)) := Array.getElem?_eq_getElem (by omega)
    refine next_rt_item hit x.2.2 hx hn fun h' hit' hs' => ?_
    have e2 : ((items.size - 1 - i : Nat) : Int) - 1 = (items.size : Int) - 1 - ((i + 1 : Nat) : Int) := by omega
    rw [e2] at hit'
    exact hQ _ h' _ hx ⟨hi, hit', isTup_at x.2.2 fun o eo => (hs'.2 t hne).trans eo⟩ fun b o hb eo => hs'.extBut b o (fun h => hb (by simp [h])) eo
  done := fun s Q E x hQ => by
    have e : (items.size : Int) - 1 - (items.size : Int) = -1 := by omega
    have hit := x.2.1
    rw [e] at hit
    exact next_rt_end hh hit fun h' he' => hQ h' s.toks fun b o hb eo => he' b o (fun h => hb (by simp [h])) eo
  self := fun _ _ _ _ x hQ => iter_rt x.2.1 hQ
theorem call_rt_hint {I t : Addr} {items : Array Value} {Q : Value → Shared → Prop} (hit : IsRt s.heap I t ((items.size : Int) - 1)) (ht : IsTup s.heap t items) (hn : items.size ≤ sizeLine) (h : ∀ u tk, Q (.int (items.size : Int) u) { s with toks := tk }) :
    wpAny (model prog w) A (call (.builtin "reversed.__length_hint__") [.ref I]) Q E s := by
  obtain ⟨o, ho, hc, hd⟩ := id hit
  refine wpAny_call_entry slot_rt_hint hit.typeIs entry_rt_hint ?_ (args_rt_hint _)
  unfold Builtin.«reversed.__length_hint__»
  refine wpAny_bind (wpAny_of_eq (a := Value.ref I) rfl ?_)
  refine wpAny_bind (wpAny_field ho hd (x := .ref t) rfl ?_)
  refine wpAny_ite_split (fun hab => Bool.noConfusion hab) (fun _ => ?_)
  refine wpAny_bind (len_tuple ht (by rw [sizeLine_eq] at hn; omega) ?_)
  refine wpAny_bind (wpAny_of_eq (a := some ((items.size : Nat) : Int)) rfl ?_)
  show wpAny _ _ (field (Value.ref I) 1 >>= _) _ _ _
  refine wpAny_bind (wpAny_field (s := { s with toks := s.toks + 1 + 1 }) ho hd (x := rawInt ((items.size : Int) - 1)) rfl ?_)
  show wpAny _ _ (if (items.size : Int) < (items.size : Int) - 1 + 1 then _ else _) _ _ _
  rw [if_neg (by omega)]
  refine wpAny_bind (wpAny_mkInt ?_)
  have e : (items.size : Int) - 1 + 1 = items.size := by omega
  rw [e]
  exact wpAny_pure ⟨_, rfl, h _ _⟩
theorem hint_rt {I t : Addr} {items : Array Value} {Q : Bool → Shared → Prop} (hit : IsRt s.heap I t ((items.size : Int) - 1)) (ht : IsTup s.heap t items) (hn : items.size ≤ sizeLine) (h : ∀ tk, Q ((items.size : Int) != 0) { s with toks := tk }) :
    wpAny (model prog w) A (Builtin.List.listLengthHint (.ref I)) Q E s := by
  unfold Builtin.List.listLengthHint
  refine wpAny_bind (wpAny_specialOf hit.typeIs nolen_rt ?_)
  show wpAny _ _ (specialOf (Value.ref I) (Str.ofString "__length_hint__") >>= _) _ _ _
  refine wpAny_bind (wpAny_specialOf hit.typeIs slot_rt_hint.lookup ?_)
  generalize hid : ("reversed.__length_hint__" : String) = id0
  wp_delta
  rw [show splitId id0 = some ("reversed", "__length_hint__") from by subst hid; decide +kernel]
  subst hid
  refine wpAny_bind (wpAny_isInstance (b := true) hit.typeIs (by rw [isSubtype_type]; kernel_rfl) ?_)
  refine wpAny_ite_split (fun hab => absurd hab (by decide)) (fun _ => ?_)
  refine wpAny_ite_split (fun hab => absurd hab (by decide +kernel)) (fun _ => ?_)
  refine wpAny_bind (wpAny_rule ?_)
  refine wpAny_bind (wpAny_of_eq (slot_rt_hint.bind _) ?_)
  refine wpAny_bind (wpAny_attempt (call_rt_hint hit ht hn fun u tk => ?_))
  have gen : ∀ (n : Int) (f : Option Int → Sem Bool) (s1 : Shared), wpAny (model prog w) A (f (some n)) Q E s1 → wpAny (model prog w) A (asInt? (.int n u) >>= f) Q E s1 := fun n f s1 hf => wpAny_bind (wpAny_of_eq (a := some n) rfl hf)
  dsimp only
  refine gen _ _ _ ?_
  dsimp only
  rw [sizeLine_eq] at hn
  have htl : Builtin.List.listTooLong ((items.size : Int).toNat) = false := by simp [Builtin.List.listTooLong, sizeLine]; omega
  have hfi : Builtin.List.listFitsIndex (items.size : Int) = true := by simp [Builtin.List.listFitsIndex]; omega
  have hlt : ¬ ((items.size : Int) < 0) := by omega
  simp only [hfi, htl, hlt, Bool.not_true, Bool.false_eq_true, if_false]
  exact wpAny_pure (h _)
/-- list(it), it a reversed tuple -/
theorem extend_rt {R : Result → Shared → Prop} (hh : A.handled = none) {I t : Addr} {items : Array Value} (hit : IsRt s.heap I t ((items.size : Int) - 1)) (ht : IsTup s.heap t items) (hti : t ≠ I) (hn : items.size ≤ sizeLine) (S : Addr) (hSi : S ≠ I) (hSt : S ≠ t) (res : Value) (c0 : Nat) (hS : s.heap.get? S = some { cls := .type "list", data := .seq #[] c0 })
    (hR : ∀ h' tk acc' c', (∀ b o, b ≠ S → b ≠ I → s.heap.get? b = some o → h'.get? b = some o) → h'.get? S = some { cls := .type "list", dict := none, data := .seq acc' c', slots := #[] } →
      ItemsOf (fun i v => items[items.size - 1 - i]? = some v) acc' items.size → R (.ok (.ret res)) { s with heap := h', toks := tk }) :
    wpAny (model prog w) A.in1 (Builtin.List.listExtendWith (.ref S) (.ref I) res)
      (fun fin s' => match fin with | .done f => R (.ok f) s' | .again c' => c'.quiet = true ∧ codeAny (model prog w) A c' R s') (fun e s' => R (.error e) s') s := by
  have W := (Walks.rt (prog := prog) (w := w) (A := A.in1) hh I t hti items hn).toS
  have hSf : S ∉ [I, t] := by simp only [List.mem_cons, List.not_mem_nil, or_false, not_or]; exact ⟨hSi, hSt⟩
  have e0 : ((items.size : Nat) : Int) - 1 - ((0 : Nat) : Int) = (items.size : Int) - 1 := by omega
  have key : ∀ (h : Heap) (c1 tk : Nat), IsRt h I t ((items.size : Int) - 1) → IsTup h t items → (∀ b o, b ≠ S → s.heap.get? b = some o → h.get? b = some o) →
      h.get? S = some { cls := .type "list", data := .seq #[] c1 } → codeAny (model prog w) A (.builtin "list.extend.loop" ⟨[.ref S, .ref I, res], []⟩) R { s with heap := h, toks := tk } := by
    intro h c1 tk hit1 ht1 hk hS1
    refine codeAny_extend_loopS W hn S hSf res items.size 0 _ #[] c1 rfl (Nat.zero_le _) ⟨Nat.zero_le _, by rw [e0]; exact hit1, ht1⟩ hS1 (ItemsOf.nil _) fun s' acc' c' hm hS' hacc => ?_
    rw [Moved.eq_with hm]
    refine hR s'.heap s'.toks acc' c' (fun b o hb hbi e => hm.heap b o (fun hmem => ?_) (hk b o hb e)) hS' hacc
    rcases List.mem_cons.mp hmem with e' | hmem
    · exact hb e'
    · exact hbi (List.mem_singleton.mp hmem)
  unfold Builtin.List.listExtendWith
  refine wpAny_bind (wpAny_typeOf hit.typeIs ?_)
  have h1 : Builtin.List.listSameRef (.ref S) (.ref I) = false := by simp [Builtin.List.listSameRef, hSi]
  have h2 : (Value.type "reversed" == Value.type "list") = false := by decide
  have h3 : (Value.type "reversed" == Value.type "tuple") = false := by decide
  simp only [h1, h2, h3, Bool.or_false, Bool.false_eq_true, if_false]
  refine wpAny_bind (iter_rt hit ?_)
  refine wpAny_bind (wpAny_holding (hint_rt hit ht hn fun tk => ?_))
  refine wpAny_ite_split (fun _ => ?_) (fun _ => wpAny_pure ⟨plainId_quiet F.plain_extend_loop _, key _ c0 _ hit ht (fun b o _ e => e) hS⟩)
  refine wpAny_bind (wpAny_rule ?_)
  refine wpAny_bind ?_
  show wpAny _ _ (updateSeq S (·.push .none) >>= fun _ => updateSeq S (·.pop)) _ _ _
  refine wpAny_bind (wpAny_updateSeq (s := { s with toks := tk }) hS rfl ?_)
  have hS2 := Heap.get?_update_self (Obj.mapSeq (·.push Value.none)) hS rfl
  refine wpAny_updateSeq (hz := by seq_fits) hS2 rfl ?_
  have hS3 := Heap.get?_update_self (Obj.mapSeq (·.pop)) hS2 rfl
  have oth : ∀ b o, b ≠ S → s.heap.get? b = some o → ((s.heap.update S (Obj.mapSeq (·.push Value.none))).update S (Obj.mapSeq (·.pop))).get? b = some o :=
    fun b o hb e => (Heap.get?_update_other _ _ (Ne.symm hb)).trans ((Heap.get?_update_other _ _ (Ne.symm hb)).trans e)
  exact wpAny_pure ⟨plainId_quiet F.plain_extend_loop _, key _ _ _ (hit.at fun o e => oth I o (Ne.symm hSi) e) (isTup_at ht fun o e => oth t o (Ne.symm hSt) e) oth hS3⟩
theorem init_rt {R : Result → Shared → Prop} (hh : A.handled = none) {I t : Addr} {items : Array Value} (hit : IsRt s.heap I t ((items.size : Int) - 1)) (ht : IsTup s.heap t items) (hti : t ≠ I) (hn : items.size ≤ sizeLine) (S : Addr) (hSi : S ≠ I) (hSt : S ≠ t) (hS : s.heap.get? S = some { cls := .type "list", data := .seq #[] })
    (hR : ∀ h' tk acc' c', (∀ b o, b ≠ S → b ≠ I → s.heap.get? b = some o → h'.get? b = some o) → h'.get? S = some { cls := .type "list", dict := none, data := .seq acc' c', slots := #[] } →
      ItemsOf (fun i v => items[items.size - 1 - i]? = some v) acc' items.size → R (.ok (.ret .none)) { s with heap := h', toks := tk }) :
    wpAny (model prog w) A.in1 (Builtin.«list.__init__» ⟨[.ref S, .ref I], []⟩)
      (fun fin s' => match fin with | .done f => R (.ok f) s' | .again c' => c'.quiet = true ∧ codeAny (model prog w) A c' R s') (fun e s' => R (.error e) s') s := by
  show wpAny _ _ (do let old ← Builtin.List.listItems (.ref S); Builtin.List.listUpdate (.ref S) (fun _ => #[]); letGo old.toList.reverse; Builtin.List.listExtendWith (.ref S) (.ref I) .none) _ _ s
  refine wpAny_bind ?_
  unfold Builtin.List.listItems
  refine wpAny_bind (wpAny_seqItems hS rfl (wpAny_pure ?_))
  show wpAny _ _ (updateSeq S (fun _ => #[]) >>= fun _ => letGo (#[] : Array Value).toList.reverse >>= fun _ => Builtin.List.listExtendWith (.ref S) (.ref I) .none) _ _ s
  refine wpAny_bind (wpAny_updateSeq hS rfl ?_)
  have hS2 := Heap.get?_update_self (Obj.mapSeq (fun _ => (#[] : Array Value))) hS rfl
  have oth : ∀ b o, b ≠ S → s.heap.get? b = some o → (s.heap.update S (Obj.mapSeq (fun _ => (#[] : Array Value)))).get? b = some o :=
    fun b o hb e => (Heap.get?_update_other _ _ (Ne.symm hb)).trans e
  refine wpAny_bind (wpAny_letGo ?_)
  refine extend_rt (s := { s with heap := s.heap.update S (Obj.mapSeq (fun _ => (#[] : Array Value))) }) hh (hit.at fun o e => oth I o (Ne.symm hSi) e) (isTup_at ht fun o e => oth t o (Ne.symm hSt) e) hti hn S hSi hSt .none _ hS2 fun h' tk acc' c' hk hS' hacc => ?_
  exact hR h' tk acc' c' (fun b o hb hbi e => hk b o hb hbi (oth b o hb e)) hS' hacc
theorem call_list_rt {I t : Addr} {items : Array Value} {Q : Value → Shared → Prop} (hh : A.handled = none) (hit : IsRt s.heap I t ((items.size : Int) - 1)) (ht : IsTup s.heap t items) (hti : t ≠ I) (hn : items.size ≤ sizeLine)
    (hQ : ∀ h' tk acc' c', (∀ b o, b ≠ I → s.heap.get? b = some o → h'.get? b = some o) →
      h'.get? s.heap.objs.size = some { cls := .type "list", dict := none, data := .seq acc' c', slots := #[] } → ItemsOf (fun i v => items[items.size - 1 - i]? = some v) acc' items.size → Q (.ref s.heap.objs.size) { s with heap := h', toks := tk }) :
    wpAny (model prog w) A (call (.type "list") [.ref I]) Q E s := by
  refine callType_codes (Q₁ := fun obj s₁ => obj = .ref s.heap.objs.size ∧ s₁ = { s with heap := s.heap.push { cls := .type "list", data := .seq #[] } }) F.called_list (F.typeCall_list_1 _) F.entry_list_init
    (code_list_new _ ⟨rfl, rfl⟩) fun obj s₁ h₁ => ?_
  obtain ⟨rfl, rfl⟩ := h₁
  have hS : (s.heap.push { cls := .type "list", data := .seq #[] }).get? s.heap.objs.size = some { cls := .type "list", data := .seq #[] } := Heap.get?_push_size _ rfl
  have hI : I < s.heap.objs.size := let ⟨_, e, _⟩ := hit; Heap.lt_size e
  have hT : t < s.heap.objs.size := ht.lt
  refine ⟨⟨_, hS, rfl⟩, F.args_list_init_2 _ _, init_rt (A := A.in1) hh (hit.at fun o e => Heap.get?_push_of_some _ e) (ht.push _) hti hn _ (Nat.ne_of_gt hI) (Nat.ne_of_gt hT) hS fun h' tk acc' c' hk hS' hacc => ?_⟩
  exact ⟨rfl, hQ h' tk acc' c' (fun b o hb e => hk b o (Nat.ne_of_lt (Heap.lt_size e)) hb (Heap.get?_push_of_some _ e)) hS' hacc⟩
end
section
variable {X : Cx} {a : Expr} {p p2 pos pos2 : Pos}
def tListRev (K : PySem.W.Frag) (te : TE) : TE := fun σ H Q => te σ H fun v H1 => ∃ (a : Addr) (xs : List V), v = .ref a ∧ SqT K H1 a xs ∧ ∀ q, H1 q = none → Q (.ref q) (upd H1 q (.lst xs.reverse))
theorem pe_listRev {te : TE} (hc : X.calm = true) (hm : X.mg "list" = none) (hm2 : X.mg "reversed" = none) (he : PE X a te) (hg : Gl X "list" := by rfl) (hg2 : Gl X "reversed" := by rfl)
    (hs : starEach [a] X.env = (false, eval a X.env) :: starEach [] X.env := by rfl)
    (hs2 : starEach [.Call (.Name "reversed" p2) [a] [] pos2] X.env = (false, eval (.Call (.Name "reversed" p2) [a] [] pos2) X.env) :: starEach [] X.env := by rfl) :
    PE X (.Call (.Name "list" p) [.Call (.Name "reversed" p2) [a] [] pos2] [] pos) (tListRev X.K te) := by
  refine ⟨fun pins s σ H Q I h => ?_⟩
  refine Call_ (ld_blt I hg hm boot_list0 (PyProof.Rows.callWith_type1 (args_cons (Call_ (ld_blt I hg2 hm2 PyProof.Rows.boot_reversed (PyProof.Rows.callWith_type1 (args_cons (thn (he.run pins s σ H _ I h) fun u s1 ⟨v, H1, I1, r1, q1⟩ => args_nil ?_) hs) hs rfl))) hs2) hs2 rfl))
  obtain ⟨b, xs, rfl, hq, q⟩ := q1
  obtain rfl : u = Value.ref b := r1
  obtain ⟨its, rv, p', hz⟩ := I1.tuple hq
  have hn := line63
  have hz' : its.toArray.size ≤ sizeLine := by rw [List.size_toArray, ← rv.length]; exact hz
  refine call_reversed_tup p' (fun A E Q k => PyProof.Rows.len_tuple p' (by rw [sizeLine_eq] at hz'; omega) k) (args_nil ?_)
  have k0 : ∀ c o, s1.heap.get? c = some o → (s1.heap.push (rtObj b ((its.toArray.size : Int) - 1))).get? c = some o := fun c o e => Heap.get?_push_of_some _ e
  have I2 : Inv X pins σ H1 { s1 with heap := s1.heap.push (rtObj b ((its.toArray.size : Int) - 1)), toks := s1.toks + 1 + 1 } := I1.kept (t' := s1.toks + 1 + 1) k0
  obtain ⟨f0, f1, f2, f3, f4, f5⟩ := I1.fpOk (H' := H1) (b := s1.heap.objs.size) (Nat.le_refl _) (I1.hok.fresh (Nat.le_refl _))
  have hne : b ≠ s1.heap.objs.size := Nat.ne_of_lt p'.lt
  refine call_list_rt (s := { s1 with heap := s1.heap.push (rtObj b ((its.toArray.size : Int) - 1)), toks := s1.toks + 1 + 1 }) (I1.ok.hd hc) ⟨_, Heap.get?_push_size _ rfl, rfl, rfl⟩ (p'.push _) hne hz' fun h' tk acc c' hk hS hi => ?_
  have hsz : s1.heap.objs.size ≤ (s1.heap.push (rtObj b ((its.toArray.size : Int) - 1))).objs.size := by rw [size_push']; exact Nat.le_succ _
  refine ⟨.ref _, upd H1 (s1.heap.push (rtObj b ((its.toArray.size : Int) - 1))).objs.size (.lst xs.reverse), I1.laid (t' := tk) (fun c u e => hk c u (Nat.ne_of_lt (Heap.lt_size e)) (k0 c u e)) hsz
    (show ObjOk X.prog X.w _ _ _ (.lst xs.reverse) from ⟨by rw [List.length_reverse]; exact hz, acc.toList, c', vals_rev rv hi, ?_⟩), rfl, q _ (I1.hok.fresh hsz)⟩
  rw [Array.toArray_toList]
  exact hS
def gRevT : D → (List D → Prop) → Prop
  | .tuple ds, Q => Q ds.reverse
  | _, _ => False
def dRevT (ta : DE) : DO := fun ρ n Q => ta ρ n fun x n1 => gRevT x fun z => Q z n1
theorem ro_listRev {ta : DE} (hc : X.calm = true) (hm : X.mg "list" = none) (hm2 : X.mg "reversed" = none) (ha : RB X a ta) (hg : Gl X "list" := by rfl) (hg2 : Gl X "reversed" := by rfl)
    (hs : starEach [a] X.env = (false, eval a X.env) :: starEach [] X.env := by rfl)
    (hs2 : starEach [.Call (.Name "reversed" p2) [a] [] pos2] X.env = (false, eval (.Call (.Name "reversed" p2) [a] [] pos2) X.env) :: starEach [] X.env := by rfl) :
    RO X (.Call (.Name "list" p) [.Call (.Name "reversed" p2) [a] [] pos2] [] pos) (dRevT ta) := PE.imp (pe_listRev hc hm hm2 ha hg hg2 hs hs2) fun σ H Q ⟨G, F, ρ, n, Qd, E, q, k⟩ => ⟨G, F, ρ, n, _, E, q, fun x n1 q1 v H1 F1 E1 x1 dv => by
  unfold gRevT at q1
  split at q1
  · obtain ⟨b, vs, rfl, h1, r1⟩ := dv.tuple
    refine ⟨b, vs, rfl, h1, fun p hp => ?_⟩
    obtain ⟨g, nf⟩ := grow_lst (o := .lst vs.reverse) hp E1.live
    exact k _ n1 q1 p _ _ F1 (E1.grow g) (x1.grow g E E1) (x1.none_of E (fun t ht => E1.tp_some ht) hp) nf upd_same (Dats.mono g.kp g.sub _ _ r1.reverse)
  · exact q1.elim⟩
end
end DL

/-! defs under their names -/
namespace DL
open PySem PySem.W PyProof.Rows L2
def dJoin (ta tb : DE) : DE := fun ρ n Q => ta ρ n fun x n1 => (∃ z, x = .str z) ∧ tb ρ n1 fun y n2 => gJoin x y fun z => Q z n2
/-- a def of the module as it stands behind the top -/
structure DefAt (K : PySem.W.Frag) (x : Str) (st : Stmt) (f : Addr) (fd : FuncData) : Prop where
  fn : L2.Fun K x x st f fd
  at_ : PySem.W.nsIn K mainGlobals x = some (some (.ref f))
theorem DefAt.mk' {K : PySem.W.Frag} {x : Str} {st : Stmt} {f : Addr} {oc : Value} {od an : Option Addr} {osl : Array (Option Value)} {kV doc pm cdv ct : Value} (a : PySem.W.nsIn K mainGlobals x = some (some (.ref f)))
    (l : K.lookup f = some ⟨oc, od, .func (PySem.W.fnOf x x (defArgs st) (defBody st) (defScope st) .none kV doc pm an cdv ct), osl⟩)
    (c : PySem.W.codeIn K cdv x = true) (k : PySem.W.keepIn K (.ref f) = true) : DefAt K x st f (PySem.W.fnOf x x (defArgs st) (defBody st) (defScope st) .none kV doc pm an cdv ct) := ⟨fun_mk l c k, a⟩
/-- how its arguments bind -/
def BindsOk (x : Str) (st : Stmt) (ps : List Str) : Prop := ∀ (kV doc pm : Value) (an : Option Addr) (cdv ct : Value) (us : List Value), us.length = ps.length → bindArgs (PySem.W.fnOf x x (defArgs st) (defBody st) (defScope st) .none kV doc pm an cdv ct) ⟨us, []⟩ = pure (ps.zip us)
structure CalS (P : Program) (w : World) (K : PySem.W.Frag) (mg : Str → Option Value) (base : Heap) (k : Nat) (x : Str) (sp : Sp) : Prop where
  ex : ∃ (f : Addr) (fd : FuncData) (ps : List Str), FnOk P w K mg base CX0 k f fd ps sp ∧ mg x = some (.ref f) ∧ PySem.W.keepIn K (.ref f) = true ∧ Binds K fd ps []
structure CalG (P : Program) (w : World) (K : PySem.W.Frag) (mg : Str → Option Value) (base : Heap) (k : Nat) (x : Str) (sp : Sp) : Prop where
  ex : ∃ (f : Addr) (fd : FuncData) (ps : List Str), FnG P w K mg base k f fd ps sp ∧ mg x = some (.ref f) ∧ PySem.W.keepIn K (.ref f) = true ∧ Binds K fd ps []
section
variable {P : Program} {w : World} {K : PySem.W.Frag} {mg : Str → Option Value} {base : Heap} {j k : Nat} {x : Str} {sp sp' : Sp}
theorem CalS.mono (h : CalS P w K mg base j x sp) (hj : j ≤ k) : CalS P w K mg base k x sp := let ⟨f, fd, ps, F, r⟩ := h.ex; ⟨f, fd, ps, F.mono hj, r⟩
theorem CalG.mono (h : CalG P w K mg base j x sp) (hj : j ≤ k) : CalG P w K mg base k x sp := let ⟨f, fd, ps, F, r⟩ := h.ex; ⟨f, fd, ps, ⟨F.len, fun A outer s H args us vs Q E hg hr => F.go A outer s H args us vs Q E hg (hr.mono hj)⟩, r⟩
theorem CalS.imp (h : CalS P w K mg base k x sp) (q : ∀ vs H Q E, sp' vs H Q E → sp vs H Q E) : CalS P w K mg base k x sp' := let ⟨f, fd, ps, F, r⟩ := h.ex; ⟨f, fd, ps, F.imp q, r⟩
theorem CalG.imp (h : CalG P w K mg base k x sp) (q : ∀ vs H Q E, sp' vs H Q E → sp vs H Q E) : CalG P w K mg base k x sp' := let ⟨f, fd, ps, F, r⟩ := h.ex; ⟨f, fd, ps, F.imp q, r⟩
theorem CalG.of (h : CalS P w K mg base k x sp) : CalG P w K mg base k x sp := let ⟨f, fd, ps, F, r⟩ := h.ex; ⟨f, fd, ps, .of F, r⟩
theorem CalS.make {st : Stmt} {f : Addr} {fd : FuncData} {ps : List Str} (D : DefAt K x st f fd) (KX : K.In base) (G : base.Ns mainGlobals mg) (b : BindsOk x st ps) (F : FnOk P w K mg base CX0 k f fd ps sp) : CalS P w K mg base k x sp :=
  ⟨f, fd, ps, F, PySem.W.mg_of KX G D.at_, D.fn.kp, D.fn.binds b⟩
theorem CalG.make {st : Stmt} {f : Addr} {fd : FuncData} {ps : List Str} (D : DefAt K x st f fd) (KX : K.In base) (G : base.Ns mainGlobals mg) (b : BindsOk x st ps) (F : FnG P w K mg base k f fd ps sp) : CalG P w K mg base k x sp :=
  ⟨f, fd, ps, F, PySem.W.mg_of KX G D.at_, D.fn.kp, D.fn.binds b⟩
end
section
variable {X : Cx} {j k : Nat} {x : Str} {e : Expr} {es : List Expr} {t : DO} {p pos : Pos}
theorem re_cP {sp : PSp} (h : CalS X.prog X.w X.K X.mg X.base k x (SpP (cfg X) sp)) (hr : Room k X.A) (ha : RL X (e :: es) t) (hg : Gl X x := by rfl) (hdb : (x == ("__debug__" : Str)) = false := by decide) (he : starEach (e :: es) X.env = (false, eval e X.env) :: starEach es X.env := by rfl) (hpl : (backTo pos (starEach es X.env)).any (·.1) = false := by rfl) :
    RE X (.Call (.Name x p) (e :: es) [] pos) (dCallP sp t) := by
  obtain ⟨f, fd, ps, F, m, kp, b⟩ := h.ex
  exact re_callP (fun hp => pe_call F hr hg m kp b .nil pass0 hp hdb he hpl) ha
theorem re_cPB {sp : PSp} (h : CalS X.prog X.w X.K X.mg X.base k x (SpP (cfg X) sp)) (hr : Room k X.A) (ha : RLB X (e :: es) t) (hg : Gl X x := by rfl) (hdb : (x == ("__debug__" : Str)) = false := by decide) (he : starEach (e :: es) X.env = (false, eval e X.env) :: starEach es X.env := by rfl) (hpl : (backTo pos (starEach es X.env)).any (·.1) = false := by rfl) :
    RE X (.Call (.Name x p) (e :: es) [] pos) (dCallPB sp t) := by
  obtain ⟨f, fd, ps, F, m, kp, b⟩ := h.ex
  exact re_callPB (fun hp => pe_call F hr hg m kp b .nil pass0 hp hdb he hpl) ha
theorem re_cT {sp : TSp} {i : Nat} {y : Str} {py : Pos} (h : CalS X.prog X.w X.K X.mg X.base k x (SpT (cfg X) sp)) (hr : Room k X.A) (hx : PE X (.Name y py) (tVar i)) (ha : RL X es t) (hg : Gl X x := by rfl) (hdb : (x == ("__debug__" : Str)) = false := by decide) (he : starEach (.Name y py :: es) X.env = (false, eval (.Name y py) X.env) :: starEach es X.env := by rfl) (hpl : (backTo pos (starEach es X.env)).any (·.1) = false := by rfl) :
    RE X (.Call (.Name x p) (.Name y py :: es) [] pos) (dCallT i sp t) := by
  obtain ⟨f, fd, ps, F, m, kp, b⟩ := h.ex
  exact re_callT (fun hp => pe_call F hr hg m kp b .nil pass0 hp hdb he hpl) hx ha he
theorem re_gP {sp : PSp} (h : CalG X.prog X.w X.K X.mg X.base k x (SpP (cfg X) sp)) (hG : X.A.guards = some []) (hr : Room k X.A) (ha : RL X (e :: es) t) (hg : Gl X x := by rfl) (hdb : (x == ("__debug__" : Str)) = false := by decide) (he : starEach (e :: es) X.env = (false, eval e X.env) :: starEach es X.env := by rfl) (hpl : (backTo pos (starEach es X.env)).any (·.1) = false := by rfl) :
    RE X (.Call (.Name x p) (e :: es) [] pos) (dCallP sp t) := by
  obtain ⟨f, fd, ps, F, m, kp, b⟩ := h.ex
  exact re_callP (E0 := E0) (fun hp => pe_callG F hG hr hg m kp b .nil hp hdb he hpl) ha
theorem re_gT {sp : TSp} {i : Nat} {y : Str} {py : Pos} (h : CalG X.prog X.w X.K X.mg X.base k x (SpT (cfg X) sp)) (hG : X.A.guards = some []) (hr : Room k X.A) (hx : PE X (.Name y py) (tVar i)) (ha : RL X es t) (hg : Gl X x := by rfl) (hdb : (x == ("__debug__" : Str)) = false := by decide) (he : starEach (.Name y py :: es) X.env = (false, eval (.Name y py) X.env) :: starEach es X.env := by rfl) (hpl : (backTo pos (starEach es X.env)).any (·.1) = false := by rfl) :
    RE X (.Call (.Name x p) (.Name y py :: es) [] pos) (dCallT i sp t) := by
  obtain ⟨f, fd, ps, F, m, kp, b⟩ := h.ex
  exact re_callT (E0 := E0) (fun hp => pe_callG F hG hr hg m kp b .nil hp hdb he hpl) hx ha he
/-- the call that makes the tape, as a statement -/
theorem ps_tape {i : Nat} {y : Str} {py p1 p2 : Pos} {q : Pos} {a : Expr} (h : CalS X.prog X.w X.K X.mg X.base k x (SpTape (cfg X))) (hr : Room k X.A) (ha : PE X a (tVar 0)) (hset : ∀ {te : TE}, PE X (.Call (.Name x p1) [a] [] p2) te → PS X (.Assign [.Name y py] (.Call (.Name x p1) [a] [] p2) q) (tAsg te (gName i))) (hg : Gl X x := by rfl) (hdb : (x == ("__debug__" : Str)) = false := by decide) (he : starEach [a] X.env = (false, eval a X.env) :: starEach [] X.env := by rfl) (hpl : (backTo p2 (starEach [] X.env)).any (·.1) = false := by rfl) :
    PS X (.Assign [.Name y py] (.Call (.Name x p1) [a] [] p2) q) (tAsg (tCall (SpTape (cfg X)) [] E0 (tCons (tVar 0) tNil)) (gName i)) := by
  obtain ⟨f, fd, ps, F, m, kp, b⟩ := h.ex
  exact hset (pe_call F hr hg m kp b .nil pass0 (pa_cons ha pa_nil he) hdb he hpl)
/-- a tuple of texts that the module keeps under a name -/
theorem re_gtup {x : Str} {v : Addr} {oc : Value} {items : Array Value} {n : Nat} {osl : Array (Option Value)} {ds : List D} (hm : X.mg x = some (.ref v)) (hl : X.K.lookup v = some ⟨.type "tuple", none, .seq items n, osl⟩) (hd : ∀ (F : Addr → Prop) (H : Hp), ∃ vs, SqT X.K H v vs ∧ Dats (cfg X) F H ds vs) (hg : Gl X x := by rfl)
    (hdb : (x == ("__debug__" : Str)) = false := by decide) : RE X (.Name x p) (dC (.tuple ds)) :=
  re_glob (v := .ref v) (pe_glob hg hm rfl hdb) fun F H => by
    obtain ⟨vs, h1, h2⟩ := hd F H
    simp only [Dat]
    exact ⟨v, vs, rfl, h1, h2⟩
end
end DL

/-! defs that call themselves; the top -/
namespace DL
open PySem PySem.W PyProof.Rows L2
section
variable {P : Program} {w : World} {K : PySem.W.Frag} {mg : Str → Option Value} {base : Heap}
theorem calP {x : Str} {st : Stmt} {f : Addr} {fd : FuncData} {N ps : List Str} {k : Nat} {sp : PSp} {t : DS} (D : DefAt K x st f fd) (KX : K.In base) (G : base.Ns mainGlobals mg) (b : BindsOk x st ps) (S : FnScope N ps (defScope st)) (hlen : ∀ ds Q, sp ds Q → ds.length = ps.length)
    (hbody : ∀ (f : Addr) (cdv : Value) (A : Around) (outer : List Env) (s : Shared) (H : Hp) (E : XK), Room k (A.deeper (envOfC x (defScope st) s.heap.objs.size f cdv)) → RSs (cxOf CX0 P w K mg base N x (defScope st) f cdv A outer s H E).nox (defBody st) t)
    (hvc : ∀ ds Qd, sp ds Qd → t { nx := fun _ _ => Qd .none, rt := fun d _ => Qd d } (start0 N.length (ds.map .val)) 0) : CalS P w K mg base (k + 1) x (SpP ⟨P, w, K⟩ sp) :=
  .make D KX G b (fn_P D.fn S hlen (hbody f) hvc)
theorem calT {x : Str} {st : Stmt} {f : Addr} {fd : FuncData} {N ps : List Str} {k : Nat} {sp : TSp} {t : DS} (D : DefAt K x st f fd) (KX : K.In base) (G : base.Ns mainGlobals mg) (b : BindsOk x st ps) (S : FnScope N ps (defScope st)) (hlen : ∀ ds n Q, sp ds n Q → ds.length + 1 = ps.length)
    (hbody : ∀ (f : Addr) (cdv : Value) (A : Around) (outer : List Env) (s : Shared) (H : Hp) (E : XK), Room k (A.deeper (envOfC x (defScope st) s.heap.objs.size f cdv)) → RSs (cxOf CX0 P w K mg base N x (defScope st) f cdv A outer s H E).nox (defBody st) t)
    (hvc : ∀ ds n Qd, sp ds n Qd → t { nx := fun _ m => Qd .none m, rt := fun d m => Qd d m } (start0 N.length (.tape :: ds.map .val)) n) : CalS P w K mg base (k + 1) x (SpT ⟨P, w, K⟩ sp) :=
  .make D KX G b (fn_T D.fn S hlen (hbody f) hvc)
theorem recP {x : Str} {st : Stmt} {f : Addr} {fd : FuncData} {N ps : List Str} {sp : Nat → PSp} {t : Nat → DS} (k0 : Nat) (D : DefAt K x st f fd) (KX : K.In base) (G : base.Ns mainGlobals mg) (b : BindsOk x st ps) (S : FnScope N ps (defScope st)) (hlen : ∀ m ds Q, sp m ds Q → ds.length = ps.length)
    (h0 : ∀ ds Q, ¬ sp 0 ds Q)
    (hbody : ∀ m k, k0 ≤ k → CalS P w K mg base k x (SpP ⟨P, w, K⟩ (sp m)) → ∀ (f : Addr) (cdv : Value) (A : Around) (outer : List Env) (s : Shared) (H : Hp) (E : XK), Room k (A.deeper (envOfC x (defScope st) s.heap.objs.size f cdv)) → RSs (cxOf CX0 P w K mg base N x (defScope st) f cdv A outer s H E).nox (defBody st) (t m))
    (hvc : ∀ m ds Qd, sp (m + 1) ds Qd → t m { nx := fun _ _ => Qd .none, rt := fun d _ => Qd d } (start0 N.length (ds.map .val)) 0) : ∀ m, CalS P w K mg base (k0 + m) x (SpP ⟨P, w, K⟩ (sp m))
  | 0 => .make D KX G b ⟨fun vs H Q E ⟨F, ds, Qd, _, _, q, _⟩ => (h0 _ _ q).elim, fun A outer s H args us vs Q E _ _ _ _ ⟨F, ds, Qd, _, _, q, _⟩ => (h0 _ _ q).elim⟩
  | m + 1 => calP D KX G b S (hlen _) (hbody m (k0 + m) (Nat.le_add_right _ _) (recP k0 D KX G b S hlen h0 hbody hvc m)) (hvc m)
theorem recT {x : Str} {st : Stmt} {f : Addr} {fd : FuncData} {N ps : List Str} {sp : Nat → TSp} {t : Nat → DS} (k0 : Nat) (D : DefAt K x st f fd) (KX : K.In base) (G : base.Ns mainGlobals mg) (b : BindsOk x st ps) (S : FnScope N ps (defScope st)) (hlen : ∀ m ds n Q, sp m ds n Q → ds.length + 1 = ps.length)
    (h0 : ∀ ds n Q, ¬ sp 0 ds n Q)
    (hbody : ∀ m k, k0 ≤ k → CalS P w K mg base k x (SpT ⟨P, w, K⟩ (sp m)) → ∀ (f : Addr) (cdv : Value) (A : Around) (outer : List Env) (s : Shared) (H : Hp) (E : XK), Room k (A.deeper (envOfC x (defScope st) s.heap.objs.size f cdv)) → RSs (cxOf CX0 P w K mg base N x (defScope st) f cdv A outer s H E).nox (defBody st) (t m))
    (hvc : ∀ m ds n Qd, sp (m + 1) ds n Qd → t m { nx := fun _ m => Qd .none m, rt := fun d m => Qd d m } (start0 N.length (.tape :: ds.map .val)) n) : ∀ m, CalS P w K mg base (k0 + m) x (SpT ⟨P, w, K⟩ (sp m))
  | 0 => .make D KX G b ⟨fun vs H Q E ⟨t0, F, ds, us, n, Qd, _, _, _, _, _, q, _⟩ => (h0 _ _ _ q).elim, fun A outer s H args us vs Q E _ _ _ _ ⟨t0, F, ds, us, n, Qd, _, _, _, _, _, q, _⟩ => (h0 _ _ _ q).elim⟩
  | m + 1 => calT D KX G b S (hlen _) (hbody m (k0 + m) (Nat.le_add_right _ _) (recT k0 D KX G b S hlen h0 hbody hvc m)) (hvc m)
theorem tup_glob {v : Addr} {od : Option Addr} {its : Array Value} {n : Nat} {osl : Array (Option Value)} {x : Str} {ds : List D} {vs : List V} (a : PySem.W.nsIn K mainGlobals x = some (some (.ref v))) (l : K.lookup v = some ⟨.type "tuple", od, .seq its n, osl⟩) (KX : K.In base) (G : base.Ns mainGlobals mg)
    (hz : its.size ≤ sizeLine) (hv : Vals vs its.toList) (hd : ∀ (C : Cfg) (F : Addr → Prop) (H : Hp), Dats C F H ds vs) (hdb : (x == ("__debug__" : Str)) = false) : ∀ {X : Cx} {p : Pos}, X.K = K → X.mg = mg → Gl X x → RE X (.Name x p) (dC (.tuple ds)) := by
  intro X p hK hm hg
  refine re_glob (v := .ref v) (pe_glob hg (by rw [hm]; exact PySem.W.mg_of KX G a) rfl hdb) fun F H => ?_
  simp only [Dat]
  exact ⟨v, vs, rfl, .inr ⟨_, its, n, by show X.K.lookup v = _; rw [hK]; exact l, rfl, rfl, hz, hv⟩, hd _ F H⟩
end
end DL

/-! wishes -/
namespace DL
open PySem PySem.W PyProof.Rows L2

inductive Wi where
  | none
  | void
  | sign (c : Nat)
  | or (a b : Wi)
  | thn (a b : Wi)
  | star (a : Wi)
deriving DecidableEq
namespace Wi
def enc : Wi → D
  | none => .tuple [.str "none"]
  | void => .tuple [.str "void"]
  | sign c => .tuple [.str "sign", .str ⟨#[c]⟩]
  | or a b => .tuple [.str "or", enc a, enc b]
  | thn a b => .tuple [.str "then", enc a, enc b]
  | star a => .tuple [.str "again", enc a]
def dep : Wi → Nat
  | none | void | sign _ => 0
  | or a b => max (dep a) (dep b) + 1
  | thn a b => max (dep a) (dep b) + 1
  | star a => dep a + 1
def sz : Wi → Nat
  | none | void | sign _ => 1
  | or a b => sz a + sz b + 1
  | thn a b => sz a + sz b + 1
  | star a => sz a + 1
/-- the signs are letters -/
def ok : Wi → Prop
  | none | void => True
  | sign c => c < 0x110000 ∧ c ≠ 32
  | or a b => ok a ∧ ok b
  | thn a b => ok a ∧ ok b
  | star a => ok a
def tv : Wi → Bool
  | none => false
  | void => true
  | sign _ => false
  | or a b => tv a || tv b
  | thn a b => tv a && tv b
  | star _ => true
def jn (p w : Wi) : Wi := if p = void then w else thn p w
def parts (a : Nat) : Wi → List Wi
  | none | void => []
  | sign c => if c = a then [void] else []
  | or x y => parts a x ++ parts a y
  | thn x y => if tv x then (parts a x).map (jn · y) ++ parts a y else (parts a x).map (jn · y)
  | star x => (parts a x).map (jn · (star x))
/-- all parts of parts -/
def pd : Wi → List Wi
  | none | void => []
  | sign _ => [void]
  | or x y => pd x ++ pd y
  | thn x y => (pd x).map (jn · y) ++ pd y
  | star x => (pd x).map (jn · (star x))
end Wi
/-! the simp set of readings -/
theorem atI0 {α : Type} (x : α) (r : List α) : atI (x :: r) 0 = some x := atI_nat (j := 0) rfl
theorem atI1 {α : Type} (x y : α) (r : List α) : atI (x :: y :: r) 1 = some y := atI_nat (j := 1) rfl
theorem atI2 {α : Type} (x y z : α) (r : List α) : atI (x :: y :: z :: r) 2 = some z := atI_nat (j := 2) rfl
theorem atIm1 {α : Type} (x : α) : atI [x] (-1) = some x := atI_last [] x
theorem atIm2 {α : Type} (x y : α) : atI [x, y] (-1) = some y := atI_last [x] y
theorem atIm3 {α : Type} (x y z : α) : atI [x, y, z] (-1) = some z := atI_last [x, y] z
theorem eqv_str (x y : Str) : PyData.eqv (.str x) (.str y) = decide (x = y) := by simp [PyData.eqv, beq_decide]
theorem eqv_int (x y : Int) : PyData.eqv (.int x) (.int y) = decide (x = y) := by simp [PyData.eqv, beq_decide]
theorem gEq_str {f : Bool → Bool} {x y : Str} {Q : D → Prop} : gEq f (.str x) (.str y) Q ↔ Q (.bool (f (decide (x = y)))) := by
  unfold gEq
  rw [eqv_str]
  exact ⟨fun h => h.2, fun h => ⟨.inl rfl, h⟩⟩
theorem gEq_int {f : Bool → Bool} {x y : Int} {Q : D → Prop} : gEq f (.int x) (.int y) Q ↔ Q (.bool (f (decide (x = y)))) := by
  unfold gEq
  rw [eqv_int]
  exact ⟨fun h => h.2, fun h => ⟨.inl rfl, h⟩⟩
theorem ex_bool {c : Bool} {P : Bool → Prop} : (∃ b, PyData.bool c = PyData.bool b ∧ P b) ↔ P c := ⟨fun ⟨b, e, h⟩ => by cases e; exact h, fun h => ⟨c, rfl, h⟩⟩
end DL

/-! what wishes take, parts, texts: no program -/
namespace DL
open PySem
theorem ofStr_inj {a b : String} : (Str.ofString a = Str.ofString b) ↔ a = b := by
  constructor
  · intro h
    rw [Str.ofString_eq_toList, Str.ofString_eq_toList] at h
    have h1 : a.toList.map Char.toNat = b.toList.map Char.toNat := by simpa using h
    have h2 : a.toList = b.toList := (List.map_inj_right fun x y e => Char.toNat_inj.mp e).mp h1
    exact String.toList_inj.mp h2
  · intro h; rw [h]
namespace Wi
inductive Stl (L : List Nat → Prop) : List Nat → Prop
  | nil : Stl L []
  | cons {u v : List Nat} : u ≠ [] → L u → Stl L v → Stl L (u ++ v)
def Lng : Wi → List Nat → Prop
  | none, _ => False
  | void, x => x = []
  | sign c, x => x = [c]
  | or a b, x => Lng a x ∨ Lng b x
  | thn a b, x => ∃ u v, x = u ++ v ∧ Lng a u ∧ Lng b v
  | star a, x => Stl (Lng a) x
noncomputable def tk (w : Wi) (x : List Nat) : Bool := @decide (Lng w x) (Classical.propDecidable _)
theorem tk_iff {w : Wi} {x : List Nat} : tk w x = true ↔ Lng w x := by
  unfold tk
  exact @decide_eq_true_iff _ (Classical.propDecidable _)
theorem tv_iff : ∀ w : Wi, w.tv = true ↔ Lng w []
  | none => by simp [tv, Lng]
  | void => by simp [tv, Lng]
  | sign c => by simp [tv, Lng]
  | or a b => by simp only [tv, Lng, Bool.or_eq_true, tv_iff a, tv_iff b]
  | thn a b => by
    simp only [tv, Lng, Bool.and_eq_true, tv_iff a, tv_iff b]
    constructor
    · rintro ⟨h1, h2⟩
      exact ⟨[], [], rfl, h1, h2⟩
    · rintro ⟨u, v, e, h1, h2⟩
      have e' := e.symm
      rw [List.append_eq_nil_iff] at e'
      rw [e'.1] at h1
      rw [e'.2] at h2
      exact ⟨h1, h2⟩
  | star a => by simp only [tv, Lng, true_iff]; exact .nil
theorem jn_lng {p w : Wi} {x : List Nat} : Lng (jn p w) x ↔ ∃ u v, x = u ++ v ∧ Lng p u ∧ Lng w v := by
  unfold jn
  split
  · rename_i e
    subst e
    simp only [Lng]
    exact ⟨fun h => ⟨[], x, rfl, rfl, h⟩, fun ⟨u, v, e, e2, h⟩ => by subst e2; rw [e]; exact h⟩
  · rfl
theorem stl_cons {L : List Nat → Prop} {a : Nat} {x : List Nat} (h : Stl L (a :: x)) : ∃ u v, x = u ++ v ∧ L (a :: u) ∧ Stl L v := by
  generalize e : a :: x = y at h
  cases h with
  | nil => cases e
  | cons hn h1 h2 =>
    rename_i u v
    cases u with
    | nil => exact absurd rfl hn
    | cons b u =>
      rw [List.cons_append] at e
      cases e
      exact ⟨u, v, rfl, h1, h2⟩
theorem parts_thn (a : Nat) (x y : Wi) : parts a (thn x y) = if tv x = true then (parts a x).map (jn · y) ++ parts a y else (parts a x).map (jn · y) := rfl
theorem parts_lng (a : Nat) : ∀ (w : Wi) (x : List Nat), (∃ p ∈ parts a w, Lng p x) ↔ Lng w (a :: x)
  | none, x => by simp [parts, Lng]
  | void, x => by simp [parts, Lng]
  | sign c, x => by
    unfold parts
    by_cases h : c = a
    · rw [if_pos h]
      simp only [List.mem_singleton, exists_eq_left, Lng, h, List.cons.injEq, true_and]
    · rw [if_neg h]
      simp only [List.not_mem_nil, false_and, exists_false, Lng, List.cons.injEq, false_iff]
      exact fun e => h e.1.symm
  | or b c, x => by
    simp only [parts, Lng, List.mem_append, ← parts_lng a b x, ← parts_lng a c x]
    constructor
    · rintro ⟨p, h | h, q⟩
      · exact .inl ⟨p, h, q⟩
      · exact .inr ⟨p, h, q⟩
    · rintro (⟨p, h, q⟩ | ⟨p, h, q⟩)
      · exact ⟨p, .inl h, q⟩
      · exact ⟨p, .inr h, q⟩
  | thn b c, x => by
    have key : (∃ p ∈ (parts a b).map (jn · c), Lng p x) ↔ ∃ u v, x = u ++ v ∧ Lng b (a :: u) ∧ Lng c v := by
      constructor
      · rintro ⟨p, hp, q⟩
        obtain ⟨r, hr, rfl⟩ := List.mem_map.mp hp
        obtain ⟨u, v, e, h1, h2⟩ := jn_lng.mp q
        exact ⟨u, v, e, (parts_lng a b u).mp ⟨r, hr, h1⟩, h2⟩
      · rintro ⟨u, v, e, h1, h2⟩
        obtain ⟨r, hr, h3⟩ := (parts_lng a b u).mpr h1
        exact ⟨_, List.mem_map.mpr ⟨r, hr, rfl⟩, jn_lng.mpr ⟨u, v, e, h3, h2⟩⟩
    have split : Lng (thn b c) (a :: x) ↔ (∃ u v, x = u ++ v ∧ Lng b (a :: u) ∧ Lng c v) ∨ (Lng b [] ∧ Lng c (a :: x)) := by
      simp only [Lng]
      constructor
      · rintro ⟨u, v, e, h1, h2⟩
        cases u with
        | nil => exact .inr ⟨h1, by rw [e]; exact h2⟩
        | cons d u =>
          rw [List.cons_append] at e
          cases e
          exact .inl ⟨u, v, rfl, h1, h2⟩
      · rintro (⟨u, v, e, h1, h2⟩ | ⟨h1, h2⟩)
        · exact ⟨a :: u, v, by rw [e]; rfl, h1, h2⟩
        · exact ⟨[], a :: x, rfl, h1, h2⟩
    rw [split, ← key, parts_thn]
    by_cases ht : tv b = true
    · rw [if_pos ht]
      have hb := (tv_iff b).mp ht
      simp only [List.mem_append, hb, true_and, ← parts_lng a c x]
      constructor
      · rintro ⟨p, h | h, q⟩
        · exact .inl ⟨p, h, q⟩
        · exact .inr ⟨p, h, q⟩
      · rintro (⟨p, h, q⟩ | ⟨p, h, q⟩)
        · exact ⟨p, .inl h, q⟩
        · exact ⟨p, .inr h, q⟩
    · rw [if_neg ht]
      have hb : ¬ Lng b [] := fun z => ht ((tv_iff b).mpr z)
      simp only [hb, false_and, or_false]
  | star b, x => by
    unfold parts
    constructor
    · rintro ⟨p, hp, q⟩
      obtain ⟨r, hr, rfl⟩ := List.mem_map.mp hp
      obtain ⟨u, v, e, h1, h2⟩ := jn_lng.mp q
      have h3 := (parts_lng a b u).mp ⟨r, hr, h1⟩
      show Stl (Lng b) (a :: x)
      rw [e]
      exact Stl.cons (u := a :: u) (by simp) h3 h2
    · intro h
      obtain ⟨u, v, e, h1, h2⟩ := stl_cons h
      obtain ⟨r, hr, h3⟩ := (parts_lng a b u).mpr h1
      exact ⟨_, List.mem_map.mpr ⟨r, hr, rfl⟩, jn_lng.mpr ⟨u, v, e, h3, h2⟩⟩
/-! parts of parts: finitely many -/
theorem pd_of {a : Nat} : ∀ {w p : Wi}, p ∈ parts a w → p ∈ pd w
  | none, p, h => by simp [parts] at h
  | void, p, h => by simp [parts] at h
  | sign c, p, h => by
    unfold parts at h
    split at h
    · exact h
    · simp at h
  | or b c, p, h => by
    simp only [parts, pd, List.mem_append] at h ⊢
    exact h.elim (fun z => .inl (pd_of z)) fun z => .inr (pd_of z)
  | thn b c, p, h => by
    have key : p ∈ (parts a b).map (jn · c) → p ∈ (pd b).map (jn · c) := fun z => by
      obtain ⟨r, hr, rfl⟩ := List.mem_map.mp z
      exact List.mem_map.mpr ⟨r, pd_of hr, rfl⟩
    unfold parts at h
    simp only [pd, List.mem_append]
    split at h
    · rcases List.mem_append.mp h with z | z
      · exact .inl (key z)
      · exact .inr (pd_of z)
    · exact .inl (key h)
  | star b, p, h => by
    obtain ⟨r, hr, rfl⟩ := List.mem_map.mp h
    exact List.mem_map.mpr ⟨r, pd_of hr, rfl⟩
/-- a part of q then y -/
theorem parts_jn {a : Nat} {q y p : Wi} (h : p ∈ parts a (jn q y)) : p ∈ parts a y ∨ ∃ r ∈ parts a q, p = jn r y := by
  unfold jn at h
  split at h
  · exact .inl h
  · unfold parts at h
    split at h
    · rcases List.mem_append.mp h with z | z
      · obtain ⟨r, hr, rfl⟩ := List.mem_map.mp z
        exact .inr ⟨r, hr, rfl⟩
      · exact .inl z
    · obtain ⟨r, hr, rfl⟩ := List.mem_map.mp h
      exact .inr ⟨r, hr, rfl⟩
theorem pd_step {a : Nat} : ∀ {w p q : Wi}, q ∈ pd w → p ∈ parts a q → p ∈ pd w
  | none, p, q, h, _ => by simp [pd] at h
  | void, p, q, h, _ => by simp [pd] at h
  | sign c, p, q, h, h2 => by
    simp only [pd, List.mem_singleton] at h
    subst h
    simp [parts] at h2
  | or b c, p, q, h, h2 => by
    simp only [pd, List.mem_append] at h ⊢
    exact h.elim (fun z => .inl (pd_step z h2)) fun z => .inr (pd_step z h2)
  | thn b c, p, q, h, h2 => by
    simp only [pd, List.mem_append] at h ⊢
    rcases h with h | h
    · obtain ⟨r, hr, rfl⟩ := List.mem_map.mp h
      rcases parts_jn h2 with z | ⟨s, hs, rfl⟩
      · exact .inr (pd_of z)
      · exact .inl (List.mem_map.mpr ⟨s, pd_step hr hs, rfl⟩)
    · exact .inr (pd_step h h2)
  | star b, p, q, h, h2 => by
    obtain ⟨r, hr, rfl⟩ := List.mem_map.mp h
    rcases parts_jn h2 with z | ⟨s, hs, rfl⟩
    · exact pd_of (w := star b) z
    · exact List.mem_map.mpr ⟨s, pd_step hr hs, rfl⟩
theorem sz_pos (w : Wi) : 1 ≤ sz w := by cases w <;> simp [sz]
theorem pd_len : ∀ w : Wi, (pd w).length ≤ sz w
  | none | void | sign _ => by simp [pd, sz]
  | or a b => by
    have := pd_len a; have := pd_len b
    simp only [pd, sz, List.length_append]; omega
  | thn a b => by
    have := pd_len a; have := pd_len b
    simp only [pd, sz, List.length_append, List.length_map]; omega
  | star a => by
    have := pd_len a
    simp only [pd, sz, List.length_map]; omega
theorem parts_len (c : Nat) : ∀ w : Wi, (parts c w).length ≤ sz w
  | none | void => by simp [parts, sz]
  | sign _ => by unfold parts; split <;> simp [sz]
  | or a b => by
    have := parts_len c a; have := parts_len c b
    simp only [parts, sz, List.length_append]; omega
  | thn a b => by
    have := parts_len c a; have := parts_len c b
    unfold parts
    split
    · simp only [sz, List.length_append, List.length_map]; omega
    · simp only [sz, List.length_map]; omega
  | star a => by
    have := parts_len c a
    simp only [parts, sz, List.length_map]; omega
theorem jn_dep (p w : Wi) : dep (jn p w) ≤ max (dep p) (dep w) + 1 := by
  unfold jn; split
  · omega
  · simp only [dep]; omega
theorem jn_sz (p w : Wi) : sz (jn p w) ≤ sz p + sz w + 1 := by
  unfold jn; split
  · omega
  · simp only [sz]; omega
theorem pd_dep : ∀ {w p : Wi}, p ∈ pd w → dep p ≤ 2 * dep w
  | none, p, h => by simp [pd] at h
  | void, p, h => by simp [pd] at h
  | sign c, p, h => by simp only [pd, List.mem_singleton] at h; subst h; simp [dep]
  | or a b, p, h => by
    simp only [pd, List.mem_append] at h
    rcases h with h | h
    · have := pd_dep h; simp only [dep]; omega
    · have := pd_dep h; simp only [dep]; omega
  | thn a b, p, h => by
    simp only [pd, List.mem_append] at h
    rcases h with h | h
    · obtain ⟨r, hr, rfl⟩ := List.mem_map.mp h
      have := pd_dep hr; have := jn_dep r b
      simp only [dep]; omega
    · have := pd_dep h; simp only [dep]; omega
  | star a, p, h => by
    obtain ⟨r, hr, rfl⟩ := List.mem_map.mp h
    have h1 := pd_dep hr; have h2 := jn_dep r (star a)
    simp only [dep] at h2 ⊢; omega
theorem pd_sz : ∀ {w p : Wi}, p ∈ pd w → sz p ≤ sz w * (dep w + 1)
  | none, p, h => by simp [pd] at h
  | void, p, h => by simp [pd] at h
  | sign c, p, h => by simp only [pd, List.mem_singleton] at h; subst h; simp [dep, sz]
  | or a b, p, h => by
    have m : ∀ x y z t : Nat, x ≤ z → y ≤ t → x * y ≤ z * t := fun _ _ _ _ => Nat.mul_le_mul
    simp only [pd, List.mem_append] at h
    rcases h with h | h
    · exact Nat.le_trans (pd_sz h) (m _ _ _ _ (by simp only [sz]; omega) (by simp only [dep]; omega))
    · exact Nat.le_trans (pd_sz h) (m _ _ _ _ (by simp only [sz]; omega) (by simp only [dep]; omega))
  | thn a b, p, h => by
    have m : ∀ x y z t : Nat, x ≤ z → y ≤ t → x * y ≤ z * t := fun _ _ _ _ => Nat.mul_le_mul
    simp only [pd, List.mem_append] at h
    rcases h with h | h
    · obtain ⟨r, hr, rfl⟩ := List.mem_map.mp h
      have h1 := pd_sz hr
      have h2 := jn_sz r b
      have h3 : sz a * (dep a + 1) ≤ sz (thn a b) * dep (thn a b) := m _ _ _ _ (by simp only [sz]; omega) (by simp only [dep]; omega)
      have h4 : sz (thn a b) * (dep (thn a b) + 1) = sz (thn a b) * dep (thn a b) + sz (thn a b) := Nat.mul_succ _ _
      have h5 : sz b + 1 ≤ sz (thn a b) := by simp only [sz]; omega
      omega
    · exact Nat.le_trans (pd_sz h) (m _ _ _ _ (by simp only [sz]; omega) (by simp only [dep]; omega))
  | star a, p, h => by
    have m : ∀ x y z t : Nat, x ≤ z → y ≤ t → x * y ≤ z * t := fun _ _ _ _ => Nat.mul_le_mul
    obtain ⟨r, hr, rfl⟩ := List.mem_map.mp h
    have h1 := pd_sz hr
    have h2 := jn_sz r (star a)
    have h3 : sz (star a) * (dep (star a) + 1) = sz (star a) * dep (star a) + sz (star a) := Nat.mul_succ _ _
    have h4 : sz (star a) * dep (star a) = sz a * (dep a + 1) + (dep a + 1) := by
      simp only [sz, dep]; rw [Nat.succ_mul]
    omega
theorem sz_dep : ∀ w : Wi, sz w < 2 ^ (dep w + 1)
  | none | void | sign _ => by simp [sz, dep]
  | or a b => by
    have h1 := sz_dep a; have h2 := sz_dep b
    have e1 : 2 ^ (dep a + 1) ≤ 2 ^ (max (dep a) (dep b) + 1) := Nat.pow_le_pow_right (by decide) (by omega)
    have e2 : 2 ^ (dep b + 1) ≤ 2 ^ (max (dep a) (dep b) + 1) := Nat.pow_le_pow_right (by decide) (by omega)
    have e3 : 2 ^ (dep (or a b) + 1) = 2 * 2 ^ (max (dep a) (dep b) + 1) := by simp only [dep]; rw [Nat.pow_succ]; omega
    simp only [sz]; omega
  | thn a b => by
    have h1 := sz_dep a; have h2 := sz_dep b
    have e1 : 2 ^ (dep a + 1) ≤ 2 ^ (max (dep a) (dep b) + 1) := Nat.pow_le_pow_right (by decide) (by omega)
    have e2 : 2 ^ (dep b + 1) ≤ 2 ^ (max (dep a) (dep b) + 1) := Nat.pow_le_pow_right (by decide) (by omega)
    have e3 : 2 ^ (dep (thn a b) + 1) = 2 * 2 ^ (max (dep a) (dep b) + 1) := by simp only [dep]; rw [Nat.pow_succ]; omega
    simp only [sz]; omega
  | star a => by
    have h1 := sz_dep a
    have e3 : 2 ^ (dep (star a) + 1) = 2 * 2 ^ (dep a + 1) := by simp only [dep]; rw [Nat.pow_succ]; omega
    simp only [sz]; omega
theorem ok_jn {p w : Wi} (h : ok p) (g : ok w) : ok (jn p w) := by
  unfold jn; split
  · exact g
  · exact ⟨h, g⟩
theorem ok_pd : ∀ {w p : Wi}, ok w → p ∈ pd w → ok p
  | none, p, _, h => by simp [pd] at h
  | void, p, _, h => by simp [pd] at h
  | sign c, p, _, h => by simp only [pd, List.mem_singleton] at h; subst h; trivial
  | or a b, p, g, h => by
    simp only [pd, List.mem_append] at h
    exact h.elim (ok_pd g.1) (ok_pd g.2)
  | thn a b, p, g, h => by
    simp only [pd, List.mem_append] at h
    rcases h with h | h
    · obtain ⟨r, hr, rfl⟩ := List.mem_map.mp h
      exact ok_jn (ok_pd g.1 hr) g.2
    · exact ok_pd g.2 h
  | star a, p, g, h => by
    obtain ⟨r, hr, rfl⟩ := List.mem_map.mp h
    exact ok_jn (ok_pd (w := a) g hr) g
/-! texts -/
def words : Wi → List Str
  | none => ["none"]
  | void => ["void"]
  | sign c => [⟨#[c]⟩]
  | or a b => "or" :: (words a ++ words b)
  | thn a b => "then" :: (words a ++ words b)
  | star a => "again" :: words a
def text (w : Wi) : Str := Txt.join " " (words w)
theorem words_len (w : Wi) : (words w).length = sz w := by
  induction w with
  | none | void | sign _ => rfl
  | or a b h1 h2 => simp only [words, sz, List.length_cons, List.length_append, h1, h2]
  | thn a b h1 h2 => simp only [words, sz, List.length_cons, List.length_append, h1, h2]
  | star a h1 => simp only [words, sz, List.length_cons, h1]
theorem words_ne (w : Wi) : words w ≠ [] := by cases w <;> simp [words]
theorem len1 (c : Nat) : (⟨#[c]⟩ : Str).length = 1 := rfl
theorem lit_ne (c : Nat) (s : String) (h : (Str.ofString s).length ≠ 1) : (⟨#[c]⟩ : Str) ≠ Str.ofString s := fun e => h (by rw [← e]; rfl)
theorem words_inj : ∀ (w v : Wi) (r r' : List Str), words w ++ r = words v ++ r' → w = v ∧ r = r' := by
  have n1 : (Str.ofString "none").length ≠ 1 := by decide +kernel
  have n2 : (Str.ofString "void").length ≠ 1 := by decide +kernel
  have n3 : (Str.ofString "or").length ≠ 1 := by decide +kernel
  have n4 : (Str.ofString "then").length ≠ 1 := by decide +kernel
  have n5 : (Str.ofString "again").length ≠ 1 := by decide +kernel
  intro w
  induction w with
  | none => intro v r r' h; cases v <;> simp [words, ofStr_inj] at h ⊢ <;> first | exact h | exact absurd h.1.symm (lit_ne _ _ n1)
  | void => intro v r r' h; cases v <;> simp [words, ofStr_inj] at h ⊢ <;> first | exact h | exact absurd h.1.symm (lit_ne _ _ n2)
  | sign c =>
    intro v r r' h
    cases v <;> simp [words] at h ⊢
    · exact absurd h.1 (lit_ne _ _ n1)
    · exact absurd h.1 (lit_ne _ _ n2)
    · exact h
    · exact absurd h.1 (lit_ne _ _ n3)
    · exact absurd h.1 (lit_ne _ _ n4)
    · exact absurd h.1 (lit_ne _ _ n5)
  | or a b h1 h2 =>
    intro v r r' h
    cases v with
    | or c d =>
      simp only [words, List.cons_append, List.cons.injEq, true_and, List.append_assoc] at h
      obtain ⟨rfl, e⟩ := h1 _ _ _ h
      obtain ⟨rfl, e2⟩ := h2 _ _ _ e
      exact ⟨rfl, e2⟩
    | sign c => simp [words] at h; exact absurd h.1.symm (lit_ne _ _ n3)
    | _ => simp [words, ofStr_inj] at h
  | thn a b h1 h2 =>
    intro v r r' h
    cases v with
    | thn c d =>
      simp only [words, List.cons_append, List.cons.injEq, true_and, List.append_assoc] at h
      obtain ⟨rfl, e⟩ := h1 _ _ _ h
      obtain ⟨rfl, e2⟩ := h2 _ _ _ e
      exact ⟨rfl, e2⟩
    | sign c => simp [words] at h; exact absurd h.1.symm (lit_ne _ _ n4)
    | _ => simp [words, ofStr_inj] at h
  | star a h1 =>
    intro v r r' h
    cases v with
    | star c =>
      simp only [words, List.cons_append, List.cons.injEq, true_and] at h
      obtain ⟨rfl, e⟩ := h1 _ _ _ h
      exact ⟨rfl, e⟩
    | sign c => simp [words] at h; exact absurd h.1.symm (lit_ne _ _ n5)
    | _ => simp [words, ofStr_inj] at h
theorem words_free : ∀ (w : Wi), ok w → ∀ p ∈ words w, 32 ∉ p.cps.toList
  | none, _, p, h => by simp only [words, List.mem_singleton] at h; subst h; decide +kernel
  | void, _, p, h => by simp only [words, List.mem_singleton] at h; subst h; decide +kernel
  | sign c, g, p, h => by
    simp only [words, List.mem_singleton] at h
    subst h
    intro z
    have z' : 32 ∈ [c] := z
    exact g.2 (List.mem_singleton.mp z').symm
  | or a b, g, p, h => by
    simp only [words, List.mem_cons, List.mem_append] at h
    rcases h with rfl | h | h
    · decide +kernel
    · exact words_free a g.1 p h
    · exact words_free b g.2 p h
  | thn a b, g, p, h => by
    simp only [words, List.mem_cons, List.mem_append] at h
    rcases h with rfl | h | h
    · decide +kernel
    · exact words_free a g.1 p h
    · exact words_free b g.2 p h
  | star a, g, p, h => by
    simp only [words, List.mem_cons] at h
    rcases h with rfl | h
    · decide +kernel
    · exact words_free a g p h
end Wi
end DL

/-! the simp set of readings -/
namespace DL
open PySem PySem.W PyProof.Rows L2
@[simp] theorem ofStr_inj' {a b : String} : (Str.ofString a = Str.ofString b) ↔ a = b := ofStr_inj
section
variable {te ta tb tv tk : DE} {t : DO} {tt uu : DT} {s u : DS} {g : DG} {gs : DGs} {Dd : DEnds} {ρ : Sl} {n : Nat} {Q : D → Nat → Prop} {QO : List D → Nat → Prop} {QT : Bool → Nat → Prop} {d e : D}
@[simp] theorem v_seq : dSeq s u Dd ρ n = s { Dd with nx := fun ρ' n' => u Dd ρ' n' } ρ n := rfl
@[simp] theorem v_next : dNext Dd ρ n = Dd.nx ρ n := rfl
@[simp] theorem v_ifS : dIfS tt s u Dd ρ n = tt ρ n fun b n1 => if b = true then s Dd ρ n1 else u Dd ρ n1 := rfl
@[simp] theorem v_set {i : Nat} : dSet i te Dd ρ n = te ρ n fun d m => Dd.nx (ρ.set i (some (.val d))) m := rfl
@[simp] theorem v_setO {i : Nat} : dSetO i t Dd ρ n = t ρ n fun ds m => Dd.nx (ρ.set i (some (.own ds))) m := rfl
@[simp] theorem v_ret : dRet te Dd ρ n = te ρ n Dd.rt := rfl
@[simp] theorem v_break : dBreak Dd ρ n = Dd.bk ρ n := rfl
@[simp] theorem v_cont : dCont Dd ρ n = Dd.ct ρ n := rfl
@[simp] theorem v_var {i : Nat} : dVar i ρ n Q = match ρ[i]? with | some (some (.val d)) => Q d n | _ => False := rfl
@[simp] theorem v_varB {i : Nat} : dVarB i ρ n Q = match ρ[i]? with | some (some (.val d)) => Q d n | some (some (.own ds)) => Q (.list ds) n | some (some (.dic kvs)) => Q (.dict kvs) n | _ => False := rfl
@[simp] theorem v_c : dC d ρ n Q = Q d n := rfl
@[simp] theorem v_op {g : G2} : dOp g ta tb ρ n Q = ta ρ n fun x n1 => tb ρ n1 fun y n2 => g x y fun z => Q z n2 := rfl
@[simp] theorem v_opO {g : D → D → (List D → Prop) → Prop} : dOpO g ta tb ρ n QO = ta ρ n fun x n1 => tb ρ n1 fun y n2 => g x y fun z => QO z n2 := rfl
@[simp] theorem v_and : dAnd ta tb ρ n Q = ta ρ n fun x n1 => ∃ c, x = .bool c ∧ if c = true then tb ρ n1 Q else Q (.bool false) n1 := rfl
@[simp] theorem v_or : dOr ta tb ρ n Q = ta ρ n fun x n1 => ∃ c, x = .bool c ∧ if c = true then Q (.bool true) n1 else tb ρ n1 Q := rfl
@[simp] theorem v_not : dNot ta ρ n Q = ta ρ n fun x n1 => ∃ c, x = .bool c ∧ Q (.bool (!c)) n1 := rfl
@[simp] theorem v_neg : dNeg ta ρ n Q = ta ρ n fun x n1 => ∃ i, x = .int i ∧ Q (.int (-i)) n1 := rfl
@[simp] theorem v_tand : tAndD tt uu ρ n QT = tt ρ n fun c n1 => if c = true then uu ρ n1 QT else QT false n1 := rfl
@[simp] theorem v_tor : tOrD tt uu ρ n QT = tt ρ n fun c n1 => if c = true then QT true n1 else uu ρ n1 QT := rfl
@[simp] theorem v_tnot : tNotD tt ρ n QT = tt ρ n fun c n1 => QT (!c) n1 := rfl
@[simp] theorem v_tbool : tBoolD te ρ n QT = te ρ n fun x n1 => ∃ c, x = .bool c ∧ QT c n1 := rfl
@[simp] theorem v_tyes : tYesD ρ n QT = QT true n := rfl
@[simp] theorem v_if : dIf tt ta tb ρ n Q = tt ρ n fun c n1 => if c = true then ta ρ n1 Q else tb ρ n1 Q := rfl
@[simp] theorem v_nil : dNil ρ n QO = QO [] n := rfl
@[simp] theorem v_cons : dCons te t ρ n QO = te ρ n fun d n1 => t ρ n1 fun ds n2 => QO (d :: ds) n2 := rfl
@[simp] theorem v_tup : dTup t ρ n Q = t ρ n fun ds m => ds.length ≤ sizeLine ∧ Q (.tuple ds) m := rfl
@[simp] theorem v_lst : dLst t ρ n QO = t ρ n fun ds m => ds.length ≤ sizeLine ∧ QO ds m := rfl
@[simp] theorem v_list : dList t ρ n Q = t ρ n fun ds m => Q (.list ds) m := rfl
@[simp] theorem v_1 {g : D → (D → Prop) → Prop} : d1 g ta ρ n Q = ta ρ n fun x n1 => g x fun z => Q z n1 := rfl
@[simp] theorem v_1O {g : D → (List D → Prop) → Prop} : d1O g ta ρ n QO = ta ρ n fun x n1 => g x fun z => QO z n1 := rfl
@[simp] theorem v_callP {sp : PSp} : dCallP sp t ρ n Q = t ρ n fun ds m => sp ds fun d => Q d m := rfl
@[simp] theorem v_callPB {sp : PSp} : dCallPB sp t ρ n Q = t ρ n fun ds m => sp ds fun d => flatD d = true ∧ Q d m := rfl
@[simp] theorem v_callT {i : Nat} {sp : TSp} : dCallT i sp t ρ n Q = (ρ[i]? = some (some .tape) ∧ t ρ n fun ds m => sp ds m Q) := rfl
@[simp] theorem v_noPt {Qp : Option Int → Nat → Prop} : dNoPt ρ n Qp = Qp none n := rfl
@[simp] theorem v_pt {Qp : Option Int → Nat → Prop} : dPt te ρ n Qp = te ρ n fun d m => ∃ i, d = .int i ∧ Qp (some i) m := rfl
@[simp] theorem v_sl {tl th : DPt} : dSl ta tl th ρ n Q = ta ρ n fun x n1 => tl ρ n1 fun l n2 => th ρ n2 fun u n3 => gSl l u x fun z => Q z n3 := rfl
@[simp] theorem v_slO {tl th : DPt} : dSlO ta tl th ρ n QO = ta ρ n fun x n1 => tl ρ n1 fun l n2 => th ρ n2 fun u n3 => gSlO l u x fun z => QO z n3 := rfl
@[simp] theorem v_revT : dRevT ta ρ n QO = ta ρ n fun x n1 => gRevT x fun z => QO z n1 := rfl
@[simp] theorem v_join : dJoin ta tb ρ n Q = ta ρ n fun x n1 => (∃ z, x = .str z) ∧ tb ρ n1 fun y n2 => gJoin x y fun z => Q z n2 := rfl
@[simp] theorem v_gN {i : Nat} {K : Sl → Prop} : gN i d ρ K = K (ρ.set i (some (.val d))) := rfl
@[simp] theorem v_app {i : Nat} : dApp i te Dd ρ n = ∃ ds0, ρ[i]? = some (some (.own ds0)) ∧ te ρ n fun d m => ds0.length < sizeLine ∧ Dd.nx (ρ.set i (some (.own (ds0 ++ [d])))) m := rfl
@[simp] theorem v_ext {i : Nat} : dExt i te Dd ρ n = ∃ ds0, ρ[i]? = some (some (.own ds0)) ∧ te ρ n fun d m => ∃ es, d = .list es ∧ ds0.length + es.length ≤ sizeLine ∧ Dd.nx (ρ.set i (some (.own (ds0 ++ es)))) m := rfl
@[simp] theorem v_pop {i j : Nat} : dPop j i Dd ρ n = ∃ ds d, ρ[i]? = some (some (.own (ds ++ [d]))) ∧ Dd.nx ((ρ.set i (some (.own ds))).set j (some (.val d))) n := rfl
@[simp] theorem v_frz {i : Nat} : dFrz i s Dd ρ n = match ρ[i]? with | some (some e) => ∃ d, frz e = some d ∧ s Dd (ρ.set i (some (.val d))) n | _ => False := rfl
@[simp] theorem v_frz_own {ds : List D} : frz (.own ds) = some (.list ds) := rfl
@[simp] theorem v_frz_val : frz (.val d) = some d := rfl
@[simp] theorem v_newD {i : Nat} : dNewD i Dd ρ n = Dd.nx (ρ.set i (some (.dic []))) n := rfl
@[simp] theorem v_dput {i : Nat} : dDPut i tk tv Dd ρ n = ∃ kvs, ρ[i]? = some (some (.dic kvs)) ∧ tv ρ n fun d n1 => tk ρ n1 fun k n2 => isKey k = true ∧ kvs.length < sizeLine ∧ Dd.nx (ρ.set i (some (.dic (dPut kvs k d)))) n2 := rfl
@[simp] theorem v_dget : dDGet ta tk ρ n Q = ta ρ n fun d n1 => ∃ kvs, d = .dict kvs ∧ tk ρ n1 fun k n2 => isKey k = true ∧ ∃ v, dLook kvs k = some v ∧ Q v n2 := rfl
@[simp] theorem v_dict {i : Nat} : dDict i te Dd ρ n = te ρ n fun d m => ∃ ps : List (D × D), d = .list (ps.map pairD) ∧ (∀ p ∈ ps, isKey p.1 = true) ∧ Dd.nx (ρ.set i (some (.dic (dMerge [] ps)))) m := rfl
@[simp] theorem v_diSeq {Qi : List D → Nat → Prop} : diSeq te ρ n Qi = te ρ n fun x m => gSeq x fun ds => Qi ds m := rfl
@[simp] theorem v_diRg1 {Qi : List D → Nat → Prop} : diRg1 te ρ n Qi = te ρ n fun x m => gRg1 x fun ds => Qi ds m := rfl
@[simp] theorem v_diRg2 {Qi : List D → Nat → Prop} : diRg2 ta tb ρ n Qi = ta ρ n fun x n1 => tb ρ n1 fun y m => gRg2 x y fun ds => Qi ds m := rfl
end
section
variable {x y : Str} {i j : Int} {ds es : List D} {Q : D → Prop} {QO : List D → Prop} {f : Bool → Bool}
@[simp] theorem v_ixL : gIx (.list ds) (.int i) Q = ∃ d, atI ds i = some d ∧ Q d := rfl
@[simp] theorem v_ixT : gIx (.tuple ds) (.int i) Q = ∃ d, atI ds i = some d ∧ Q d := rfl
@[simp] theorem v_ixS : gIx (.str x) (.int i) Q = ∃ c, x.length ≤ sizeLine ∧ atI x.cps.toList i = some c ∧ Q (.str ⟨#[c]⟩) := rfl
@[simp] theorem v_eqS : gEq f (.str x) (.str y) Q ↔ Q (.bool (f (decide (x = y)))) := gEq_str
@[simp] theorem v_eqI : gEq f (.int i) (.int j) Q ↔ Q (.bool (f (decide (i = j)))) := gEq_int
@[simp] theorem v_eqBo {a b : Bool} : gEq f (.bool a) (.bool b) Q ↔ Q (.bool (f (decide (a = b)))) := by
  unfold gEq
  have : PyData.eqv (.bool a) (.bool b) = decide (a = b) := by simp [PyData.eqv, beq_decide]
  rw [this]
  exact ⟨fun h => h.2, fun h => ⟨.inl rfl, h⟩⟩
@[simp] theorem v_cmp {h : Int → Int → Bool} : gCmp h (.int i) (.int j) Q = Q (.bool (h i j)) := rfl
@[simp] theorem v_addI : gAdd (.int i) (.int j) Q = Q (.int (i + j)) := rfl
@[simp] theorem v_addS : gAdd (.str x) (.str y) Q = (x.length + y.length ≤ sizeLine ∧ Q (.str (x ++ y))) := rfl
@[simp] theorem v_sb : gSb (.int i) (.int j) Q = Q (.int (i - j)) := rfl
@[simp] theorem v_cat : gCat (.list ds) (.list es) QO = (ds.length + es.length ≤ sizeLine ∧ QO (ds ++ es)) := rfl
@[simp] theorem v_rep : gRep (.list ds) (.int i) QO = (-(2 ^ 63) ≤ i ∧ i < 2 ^ 63 ∧ ds.length * i.toNat ≤ sizeLine ∧ QO (List.replicate i.toNat ds).flatten) := rfl
@[simp] theorem v_lenL : gLen (.list ds) Q = Q (.int ds.length) := rfl
@[simp] theorem v_lenT : gLen (.tuple ds) Q = Q (.int ds.length) := rfl
@[simp] theorem v_lenS : gLen (.str x) Q = (x.length ≤ sizeLine ∧ Q (.int x.length)) := rfl
@[simp] theorem v_lenD {kvs : List (D × D)} : gLen (.dict kvs) Q = Q (.int kvs.length) := rfl
@[simp] theorem v_intI : gInt1 (.int i) Q = Q (.int i) := rfl
@[simp] theorem v_intB {b : Bool} : gInt1 (.bool b) Q = Q (.int (if b then 1 else 0)) := rfl
@[simp] theorem v_tupL : gTuple (.list ds) Q = Q (.tuple ds) := rfl
@[simp] theorem v_tupT : gTuple (.tuple ds) Q = Q (.tuple ds) := rfl
@[simp] theorem v_slT {lo hi : Option Int} : gSl lo hi (.tuple ds) Q = Q (.tuple (cutD ds lo hi)) := rfl
@[simp] theorem v_slS {lo hi : Option Int} : gSl lo hi (.str x) Q = (x.length ≤ sizeLine ∧ Q (.str (cutS x lo hi))) := rfl
@[simp] theorem v_slL {lo hi : Option Int} : gSlO lo hi (.list ds) QO = QO (cutD ds lo hi) := rfl
@[simp] theorem v_revT' : gRevT (.tuple ds) QO = QO ds.reverse := rfl
@[simp] theorem v_seqL : gSeq (.list ds) QO = QO ds := rfl
@[simp] theorem v_seqT : gSeq (.tuple ds) QO = QO ds := rfl
@[simp] theorem v_seqS : gSeq (.str x) QO = QO (x.cps.toList.map fun c => .str ⟨#[c]⟩) := rfl
@[simp] theorem v_rg1 : gRg1 (.int j) QO = (-(2 ^ 62) ≤ j ∧ j < 2 ^ 62 ∧ QO (ranged 0 j.toNat)) := rfl
@[simp] theorem v_rg2 : gRg2 (.int i) (.int j) QO = (-(2 ^ 62) ≤ i ∧ i < 2 ^ 62 ∧ -(2 ^ 62) ≤ j ∧ j < 2 ^ 62 ∧ QO (ranged i (j - i).toNat)) := rfl
@[simp] theorem v_wipeN {ρ : Sl} : wipeD ρ [] = ρ := rfl
@[simp] theorem v_wipeC {ρ : Sl} {v : Nat} {vs : List Nat} : wipeD ρ (v :: vs) = (wipeD ρ vs).set v none := rfl
theorem ranged_get {lo : Int} {n k : Nat} {d : D} (h : (ranged lo n)[k]? = some d) : k < n ∧ d = .int (lo + (k : Int)) := by
  unfold ranged at h
  rw [List.getElem?_map] at h
  have hk : k < n := by
    cases e : (List.range n)[k]? with
    | none => rw [e] at h; cases h
    | some a => simpa using (List.getElem?_eq_some_iff.mp e).1
  rw [List.getElem?_range hk] at h
  exact ⟨hk, (Option.some.inj h).symm⟩
theorem ranged_len {lo : Int} {n : Nat} : (ranged lo n).length = n := by unfold ranged; simp
@[simp] theorem v_keyS : isKey (.str x) = true := rfl
@[simp] theorem v_keyI : isKey (.int i) = true := rfl
@[simp] theorem v_scS : scalD (.str x) = true := rfl
@[simp] theorem v_scI : scalD (.int i) = true := rfl
@[simp] theorem v_scB {b : Bool} : scalD (.bool b) = true := rfl
@[simp] theorem v_eqvS : PyData.eqv (.str x) (.str y) = decide (x = y) := eqv_str x y
@[simp] theorem v_eqvI : PyData.eqv (.int i) (.int j) = decide (i = j) := eqv_int i j
@[simp] theorem v_eqvB {a b : Bool} : PyData.eqv (.bool a) (.bool b) = decide (a = b) := by simp [PyData.eqv, beq_decide]
@[simp] theorem v_inT : gIn f (.str x) (.tuple ds) Q = ((scalD (.str x) = true ∧ ds.all scalD = true) ∧ Q (.bool (f (ds.any fun z => PyData.eqv z (.str x))))) := rfl
@[simp] theorem v_inBL {b : Bool} : gIn f (.bool b) (.list ds) Q = (((scalD (.bool b) = true ∧ ds.all scalD = true) ∨ (SeqAt.shaped (.bool b) = true ∧ SeqAt.shaped (.list ds) = true)) ∧ Q (.bool (f (ds.any fun z => PyData.eqv z (.bool b))))) := rfl
@[simp] theorem v_at0 {α : Type} (a : α) (r : List α) : atI (a :: r) 0 = some a := atI0 a r
@[simp] theorem v_at1 {α : Type} (a b : α) (r : List α) : atI (a :: b :: r) 1 = some b := atI1 a b r
@[simp] theorem v_at2 {α : Type} (a b c : α) (r : List α) : atI (a :: b :: c :: r) 2 = some c := atI2 a b c r
@[simp] theorem v_atm1 {α : Type} (a : α) : atI [a] (-1) = some a := atIm1 a
@[simp] theorem v_atm2 {α : Type} (a b : α) : atI [a, b] (-1) = some b := atIm2 a b
@[simp] theorem v_atm3 {α : Type} (a b c : α) : atI [a, b, c] (-1) = some c := atIm3 a b c
end
end DL

namespace DL
open PySem PySem.W PyProof.Rows L2
/-! comprehensions and loops in short -/
theorem lc_pure {i : Nat} {te : DE} {ρ : Sl} {m : Nat} {items : List D} {QO : List D → Nat → Prop} (f : D → D) (h : ∀ x ∈ items, ∀ Q : D → Nat → Prop, Q (f x) m → te ((wipeD ρ [i]).set i (some (.val x))) m Q) (hl : items.length ≤ sizeLine) (hq : QO (items.map f) m) :
    ∃ W : Nat → List D → Nat → Prop, W 0 [] m ∧ (∀ k x acc n, items[k]? = some x → W k acc n → gN i x (wipeD ρ [i]) fun ρ' => tYesD ρ' n fun b n1 => if b = true then te ρ' n1 fun y n2 => acc.length < sizeLine ∧ W (k + 1) (acc ++ [y]) n2 else W (k + 1) acc n1) ∧ ∀ acc n, W items.length acc n → QO acc n := by
  refine ⟨fun k acc n => n = m ∧ acc = (items.take k).map f, ⟨rfl, by simp⟩, ?_, ?_⟩
  · rintro k x acc n hx ⟨rfl, rfl⟩
    have hk : k < items.length := (List.getElem?_eq_some_iff.mp hx).1
    simp only [v_gN, v_tyes, if_true]
    refine h x (List.mem_of_getElem? hx) _ ⟨?_, rfl, ?_⟩
    · rw [List.length_map, List.length_take]
      omega
    · rw [List.take_add_one, hx, List.map_append]
      rfl
  · rintro acc n ⟨rfl, rfl⟩
    rw [List.take_length]
    exact hq
theorem lc_map {α : Type} (l : List α) (e f : α → D) {i : Nat} {te : DE} {ρ : Sl} {m : Nat} {QO : List D → Nat → Prop} (h : ∀ a ∈ l, ∀ Q : D → Nat → Prop, Q (f a) m → te ((wipeD ρ [i]).set i (some (.val (e a)))) m Q) (hl : l.length ≤ sizeLine) (hq : QO (l.map f) m) :
    ∃ W : Nat → List D → Nat → Prop, W 0 [] m ∧ (∀ k x acc n, (l.map e)[k]? = some x → W k acc n → gN i x (wipeD ρ [i]) fun ρ' => tYesD ρ' n fun b n1 => if b = true then te ρ' n1 fun y n2 => acc.length < sizeLine ∧ W (k + 1) (acc ++ [y]) n2 else W (k + 1) acc n1) ∧ ∀ acc n, W (l.map e).length acc n → QO acc n := by
  refine ⟨fun k acc n => n = m ∧ acc = (l.take k).map f, ⟨rfl, by simp⟩, ?_, ?_⟩
  · rintro k x acc n hx ⟨rfl, rfl⟩
    rw [List.getElem?_map] at hx
    cases ha : l[k]? with
    | none => rw [ha] at hx; cases hx
    | some a =>
      rw [ha] at hx
      cases hx
      have hk : k < l.length := (List.getElem?_eq_some_iff.mp ha).1
      simp only [v_gN, v_tyes, if_true]
      refine h a (List.mem_of_getElem? ha) _ ⟨?_, rfl, ?_⟩
      · rw [List.length_map, List.length_take]
        omega
      · rw [List.take_add_one, ha, List.map_append]
        rfl
  · rintro acc n ⟨rfl, rfl⟩
    rw [List.length_map, List.take_length]
    exact hq
theorem lcE {α : Type} (l : List α) (e f : α → D) {ti : DI} {i : Nat} {te : DE} {ρ : Sl} {m : Nat} {QO : List D → Nat → Prop} (hti : ∀ Qi : List D → Nat → Prop, Qi (l.map e) m → ti ρ m Qi) (h : ∀ a ∈ l, ∀ Q : D → Nat → Prop, Q (f a) m → te ((wipeD ρ [i]).set i (some (.val (e a)))) m Q) (hl : l.length ≤ sizeLine) (hq : QO (l.map f) m) : dLc ti (gN i) tYesD te [i] ρ m QO :=
  hti _ (lc_map l e f h hl hq)
theorem forE {α : Type} (l : List α) (e : α → D) {ti : DI} {i : Nat} {tb : DS} {Dd : DEnds} {ρ : Sl} {m : Nat} (hti : ∀ Qi : List D → Nat → Prop, Qi (l.map e) m → ti ρ m Qi) (W : Nat → Sl → Nat → Prop) (w0 : W 0 ρ m)
    (turn : ∀ k a ρ n, l[k]? = some a → W k ρ n → tb { Dd with nx := W (k + 1), ct := W (k + 1), bk := Dd.nx } (ρ.set i (some (.val (e a)))) n) (fin : ∀ ρ n, W l.length ρ n → Dd.nx ρ n) : dFor ti (gN i) tb Dd ρ m := by
  refine hti _ ⟨W, w0, fun k x ρ n hx hw => ?_, fun ρ n hw => fin ρ n (by rw [List.length_map] at hw; exact hw)⟩
  rw [List.getElem?_map] at hx
  cases ha : l[k]? with
  | none => rw [ha] at hx; cases hx
  | some a =>
    rw [ha] at hx
    cases hx
    exact turn k a ρ n ha hw
theorem range_get {n k a : Nat} (h : (List.range n)[k]? = some a) : k < n ∧ a = k := by
  have hk : k < n := by simpa using (List.getElem?_eq_some_iff.mp h).1
  rw [List.getElem?_range hk] at h
  exact ⟨hk, (Option.some.inj h).symm⟩
theorem lc_any {i : Nat} {te : DE} {ρ : Sl} {m c : Nat} {items : List D} {QO : List D → Nat → Prop} (P : D → Prop) (h : ∀ x ∈ items, ∀ n, m ≤ n → n ≤ m + c * items.length → ∀ Q : D → Nat → Prop, (∀ y n', P y → n ≤ n' → n' ≤ n + c → Q y n') → te ((wipeD ρ [i]).set i (some (.val x))) n Q) (hl : items.length ≤ sizeLine)
    (hq : ∀ ys n, ys.length = items.length → (∀ y ∈ ys, P y) → m ≤ n → n ≤ m + c * items.length → QO ys n) :
    ∃ W : Nat → List D → Nat → Prop, W 0 [] m ∧ (∀ k x acc n, items[k]? = some x → W k acc n → gN i x (wipeD ρ [i]) fun ρ' => tYesD ρ' n fun b n1 => if b = true then te ρ' n1 fun y n2 => acc.length < sizeLine ∧ W (k + 1) (acc ++ [y]) n2 else W (k + 1) acc n1) ∧ ∀ acc n, W items.length acc n → QO acc n := by
  refine ⟨fun k acc n => acc.length = k ∧ (∀ y ∈ acc, P y) ∧ m ≤ n ∧ n ≤ m + c * k, ⟨rfl, fun y hy => by simp at hy, Nat.le_refl _, by omega⟩, ?_, ?_⟩
  · rintro k x acc n hx ⟨rfl, hP, h1, h2⟩
    have hk : acc.length < items.length := (List.getElem?_eq_some_iff.mp hx).1
    have hm : c * acc.length ≤ c * items.length := Nat.mul_le_mul_left _ (Nat.le_of_lt hk)
    simp only [v_gN, v_tyes, if_true]
    refine h x (List.mem_of_getElem? hx) n h1 (by omega) _ fun y n' hy h3 h4 => ⟨by omega, by simp, ?_, by omega, ?_⟩
    · intro z hz
      rcases List.mem_append.mp hz with hz | hz
      · exact hP z hz
      · rw [List.mem_singleton.mp hz]; exact hy
    · rw [Nat.mul_succ]; omega
  · rintro acc n ⟨e, hP, h1, h2⟩
    exact hq acc n e hP h1 h2
/-- what a loop has gathered -/
theorem accL {α : Type} (f : α → D) (l : List α) (hl : l.length ≤ sizeLine) : ∃ L : Nat → List D, L 0 = [] ∧ (∀ k a, l[k]? = some a → L (k + 1) = L k ++ [f a] ∧ (L k).length < sizeLine) ∧ L l.length = l.map f := by
  refine ⟨fun k => (l.take k).map f, rfl, fun k a h => ⟨?_, ?_⟩, by simp⟩
  · show (l.take (k + 1)).map f = _
    rw [List.take_add_one, h, List.map_append]
    rfl
  · have hk : k < l.length := (List.getElem?_eq_some_iff.mp h).1
    show ((l.take k).map f).length < sizeLine
    rw [List.length_map, List.length_take]
    omega
/-- .. several a turn -/
theorem accF {α : Type} (f : α → List D) (l : List α) {m : Nat} (hf : ∀ a ∈ l, (f a).length ≤ m) (hl : m * l.length ≤ sizeLine) : ∃ L : Nat → List D, L 0 = [] ∧ (∀ k a, l[k]? = some a → L (k + 1) = L k ++ f a ∧ (L k).length + (f a).length ≤ sizeLine) ∧ L l.length = l.flatMap f := by
  have bound : ∀ l : List α, (∀ a ∈ l, (f a).length ≤ m) → (l.flatMap f).length ≤ m * l.length := by
    intro l
    induction l with
    | nil => intro _; simp
    | cons a l ih =>
      intro h
      have h1 := h a List.mem_cons_self
      have h2 := ih fun b hb => h b (List.mem_cons_of_mem _ hb)
      rw [List.flatMap_cons, List.length_append, List.length_cons, Nat.mul_succ]
      omega
  refine ⟨fun k => (l.take k).flatMap f, rfl, fun k a h => ⟨?_, ?_⟩, by simp⟩
  · show (l.take (k + 1)).flatMap f = _
    rw [List.take_add_one, h, List.flatMap_append]
    simp
  · have hk : k < l.length := (List.getElem?_eq_some_iff.mp h).1
    have h1 := bound (l.take k) fun b hb => hf b (List.mem_of_mem_take hb)
    have h2 := hf a (List.mem_of_getElem? h)
    have h3 : (l.take k).length = k := by rw [List.length_take]; omega
    rw [h3] at h1
    have h4 : m * (k + 1) ≤ m * l.length := Nat.mul_le_mul_left _ hk
    rw [Nat.mul_succ] at h4
    show ((l.take k).flatMap f).length + (f a).length ≤ sizeLine
    omega
namespace Wi
theorem eqvT (xs ys : List PyData) : PyData.eqv (.tuple xs) (.tuple ys) = PyData.eqvAll xs ys := by rw [PyData.eqv]
theorem eqvL (xs ys : List PyData) : PyData.eqv (.list xs) (.list ys) = PyData.eqvAll xs ys := by rw [PyData.eqv]
theorem eqvC (x y : PyData) (xs ys : List PyData) : PyData.eqvAll (x :: xs) (y :: ys) = (PyData.eqv x y && PyData.eqvAll xs ys) := by rw [PyData.eqvAll]
theorem eqvN : PyData.eqvAll [] [] = true := by rw [PyData.eqvAll]
theorem eqvN1 (x : PyData) (xs : List PyData) : PyData.eqvAll (x :: xs) [] = false := by rw [PyData.eqvAll]
theorem eqvN2 (x : PyData) (xs : List PyData) : PyData.eqvAll [] (x :: xs) = false := by rw [PyData.eqvAll]
theorem eqv_enc : ∀ w v : Wi, PyData.eqv (enc w) (enc v) = decide (w = v) := by
  intro w
  induction w with
  | none => intro v; cases v <;> simp [enc, eqvT, eqvC, eqvN, eqvN1, eqvN2]
  | void => intro v; cases v <;> simp [enc, eqvT, eqvC, eqvN, eqvN1, eqvN2]
  | sign c => intro v; cases v <;> simp [enc, eqvT, eqvC, eqvN, eqvN1, eqvN2]
  | or a b h1 h2 => intro v; cases v <;> simp [enc, eqvT, eqvC, eqvN, eqvN1, eqvN2, h1, h2]
  | thn a b h1 h2 => intro v; cases v <;> simp [enc, eqvT, eqvC, eqvN, eqvN1, eqvN2, h1, h2]
  | star a h1 => intro v; cases v <;> simp [enc, eqvT, eqvC, eqvN, eqvN1, eqvN2, h1]
theorem enc_inj {w v : Wi} (h : enc w = enc v) : w = v := by
  have := eqv_enc w v
  rw [h, eqv_enc v v] at this
  simpa using this.symm
theorem lay_str (s : String) : PyData.strOk (Str.ofString s) = true := by
  rw [Str.ofString_eq_toList]
  simp only [PyData.strOk, List.all_toArray, List.all_eq_true, List.mem_map, decide_eq_true_eq]
  rintro _ ⟨c, _, rfl⟩
  have h := c.valid
  have : c.toNat.isValidChar := h
  rcases this with h | h
  · omega
  · exact h.2
theorem lay_sg {c : Nat} (h : c < 0x110000) : PyData.strOk (⟨#[c]⟩ : Str) = true := by simp [PyData.strOk, h]
theorem lay_enc : ∀ w : Wi, ok w → PyData.canLay0 (enc w) = true
  | none, _ => by simp only [enc, PyData.canLay0, PyData.canLayAll0, lay_str, Bool.and_true]
  | void, _ => by simp only [enc, PyData.canLay0, PyData.canLayAll0, lay_str, Bool.and_true]
  | sign c, h => by simp only [enc, PyData.canLay0, PyData.canLayAll0, lay_str, lay_sg h.1, Bool.and_true]
  | or a b, h => by simp only [enc, PyData.canLay0, PyData.canLayAll0, lay_str, Bool.and_true, lay_enc a h.1, lay_enc b h.2]
  | thn a b, h => by simp only [enc, PyData.canLay0, PyData.canLayAll0, lay_str, Bool.and_true, lay_enc a h.1, lay_enc b h.2]
  | star a, h => by simp only [enc, PyData.canLay0, PyData.canLayAll0, lay_str, Bool.and_true, lay_enc a h]
theorem depth_enc : ∀ w : Wi, PyData.depth (enc w) ≤ dep w + 1
  | none | void | sign _ => by simp [enc, PyData.depth, PyData.depthAll, dep]
  | or a b => by
    have := depth_enc a; have := depth_enc b
    simp only [enc, PyData.depth, PyData.depthAll, dep]; omega
  | thn a b => by
    have := depth_enc a; have := depth_enc b
    simp only [enc, PyData.depth, PyData.depthAll, dep]; omega
  | star a => by
    have := depth_enc a
    simp only [enc, PyData.depth, PyData.depthAll, dep]; omega
theorem shaped_enc {w : Wi} (h : ok w) (hd : dep w ≤ 60) : SeqAt.shaped (enc w) = true := by
  have := depth_enc w
  unfold SeqAt.shaped
  rw [lay_enc w h, decide_eq_true (by omega)]
  rfl
theorem gEq_enc {f : Bool → Bool} {w v : Wi} {Q : D → Prop} (h : ok w) (hd : dep w ≤ 60) (h' : ok v) (hd' : dep v ≤ 60) (q : Q (.bool (f (decide (w = v))))) : gEq f (enc w) (enc v) Q :=
  ⟨.inr ⟨shaped_enc h hd, shaped_enc h' hd'⟩, by rw [eqv_enc]; exact q⟩
theorem flat_enc : ∀ w : Wi, flatD (enc w) = true
  | none | void | sign _ => by simp [enc, flatD, flatDs]
  | or a b => by simp [enc, flatD, flatDs, flat_enc a, flat_enc b]
  | thn a b => by simp [enc, flatD, flatDs, flat_enc a, flat_enc b]
  | star a => by simp [enc, flatD, flatDs, flat_enc a]
theorem flats_enc : ∀ ws : List Wi, flatDs (ws.map enc) = true
  | [] => rfl
  | w :: ws => by simp [flatDs, flat_enc w, flats_enc ws]
theorem noDict_enc : ∀ w : Wi, noDict (enc w) = true
  | none | void | sign _ => by simp [enc, noDict, noDicts]
  | or a b => by simp [enc, noDict, noDicts, noDict_enc a, noDict_enc b]
  | thn a b => by simp [enc, noDict, noDicts, noDict_enc a, noDict_enc b]
  | star a => by simp [enc, noDict, noDicts, noDict_enc a]
theorem noDicts_enc : ∀ ws : List Wi, noDicts (ws.map enc) = true
  | [] => rfl
  | w :: ws => by simp [noDicts, noDict_enc w, noDicts_enc ws]
end Wi
end DL

/-! sets of wishes by their texts -/
namespace DL
open PySem PySem.W PyProof.Rows L2
namespace Wi
theorem text_inj {w v : Wi} (hw : ok w) (hv : ok v) (h : text w = text v) : w = v := by
  have ey : TL.tl (Str.ofString " ") = 32 :: [] := by decide +kernel
  have hk : (Str.ofString " ").cps.all (· < 256) = true := by decide +kernel
  have e1 := TL.split_join ey hk (words_ne w) fun p hp => words_free w hw p hp
  have e2 := TL.split_join ey hk (words_ne v) fun p hp => words_free v hv p hp
  have e3 : words w = words v := by
    unfold text at h
    rw [← e1, ← e2, h]
  exact (words_inj w v [] [] (by rw [e3])).1
def ins (acc : List Wi) (w : Wi) : List Wi := if w ∈ acc then acc else acc ++ [w]
def once (l : List Wi) : List Wi := l.foldl ins []
def ent (w : Wi) : D × D := (.str w.text, w.enc)
theorem mem_ins {acc : List Wi} {w v : Wi} : v ∈ ins acc w ↔ v ∈ acc ∨ v = w := by
  unfold ins
  split
  · rename_i h
    exact ⟨.inl, fun z => z.elim id fun e => by rw [e]; exact h⟩
  · simp
theorem mem_foldl : ∀ (l acc : List Wi) (v : Wi), v ∈ l.foldl ins acc ↔ v ∈ acc ∨ v ∈ l
  | [], acc, v => by simp
  | w :: l, acc, v => by
    rw [List.foldl_cons, mem_foldl l, mem_ins, List.mem_cons, or_assoc]
theorem mem_once {l : List Wi} {v : Wi} : v ∈ once l ↔ v ∈ l := by
  unfold once
  rw [mem_foldl]
  simp
theorem nodup_ins {acc : List Wi} {w : Wi} (h : acc.Nodup) : (ins acc w).Nodup := by
  unfold ins
  split
  · exact h
  · rename_i hn
    rw [List.nodup_append]
    exact ⟨h, by simp, fun a ha b hb => by rw [List.mem_singleton.mp hb]; exact fun e => hn (by rw [← e]; exact ha)⟩
theorem nodup_foldl : ∀ (l acc : List Wi), acc.Nodup → (l.foldl ins acc).Nodup
  | [], acc, h => h
  | w :: l, acc, h => nodup_foldl l _ (nodup_ins h)
theorem nodup_once (l : List Wi) : (once l).Nodup := nodup_foldl l [] List.nodup_nil
theorem len_ins (acc : List Wi) (w : Wi) : (ins acc w).length ≤ acc.length + 1 := by
  unfold ins; split
  · omega
  · simp
theorem len_foldl : ∀ (l acc : List Wi), (l.foldl ins acc).length ≤ acc.length + l.length
  | [], acc => by simp
  | w :: l, acc => by
    have h1 := len_foldl l (ins acc w)
    have h2 := len_ins acc w
    rw [List.foldl_cons, List.length_cons]
    omega
theorem len_once (l : List Wi) : (once l).length ≤ l.length := by
  have := len_foldl l []
  simpa [once] using this
theorem any_ent {acc : List Wi} {w : Wi} (ha : ∀ v ∈ acc, ok v) (hw : ok w) : ((acc.map ent).any fun p => kEq p.1 (.str w.text)) = decide (w ∈ acc) := by
  rw [Bool.eq_iff_iff]
  simp only [List.any_eq_true, List.mem_map, decide_eq_true_eq]
  constructor
  · rintro ⟨p, ⟨v, hv, rfl⟩, h⟩
    have e : v.text = w.text := by simpa [ent, kEq] using h
    rw [← text_inj (ha v hv) hw e]
    exact hv
  · intro h
    exact ⟨_, ⟨w, h, rfl⟩, by simp [ent, kEq]⟩
theorem put_ent {acc : List Wi} {w : Wi} (ha : ∀ v ∈ acc, ok v) (hw : ok w) : dPut (acc.map ent) (.str w.text) w.enc = (ins acc w).map ent := by
  unfold dPut ins
  rw [any_ent ha hw]
  by_cases h : w ∈ acc
  · rw [if_pos (decide_eq_true h), if_pos h]
    rw [List.map_map]
    refine List.map_congr_left fun v hv => ?_
    show (if kEq (.str v.text) (.str w.text) = true then ((.str v.text : D), w.enc) else ent v) = ent v
    by_cases e : v.text = w.text
    · have e2 := text_inj (ha v hv) hw e
      subst e2
      simp [kEq, ent]
    · rw [if_neg (by simpa [kEq] using e)]
  · rw [if_neg (by simpa using h), if_neg h, List.map_append]
    rfl
theorem look_ent {w : Wi} : ∀ {acc : List Wi}, (∀ v ∈ acc, ok v) → ok w → w ∈ acc → dLook (acc.map ent) (.str w.text) = some w.enc
  | v :: acc, ha, hw, hm => by
    unfold dLook
    by_cases e : v.text = w.text
    · have e2 := text_inj (ha v List.mem_cons_self) hw e
      subst e2
      rw [List.map_cons, List.find?_cons_of_pos (by simp [ent, kEq])]
      rfl
    · rw [List.map_cons, List.find?_cons_of_neg (by simpa [ent, kEq] using e)]
      have hm' : w ∈ acc := (List.mem_cons.mp hm).resolve_left fun z => e (by rw [z])
      exact look_ent (fun u hu => ha u (List.mem_cons_of_mem _ hu)) hw hm'
/-- in the order of their texts -/
def srt (l : List Wi) : List Wi := (once l).mergeSort fun a b => dataLe false (fun x => PyData.str x) a.text b.text
theorem mem_srt {l : List Wi} {v : Wi} : v ∈ srt l ↔ v ∈ l := by
  unfold srt
  rw [List.mem_mergeSort, mem_once]
theorem len_srt (l : List Wi) : (srt l).length ≤ l.length := by
  unfold srt
  rw [List.length_mergeSort]
  exact len_once l
theorem nodup_srt (l : List Wi) : (srt l).Nodup := (List.mergeSort_perm _ _).nodup_iff.mpr (nodup_once l)
theorem srt_texts (l : List Wi) : srtS ((once l).map text) = (srt l).map text := by
  unfold srt srtS
  exact (List.map_mergeSort (f := text) (r := fun a b => dataLe false (fun x => PyData.str x) a.text b.text) (s := dataLe false fun x => PyData.str x) fun a _ b _ => rfl).symm
theorem keys_ent (l : List Wi) : (l.map ent).map (·.1) = (l.map text).map PyData.str := by
  rw [List.map_map, List.map_map]
  rfl
end Wi
end DL

namespace K85
open PySem PySem.W PyProof.Rows L2 DL RT
def top (i : Nat) : Stmt := PySem.Challenge.pw_manyways_k85_parts_of_wishes.main.body.getD i (.Pass ⟨0, 0, 0, 0⟩)

abbrev sshown_wish : Stmt := top 1
abbrev n_shown_wish : List Str := ["wish", "words", "pile", "one"]
abbrev p_shown_wish : List Str := ["wish"]
theorem sc_shown_wish : FnScope n_shown_wish p_shown_wish (defScope sshown_wish) := ⟨rfl, rfl, rfl, by decide +kernel, rfl, by decide +kernel, by decide +kernel⟩
theorem bi_shown_wish : BindsOk "shown_wish" sshown_wish p_shown_wish := fun _ _ _ _ _ _ us hl => match us, hl with | [_], _ => rfl
def d_shown_wish   : DS := (dSeq (dSetO 1 (dLst dNil))
    (dSeq (dSetO 2 (dLst (dCons (dVar 0) dNil)))
    (dSeq (dWh (tBoolD (dOp (gCmp fun i j => decide (j < i)) (d1 gLen (dVarB 2)) (dC (.int 0))))
    (dSeq (dPop 3 2)
    (dIfS (tBoolD (dOp (gEq id) (dOp gIx (dVarB 3) (dC (.int 0))) (dC (.str "sign"))))
    (dApp 1 (dOp gIx (dVarB 3) (dC (.int 1))))
    (dSeq (dApp 1 (dOp gIx (dVarB 3) (dC (.int 0))))
    (dExt 2 (dList (dRevT (dSl (dVarB 3) (dPt (dC (.int 1))) dNoPt))))))))
    (dRet (dJoin (dC (.str " ")) (dVarB 1))))))
theorem b_shown_wish {P : Program} {w : World} {K : PySem.W.Frag} {mg : Str → Option Value} {base : Heap} {k : Nat} (m_len : mg "len" = none) (m_list : mg "list" = none) (m_reversed : mg "reversed" = none) : ∀ (f : Addr) (cdv : Value) (A : Around) (outer : List Env) (s : Shared) (H : Hp) (E : XK), Room k (A.deeper (envOfC "shown_wish" (defScope sshown_wish) s.heap.objs.size f cdv)) → RSs (cxOf CX0 P w K mg base n_shown_wish "shown_wish" (defScope sshown_wish) f cdv A outer s H E).nox (defBody sshown_wish) (d_shown_wish ) := by
  intro f cdv A outer s H E hr
  have hu := hr.units
  have hu1 := hu_of hr
  have hu65 : (A.deeper (envOfC "shown_wish" (defScope sshown_wish) s.heap.objs.size f cdv)).units + 65 < cLine := by have := hr.un; omega
  have nd := sc_shown_wish.nd
  exact (rss_cons (rs_setO (ps_set (i := 1) nd rfl (.inl rfl) (ro_lst rl_nil)))
    (rss_cons (rs_setO (ps_set (i := 2) nd rfl (.inl rfl) (ro_lst (rl_cons (re_var (pv 0)) rl_nil))))
    (rss_cons (rs_while PassesOwn.never (rt_gt (RE.toB (re_len m_len (rb_var (pv 2)))) (RE.toB re_int))
    (rss_cons (rs_pop (ps_set (i := 3) nd rfl (.inl rfl) (pe_bm0 PySem.F.plainAttrs_list PySem.F.slot_list_pop PySem.F.type_list_pop mt_pop (pv 2))))
    (rss_one (rs_if (rt_eq hu (RE.toB (re_ix (rb_var (pv 3)) (RE.toB re_int))) (RE.toB re_str))
    (rss_one (rs_app (ps_expr (pe_bm PySem.F.plainAttrs_list PySem.F.slot_list_append PySem.F.type_list_append mt_append (pv 1) (pa_cons (re_ix (rb_var (pv 3)) (RE.toB re_int)) pa_nil)))))
    (rss_cons (rs_app (ps_expr (pe_bm PySem.F.plainAttrs_list PySem.F.slot_list_append PySem.F.type_list_append mt_append (pv 1) (pa_cons (re_ix (rb_var (pv 3)) (RE.toB re_int)) pa_nil))))
    (rss_one (rs_ext (ps_expr (pe_bm PySem.F.plainAttrs_list PySem.F.slot_list_extend PySem.F.type_list_extend mt_extend (pv 2) (pa_cons (RE.toB (RO.toE (ro_listRev rfl m_list m_reversed (RE.toB (re_sl (rb_var (pv 3)) (rp_some (RE.toB re_int)) rp_none))))) pa_nil))))))))))
    (rss_one (rs_ret (re_join re_str (rb_var (pv 1))))))))
abbrev stakes_void : Stmt := top 4
abbrev n_takes_void : List Str := ["wish"]
abbrev p_takes_void : List Str := ["wish"]
theorem sc_takes_void : FnScope n_takes_void p_takes_void (defScope stakes_void) := ⟨rfl, rfl, rfl, by decide +kernel, rfl, by decide +kernel, by decide +kernel⟩
theorem bi_takes_void : BindsOk "takes_void" stakes_void p_takes_void := fun _ _ _ _ _ _ us hl => match us, hl with | [_], _ => rfl
def d_takes_void (s_takes_void : PSp)  : DS := (dSeq (dIfS (tBoolD (dOp (gEq id) (dOp gIx (dVarB 0) (dC (.int 0))) (dC (.str "or"))))
    (dRet (dOr (dCallP s_takes_void (dCons (dOp gIx (dVarB 0) (dC (.int 1))) dNil)) (dCallP s_takes_void (dCons (dOp gIx (dVarB 0) (dC (.int 2))) dNil))))
    dNext)
    (dSeq (dIfS (tBoolD (dOp (gEq id) (dOp gIx (dVarB 0) (dC (.int 0))) (dC (.str "then"))))
    (dRet (dAnd (dCallP s_takes_void (dCons (dOp gIx (dVarB 0) (dC (.int 1))) dNil)) (dCallP s_takes_void (dCons (dOp gIx (dVarB 0) (dC (.int 2))) dNil))))
    dNext)
    (dRet (dOp (gIn id) (dOp gIx (dVarB 0) (dC (.int 0))) (dTup (dCons (dC (.str "void")) (dCons (dC (.str "again")) dNil)))))))
theorem b_takes_void {P : Program} {w : World} {K : PySem.W.Frag} {mg : Str → Option Value} {base : Heap} {k : Nat} {s_takes_void : PSp} (c_takes_void : CalS P w K mg base k "takes_void" (SpP ⟨P, w, K⟩ s_takes_void)) : ∀ (f : Addr) (cdv : Value) (A : Around) (outer : List Env) (s : Shared) (H : Hp) (E : XK), Room k (A.deeper (envOfC "takes_void" (defScope stakes_void) s.heap.objs.size f cdv)) → RSs (cxOf CX0 P w K mg base n_takes_void "takes_void" (defScope stakes_void) f cdv A outer s H E).nox (defBody stakes_void) (d_takes_void s_takes_void) := by
  intro f cdv A outer s H E hr
  have hu := hr.units
  have hu1 := hu_of hr
  have hu65 : (A.deeper (envOfC "takes_void" (defScope stakes_void) s.heap.objs.size f cdv)).units + 65 < cLine := by have := hr.un; omega
  have nd := sc_takes_void.nd
  exact (rss_cons (rs_if (rt_eq hu (RE.toB (re_ix (rb_var (pv 0)) (RE.toB re_int))) (RE.toB re_str))
    (rss_one (rs_ret (re_or (re_cP c_takes_void hr (rl_cons (re_ix (rb_var (pv 0)) (RE.toB re_int)) rl_nil)) (re_one (re_cP c_takes_void hr (rl_cons (re_ix (rb_var (pv 0)) (RE.toB re_int)) rl_nil))))))
    rss_nil)
    (rss_cons (rs_if (rt_eq hu (RE.toB (re_ix (rb_var (pv 0)) (RE.toB re_int))) (RE.toB re_str))
    (rss_one (rs_ret (re_and (re_cP c_takes_void hr (rl_cons (re_ix (rb_var (pv 0)) (RE.toB re_int)) rl_nil)) (re_one (re_cP c_takes_void hr (rl_cons (re_ix (rb_var (pv 0)) (RE.toB re_int)) rl_nil))))))
    rss_nil)
    (rss_one (rs_ret (re_in hu65 (RE.toB (re_ix (rb_var (pv 0)) (RE.toB re_int))) (RE.toB (re_tup (rl_cons re_str (rl_cons re_str rl_nil)))))))))
abbrev sjoined_on : Stmt := top 5
abbrev n_joined_on : List Str := ["some", "wish", "found", "one"]
abbrev p_joined_on : List Str := ["some", "wish"]
theorem sc_joined_on : FnScope n_joined_on p_joined_on (defScope sjoined_on) := ⟨rfl, rfl, rfl, by decide +kernel, rfl, by decide +kernel, by decide +kernel⟩
theorem bi_joined_on : BindsOk "joined_on" sjoined_on p_joined_on := fun _ _ _ _ _ _ us hl => match us, hl with | [_, _], _ => rfl
def d_joined_on  (g_VOID : D) : DS := (dSeq (dSetO 2 (dLst dNil))
    (dSeq (dFor (diSeq (dVar 0)) (gN 3)
    (dIfS (tBoolD (dOp (gEq id) (dVarB 3) (dC g_VOID)))
    (dApp 2 (dVar 1))
    (dApp 2 (dTup (dCons (dC (.str "then")) (dCons (dVar 3) (dCons (dVar 1) dNil)))))))
    (dFrz 2 (dRet (dVar 2)))))
theorem b_joined_on {P : Program} {w : World} {K : PySem.W.Frag} {mg : Str → Option Value} {base : Heap} {k : Nat} {g_VOID : D} (hg_VOID : ∀ {X : Cx} {p : Pos}, X.K = K → X.mg = mg → Gl X "VOID" → RE X (.Name "VOID" p) (dC g_VOID)) : ∀ (f : Addr) (cdv : Value) (A : Around) (outer : List Env) (s : Shared) (H : Hp) (E : XK), Room k (A.deeper (envOfC "joined_on" (defScope sjoined_on) s.heap.objs.size f cdv)) → RSs (cxOf CX0 P w K mg base n_joined_on "joined_on" (defScope sjoined_on) f cdv A outer s H E).nox (defBody sjoined_on) (d_joined_on g_VOID) := by
  intro f cdv A outer s H E hr
  have hu := hr.units
  have hu1 := hu_of hr
  have hu65 : (A.deeper (envOfC "joined_on" (defScope sjoined_on) s.heap.objs.size f cdv)).units + 65 < cLine := by have := hr.un; omega
  have nd := sc_joined_on.nd
  exact (rss_cons (rs_setO (ps_set (i := 2) nd rfl (.inl rfl) (ro_lst rl_nil)))
    (rss_cons (rs_for PassesOwn.never rfl (ri_seq (re_var (pv 0))) (rg_n (pg_name (i := 3) nd rfl (.inl rfl)))
    (rss_one (rs_if (rt_eq hu (rb_var (pv 3)) (RE.toB (hg_VOID rfl rfl (by rfl))))
    (rss_one (rs_app (ps_expr (pe_bm PySem.F.plainAttrs_list PySem.F.slot_list_append PySem.F.type_list_append mt_append (pv 2) (pa_cons (re_var (pv 1)) pa_nil)))))
    (rss_one (rs_app (ps_expr (pe_bm PySem.F.plainAttrs_list PySem.F.slot_list_append PySem.F.type_list_append mt_append (pv 2) (pa_cons (re_tup (rl_cons re_str (rl_cons (re_var (pv 3)) (rl_cons (re_var (pv 1)) rl_nil)))) pa_nil))))))))
    (rss_frz (i := 2) (rss_one (rs_ret (re_var (pv 2)))))))
abbrev sparts_of : Stmt := top 6
abbrev n_parts_of : List Str := ["wish", "sign", "found"]
abbrev p_parts_of : List Str := ["wish", "sign"]
theorem sc_parts_of : FnScope n_parts_of p_parts_of (defScope sparts_of) := ⟨rfl, rfl, rfl, by decide +kernel, rfl, by decide +kernel, by decide +kernel⟩
theorem bi_parts_of : BindsOk "parts_of" sparts_of p_parts_of := fun _ _ _ _ _ _ us hl => match us, hl with | [_, _], _ => rfl
def d_parts_of (s_joined_on : PSp) (s_parts_of : PSp) (s_takes_void : PSp) (g_VOID : D) : DS := (dSeq (dIfS (tBoolD (dOp (gEq id) (dOp gIx (dVarB 0) (dC (.int 0))) (dC (.str "sign"))))
    (dRet (dIf (tBoolD (dOp (gEq id) (dOp gIx (dVarB 0) (dC (.int 1))) (dVarB 1))) (dList (dLst (dCons (dC g_VOID) dNil))) (dList (dLst dNil))))
    dNext)
    (dSeq (dIfS (tBoolD (dOp (gEq id) (dOp gIx (dVarB 0) (dC (.int 0))) (dC (.str "or"))))
    (dRet (dList (dOpO gCat (dCallP s_parts_of (dCons (dOp gIx (dVarB 0) (dC (.int 1))) (dCons (dVar 1) dNil))) (dCallP s_parts_of (dCons (dOp gIx (dVarB 0) (dC (.int 2))) (dCons (dVar 1) dNil))))))
    dNext)
    (dSeq (dIfS (tBoolD (dOp (gEq id) (dOp gIx (dVarB 0) (dC (.int 0))) (dC (.str "again"))))
    (dRet (dCallP s_joined_on (dCons (dCallP s_parts_of (dCons (dOp gIx (dVarB 0) (dC (.int 1))) (dCons (dVar 1) dNil))) (dCons (dVar 0) dNil))))
    dNext)
    (dSeq (dIfS (tBoolD (dOp (gEq not) (dOp gIx (dVarB 0) (dC (.int 0))) (dC (.str "then"))))
    (dRet (dList (dLst dNil)))
    dNext)
    (dSeq (dSet 2 (dCallP s_joined_on (dCons (dCallP s_parts_of (dCons (dOp gIx (dVarB 0) (dC (.int 1))) (dCons (dVar 1) dNil))) (dCons (dOp gIx (dVarB 0) (dC (.int 2))) dNil))))
    (dSeq (dIfS (tBoolD (dCallP s_takes_void (dCons (dOp gIx (dVarB 0) (dC (.int 1))) dNil)))
    (dSet 2 (dList (dOpO gCat (dVarB 2) (dCallP s_parts_of (dCons (dOp gIx (dVarB 0) (dC (.int 2))) (dCons (dVar 1) dNil))))))
    dNext)
    (dRet (dVar 2))))))))
theorem b_parts_of {P : Program} {w : World} {K : PySem.W.Frag} {mg : Str → Option Value} {base : Heap} {k : Nat} {s_joined_on : PSp} (c_joined_on : CalS P w K mg base k "joined_on" (SpP ⟨P, w, K⟩ s_joined_on)) {s_parts_of : PSp} (c_parts_of : CalS P w K mg base k "parts_of" (SpP ⟨P, w, K⟩ s_parts_of)) {s_takes_void : PSp} (c_takes_void : CalS P w K mg base k "takes_void" (SpP ⟨P, w, K⟩ s_takes_void)) {g_VOID : D} (hg_VOID : ∀ {X : Cx} {p : Pos}, X.K = K → X.mg = mg → Gl X "VOID" → RE X (.Name "VOID" p) (dC g_VOID)) : ∀ (f : Addr) (cdv : Value) (A : Around) (outer : List Env) (s : Shared) (H : Hp) (E : XK), Room k (A.deeper (envOfC "parts_of" (defScope sparts_of) s.heap.objs.size f cdv)) → RSs (cxOf CX0 P w K mg base n_parts_of "parts_of" (defScope sparts_of) f cdv A outer s H E).nox (defBody sparts_of) (d_parts_of s_joined_on s_parts_of s_takes_void g_VOID) := by
  intro f cdv A outer s H E hr
  have hu := hr.units
  have hu1 := hu_of hr
  have hu65 : (A.deeper (envOfC "parts_of" (defScope sparts_of) s.heap.objs.size f cdv)).units + 65 < cLine := by have := hr.un; omega
  have nd := sc_parts_of.nd
  exact (rss_cons (rs_if (rt_eq hu (RE.toB (re_ix (rb_var (pv 0)) (RE.toB re_int))) (RE.toB re_str))
    (rss_one (rs_ret (re_if (rt_eq hu (RE.toB (re_ix (rb_var (pv 0)) (RE.toB re_int))) (rb_var (pv 1))) (RO.toE (ro_lst (rl_cons (hg_VOID rfl rfl (by rfl)) rl_nil))) (RO.toE (ro_lst rl_nil)))))
    rss_nil)
    (rss_cons (rs_if (rt_eq hu (RE.toB (re_ix (rb_var (pv 0)) (RE.toB re_int))) (RE.toB re_str))
    (rss_one (rs_ret (RO.toE (ro_cat (RE.toB (re_cP c_parts_of hr (rl_cons (re_ix (rb_var (pv 0)) (RE.toB re_int)) (rl_cons (re_var (pv 1)) rl_nil)))) (RE.toB (re_cP c_parts_of hr (rl_cons (re_ix (rb_var (pv 0)) (RE.toB re_int)) (rl_cons (re_var (pv 1)) rl_nil))))))))
    rss_nil)
    (rss_cons (rs_if (rt_eq hu (RE.toB (re_ix (rb_var (pv 0)) (RE.toB re_int))) (RE.toB re_str))
    (rss_one (rs_ret (re_cP c_joined_on hr (rl_cons (re_cP c_parts_of hr (rl_cons (re_ix (rb_var (pv 0)) (RE.toB re_int)) (rl_cons (re_var (pv 1)) rl_nil))) (rl_cons (re_var (pv 0)) rl_nil)))))
    rss_nil)
    (rss_cons (rs_if (rt_ne hu (RE.toB (re_ix (rb_var (pv 0)) (RE.toB re_int))) (RE.toB re_str))
    (rss_one (rs_ret (RO.toE (ro_lst rl_nil))))
    rss_nil)
    (rss_cons (rs_set (ps_set (i := 2) nd rfl (.inl rfl) (re_cP c_joined_on hr (rl_cons (re_cP c_parts_of hr (rl_cons (re_ix (rb_var (pv 0)) (RE.toB re_int)) (rl_cons (re_var (pv 1)) rl_nil))) (rl_cons (re_ix (rb_var (pv 0)) (RE.toB re_int)) rl_nil)))))
    (rss_cons (rs_if (rt_val (re_cP c_takes_void hr (rl_cons (re_ix (rb_var (pv 0)) (RE.toB re_int)) rl_nil)))
    (rss_one (rs_set (ps_set (i := 2) nd rfl (.inl rfl) (RO.toE (ro_cat (rb_var (pv 2)) (RE.toB (re_cP c_parts_of hr (rl_cons (re_ix (rb_var (pv 0)) (RE.toB re_int)) (rl_cons (re_var (pv 1)) rl_nil)))))))))
    rss_nil)
    (rss_one (rs_ret (re_var (pv 2))))))))))
abbrev sparts_behind : Stmt := top 7
abbrev n_parts_behind : List Str := ["wishes", "sign", "found", "wish", "part", "text"]
abbrev p_parts_behind : List Str := ["wishes", "sign"]
theorem sc_parts_behind : FnScope n_parts_behind p_parts_behind (defScope sparts_behind) := ⟨rfl, rfl, rfl, by decide +kernel, rfl, by decide +kernel, by decide +kernel⟩
theorem bi_parts_behind : BindsOk "parts_behind" sparts_behind p_parts_behind := fun _ _ _ _ _ _ us hl => match us, hl with | [_, _], _ => rfl
def d_parts_behind (s_parts_of : PSp) (s_shown_wish : PSp)  : DS := (dSeq (dNewD 2)
    (dSeq (dFor (diSeq (dVar 0)) (gN 3)
    (dFor (diSeq (dCallP s_parts_of (dCons (dVar 3) (dCons (dVar 1) dNil)))) (gN 4)
    (dDPut 2 (dCallP s_shown_wish (dCons (dVar 4) dNil)) (dVar 4))))
    (dRet (d1 gTuple (dList (dLc (diSeq (dList (d1O gSortD (dVarB 2)))) (gN 5) tYesD (dDGet (dVarB 2) (dVar 5)) [5]))))))
theorem b_parts_behind {P : Program} {w : World} {K : PySem.W.Frag} {mg : Str → Option Value} {base : Heap} {k : Nat} {s_parts_of : PSp} (c_parts_of : CalS P w K mg base k "parts_of" (SpP ⟨P, w, K⟩ s_parts_of)) {s_shown_wish : PSp} (c_shown_wish : CalS P w K mg base k "shown_wish" (SpP ⟨P, w, K⟩ s_shown_wish)) (m_sorted : mg "sorted" = none) (m_tuple : mg "tuple" = none) : ∀ (f : Addr) (cdv : Value) (A : Around) (outer : List Env) (s : Shared) (H : Hp) (E : XK), Room k (A.deeper (envOfC "parts_behind" (defScope sparts_behind) s.heap.objs.size f cdv)) → RSs (cxOf CX0 P w K mg base n_parts_behind "parts_behind" (defScope sparts_behind) f cdv A outer s H E).nox (defBody sparts_behind) (d_parts_behind s_parts_of s_shown_wish) := by
  intro f cdv A outer s H E hr
  have hu := hr.units
  have hu1 := hu_of hr
  have hu65 : (A.deeper (envOfC "parts_behind" (defScope sparts_behind) s.heap.objs.size f cdv)).units + 65 < cLine := by have := hr.un; omega
  have nd := sc_parts_behind.nd
  exact (rss_cons (rs_newD (ps_set (i := 2) nd rfl (.inr rfl) pe_dnewK))
    (rss_cons (rs_for PassesOwn.never rfl (ri_seq (re_var (pv 0))) (rg_n (pg_name (i := 3) nd rfl (.inl rfl)))
    (rss_one (rs_for PassesOwn.never rfl (ri_seq (re_cP c_parts_of hr (rl_cons (re_var (pv 3)) (rl_cons (re_var (pv 1)) rl_nil)))) (rg_n (pg_name (i := 4) nd rfl (.inl rfl)))
    (rss_one (rs_dput (ps_dput hu1 (pv 2) (re_cP c_shown_wish hr (rl_cons (re_var (pv 4)) rl_nil)) (re_var (pv 4)) (by rfl)))))))
    (rss_one (rs_ret (re_tuple m_tuple (RE.toB (RO.toE (ro_lc (pe_lc (own := [("text", 5)]) rfl nd (rib_seq (RE.toB (RO.toE (ro_sortD rfl hu m_sorted (rb_var (pv 2)))))) (blkOk_by (N := n_parts_behind) (sc := defScope sparts_behind) (by decide +kernel)) (fun _ _ _ _ _ => (pg_name (i := 5) nd rfl (.inl rfl))) (fun _ _ _ _ _ => rts_nil) (fun _ _ _ _ _ => (re_dget hu (rb_var (pv 2)) (re_var (pv 5)) (fun _ _ => rfl)))) (gok_n (by simp))))))))))
abbrev s_law_tape : Stmt := top 9
abbrev n__law_tape : List Str := ["_law_script"]
abbrev p__law_tape : List Str := ["_law_script"]
theorem sc__law_tape : FnScope n__law_tape p__law_tape (defScope s_law_tape) := ⟨rfl, rfl, rfl, by decide +kernel, rfl, by decide +kernel, by decide +kernel⟩
theorem bi__law_tape : BindsOk "_law_tape" s_law_tape p__law_tape := fun _ _ _ _ _ _ us hl => match us, hl with | [_], _ => rfl
theorem b__law_tape {P : Program} {w : World} {K : PySem.W.Frag} {mg : Str → Option Value} {base : Heap} {k : Nat} : ∀ (f : Addr) (cdv : Value) (A : Around) (outer : List Env) (s : Shared) (H : Hp) (E : XK), Room k (A.deeper (envOfC "_law_tape" (defScope s_law_tape) s.heap.objs.size f cdv)) → PSs (cxOf CX0 P w K mg base n__law_tape "_law_tape" (defScope s_law_tape) f cdv A outer s H E).nox (defBody s_law_tape) (tTape K) := by
  intro f cdv A outer s H E hr
  have hu := hr.units
  have hu1 := hu_of hr
  have hu65 : (A.deeper (envOfC "_law_tape" (defScope s_law_tape) s.heap.objs.size f cdv)).units + 65 < cLine := by have := hr.un; omega
  have nd := sc__law_tape.nd
  exact (pss_one (ps_ret (pe_lst (pa_cons (pe_slice sl_list (pv 0) po_none (po_some pe_int)) (pa_cons pe_int (pa_cons pe_int pa_nil))))))
abbrev s_law_draw : Stmt := top 10
abbrev n__law_draw : List Str := ["_law_tape_here", "_law_many", "_law_found", "_law_spot", "_law_cell", "_law_stirred"]
abbrev p__law_draw : List Str := ["_law_tape_here", "_law_many"]
theorem sc__law_draw : FnScope n__law_draw p__law_draw (defScope s_law_draw) := ⟨rfl, rfl, rfl, by decide +kernel, rfl, by decide +kernel, by decide +kernel⟩
theorem bi__law_draw : BindsOk "_law_draw" s_law_draw p__law_draw := fun _ _ _ _ _ _ us hl => match us, hl with | [_, _], _ => rfl
theorem b__law_draw {P : Program} {w : World} {K : PySem.W.Frag} {mg : Str → Option Value} {base : Heap} {k : Nat} (m_len : mg "len" = none) : ∀ (f : Addr) (cdv : Value) (A : Around) (outer : List Env) (s : Shared) (H : Hp) (E : XK), Room k (A.deeper (envOfC "_law_draw" (defScope s_law_draw) s.heap.objs.size f cdv)) → PSs (cxOf CX0 P w K mg base n__law_draw "_law_draw" (defScope s_law_draw) f cdv A outer s H E).nox (defBody s_law_draw) (tDraw K (29) (11) (6271)) := by
  intro f cdv A outer s H E hr
  have hu := hr.units
  have hu1 := hu_of hr
  have hu65 : (A.deeper (envOfC "_law_draw" (defScope s_law_draw) s.heap.objs.size f cdv)).units + 65 < cLine := by have := hr.un; omega
  have nd := sc__law_draw.nd
  exact (pss_cons (ps_if (pt_cmpR op_gt (pe_ix ix_seq (pv 0) pe_int (fun _ _ => rfl)) pe_int (nomark _)) (pss_cons (ps_set (i := 2) nd rfl (.inl rfl) (pe_op op_mod (pe_ix ix_seq (pv 0) pe_int (fun _ _ => rfl)) (pv 1))) (pss_cons (ps_asg (pe_op op_fdiv (pe_ix ix_seq (pv 0) pe_int (fun _ _ => rfl)) (pv 1)) (pg_sub (pv 0) pe_int set_list)) (pss_one (ps_ret (pv 2))))) pss_nil)
  (pss_cons (ps_set (i := 3) nd rfl (.inl rfl) (pe_ix ix_seq (pv 0) pe_int (fun _ _ => rfl)))
  (pss_cons (ps_asg (pe_op op_add (pv 3) pe_int) (pg_sub (pv 0) pe_int set_list))
  (pss_cons (ps_set (i := 4) nd rfl (.inl rfl) pe_int)
  (pss_cons (ps_if (pt_cmpR op_gt (pe_callB cr_lenX (by rfl) m_len PySem.boot_len (pa_cons (pe_ix ix_seq (pv 0) pe_int (fun _ _ => rfl)) pa_nil)) pe_int (nomark _)) (pss_one (ps_set (i := 4) nd rfl (.inl rfl) (pe_ix ix_seq (pe_ix ix_seq (pv 0) pe_int (fun _ _ => rfl)) (pe_op op_mod (pv 3) (pe_callB cr_lenX (by rfl) m_len PySem.boot_len (pa_cons (pe_ix ix_seq (pv 0) pe_int (fun _ _ => rfl)) pa_nil))) (fun _ _ => rfl)))) pss_nil)
  (pss_cons (ps_if (PW.pt (pw_and (pt_cmpR op_ge (pv 4) (pe_op op_pow pe_int pe_int) (nomark _)) (pw_and1 (pt_cmpR op_lt (pv 3) (pe_callB cr_lenX (by rfl) m_len PySem.boot_len (pa_cons (pe_ix ix_seq (pv 0) pe_int (fun _ _ => rfl)) pa_nil)) (nomark _))))) (pss_cons (ps_asg (pe_op op_fdiv (pv 4) (pv 1)) (pg_sub (pv 0) pe_int set_list)) (pss_one (ps_ret (pe_op op_mod (pv 4) (pv 1))))) pss_nil)
  (pss_cons (ps_set (i := 5) nd rfl (.inl rfl) (pe_op op_mod (pe_op op_mul (pe_op op_add (pe_op op_add (pe_op op_mod (pv 4) pe_int) (pe_op op_mul (pe_op op_mul pe_int (pv 3)) (pv 3))) pe_int) pe_int) pe_int))
  (pss_one (ps_ret (pe_op op_mod (pe_op op_mod (pe_op op_mul (pe_op op_mod (pe_op op_add (pe_op op_mul (pv 5) pe_int) (pe_op op_mul (pv 3) pe_int)) pe_int) pe_int) pe_int) (pv 1)))))))))))
abbrev s_law_words : Stmt := top 11
abbrev n__law_words : List Str := ["_law_signs", "_law_most", "_law_found", "_law_at", "_law_sign"]
abbrev p__law_words : List Str := ["_law_signs", "_law_most"]
theorem sc__law_words : FnScope n__law_words p__law_words (defScope s_law_words) := ⟨rfl, rfl, rfl, by decide +kernel, rfl, by decide +kernel, by decide +kernel⟩
theorem bi__law_words : BindsOk "_law_words" s_law_words p__law_words := fun _ _ _ _ _ _ us hl => match us, hl with | [_, _], _ => rfl
def d__law_words   : DS := (dSeq (dSetO 2 (dLst (dCons (dC (.str "")) dNil)))
    (dSeq (dSet 3 (dC (.int 0)))
    (dSeq (dWh (tBoolD (dOp (gCmp fun i j => decide (i < j)) (d1 gLen (dOp gIx (dVarB 2) (dVarB 3))) (dVarB 1)))
    (dSeq (dExt 2 (dList (dLc (diSeq (dVarB 0)) (gN 4) tYesD (dOp gAdd (dOp gIx (dVarB 2) (dVarB 3)) (dVarB 4)) [4])))
    (dSet 3 (dOp gAdd (dVarB 3) (dC (.int 1))))))
    (dFrz 2 (dRet (dVar 2))))))
theorem b__law_words {P : Program} {w : World} {K : PySem.W.Frag} {mg : Str → Option Value} {base : Heap} {k : Nat} (m_len : mg "len" = none) : ∀ (f : Addr) (cdv : Value) (A : Around) (outer : List Env) (s : Shared) (H : Hp) (E : XK), Room k (A.deeper (envOfC "_law_words" (defScope s_law_words) s.heap.objs.size f cdv)) → RSs (cxOf CX0 P w K mg base n__law_words "_law_words" (defScope s_law_words) f cdv A outer s H E).nox (defBody s_law_words) (d__law_words ) := by
  intro f cdv A outer s H E hr
  have hu := hr.units
  have hu1 := hu_of hr
  have hu65 : (A.deeper (envOfC "_law_words" (defScope s_law_words) s.heap.objs.size f cdv)).units + 65 < cLine := by have := hr.un; omega
  have nd := sc__law_words.nd
  exact (rss_cons (rs_setO (ps_set (i := 2) nd rfl (.inr rfl) (ro_lst (rl_cons re_str rl_nil))))
    (rss_cons (rs_set (ps_set (i := 3) nd rfl (.inr rfl) re_int))
    (rss_cons (rs_while PassesOwn.never (rt_lt (RE.toB (re_len m_len (RE.toB (re_ix (rb_var (pv 2)) (rb_var (pv 3)))))) (rb_var (pv 1)))
    (rss_cons (rs_ext (ps_expr (pe_bm PySem.F.plainAttrs_list PySem.F.slot_list_extend PySem.F.type_list_extend mt_extend (pv 2) (pa_cons (RE.toB (RO.toE (ro_lc (pe_lc (own := [("_law_sign", 4)]) rfl nd (rib_seq (rb_var (pv 0))) (blkOk_by (N := n__law_words) (sc := defScope s_law_words) (by decide +kernel)) (fun _ _ _ _ _ => (pg_name (i := 4) nd rfl (.inl rfl))) (fun _ _ _ _ _ => rts_nil) (fun _ _ _ _ _ => (re_add (RE.toB (re_ix (rb_var (pv 2)) (rb_var (pv 3)))) (rb_var (pv 4))))) (gok_n (by simp))))) pa_nil))))
    (rss_one (rs_set (ps_set (i := 3) nd rfl (.inr rfl) (re_add (rb_var (pv 3)) (RE.toB re_int)))))))
    (rss_frz (i := 2) (rss_one (rs_ret (re_var (pv 2))))))))
abbrev s_law_wish : Stmt := top 12
abbrev n__law_wish : List Str := ["_law_tape_here", "_law_signs", "_law_deep", "_law_way", "_law_kinds", "_law_sign"]
abbrev p__law_wish : List Str := ["_law_tape_here", "_law_signs", "_law_deep"]
theorem sc__law_wish : FnScope n__law_wish p__law_wish (defScope s_law_wish) := ⟨rfl, rfl, rfl, by decide +kernel, rfl, by decide +kernel, by decide +kernel⟩
theorem bi__law_wish : BindsOk "_law_wish" s_law_wish p__law_wish := fun _ _ _ _ _ _ us hl => match us, hl with | [_, _, _], _ => rfl
def d__law_wish (s__law_draw : TSp) (s__law_wish : TSp)  : DS := (dSeq (dSet 3 (dCallT 0 s__law_draw (dCons (dC (.int 8)) dNil)))
    (dSeq (dIfS (tOrD (tBoolD (dOp (gEq id) (dVarB 2) (dC (.int 0)))) (tBoolD (dOp (gCmp fun i j => decide (i < j)) (dVarB 3) (dC (.int 3)))))
    (dSeq (dSet 4 (dList (dOpO gCat (dList (dLst (dCons (dTup (dCons (dC (.str "none")) dNil)) (dCons (dTup (dCons (dC (.str "void")) dNil)) dNil)))) (dList (dOpO gRep (dList (dLc (diSeq (dVarB 1)) (gN 5) tYesD (dTup (dCons (dC (.str "sign")) (dCons (dVar 5) dNil))) [5])) (dC (.int 3)))))))
    (dRet (dOp gIx (dVarB 4) (dCallT 0 s__law_draw (dCons (d1 gLen (dVarB 4)) dNil)))))
    dNext)
    (dSeq (dIfS (tBoolD (dOp (gCmp fun i j => decide (i < j)) (dVarB 3) (dC (.int 5))))
    (dRet (dTup (dCons (dC (.str "or")) (dCons (dCallT 0 s__law_wish (dCons (dVar 1) (dCons (dOp gSb (dVarB 2) (dC (.int 1))) dNil))) (dCons (dCallT 0 s__law_wish (dCons (dVar 1) (dCons (dOp gSb (dVarB 2) (dC (.int 1))) dNil))) dNil)))))
    dNext)
    (dSeq (dIfS (tBoolD (dOp (gCmp fun i j => decide (i < j)) (dVarB 3) (dC (.int 7))))
    (dRet (dTup (dCons (dC (.str "then")) (dCons (dCallT 0 s__law_wish (dCons (dVar 1) (dCons (dOp gSb (dVarB 2) (dC (.int 1))) dNil))) (dCons (dCallT 0 s__law_wish (dCons (dVar 1) (dCons (dOp gSb (dVarB 2) (dC (.int 1))) dNil))) dNil)))))
    dNext)
    (dRet (dTup (dCons (dC (.str "again")) (dCons (dCallT 0 s__law_wish (dCons (dVar 1) (dCons (dOp gSb (dVarB 2) (dC (.int 1))) dNil))) dNil))))))))
theorem b__law_wish {P : Program} {w : World} {K : PySem.W.Frag} {mg : Str → Option Value} {base : Heap} {k : Nat} {s__law_draw : TSp} (c__law_draw : CalS P w K mg base k "_law_draw" (SpT ⟨P, w, K⟩ s__law_draw)) {s__law_wish : TSp} (c__law_wish : CalS P w K mg base k "_law_wish" (SpT ⟨P, w, K⟩ s__law_wish)) (m_len : mg "len" = none) : ∀ (f : Addr) (cdv : Value) (A : Around) (outer : List Env) (s : Shared) (H : Hp) (E : XK), Room k (A.deeper (envOfC "_law_wish" (defScope s_law_wish) s.heap.objs.size f cdv)) → RSs (cxOf CX0 P w K mg base n__law_wish "_law_wish" (defScope s_law_wish) f cdv A outer s H E).nox (defBody s_law_wish) (d__law_wish s__law_draw s__law_wish) := by
  intro f cdv A outer s H E hr
  have hu := hr.units
  have hu1 := hu_of hr
  have hu65 : (A.deeper (envOfC "_law_wish" (defScope s_law_wish) s.heap.objs.size f cdv)).units + 65 < cLine := by have := hr.un; omega
  have nd := sc__law_wish.nd
  exact (rss_cons (rs_set (ps_set (i := 3) nd rfl (.inl rfl) (re_cT c__law_draw hr (pv 0) (rl_cons re_int rl_nil))))
    (rss_cons (rs_if (rt_w (rw_or (rt_eq hu (rb_var (pv 2)) (RE.toB re_int)) (rw_or1 (rt_lt (rb_var (pv 3)) (RE.toB re_int)))))
    (rss_cons (rs_set (ps_set (i := 4) nd rfl (.inl rfl) (RO.toE (ro_cat (RE.toB (RO.toE (ro_lst (rl_cons (re_tup (rl_cons re_str rl_nil)) (rl_cons (re_tup (rl_cons re_str rl_nil)) rl_nil))))) (RE.toB (RO.toE (ro_rep (RE.toB (RO.toE (ro_lc (pe_lc (own := [("_law_sign", 5)]) rfl nd (rib_seq (rb_var (pv 1))) (blkOk_by (N := n__law_wish) (sc := defScope s_law_wish) (by decide +kernel)) (fun _ _ _ _ _ => (pg_name (i := 5) nd rfl (.inl rfl))) (fun _ _ _ _ _ => rts_nil) (fun _ _ _ _ _ => (re_tup (rl_cons re_str (rl_cons (re_var (pv 5)) rl_nil))))) (gok_n (by simp))))) (RE.toB re_int))))))))
    (rss_one (rs_ret (re_ix (rb_var (pv 4)) (RE.toB (re_cT c__law_draw hr (pv 0) (rl_cons (re_len m_len (rb_var (pv 4))) rl_nil)))))))
    rss_nil)
    (rss_cons (rs_if (rt_lt (rb_var (pv 3)) (RE.toB re_int))
    (rss_one (rs_ret (re_tup (rl_cons re_str (rl_cons (re_cT c__law_wish hr (pv 0) (rl_cons (re_var (pv 1)) (rl_cons (re_sub (rb_var (pv 2)) (RE.toB re_int)) rl_nil))) (rl_cons (re_cT c__law_wish hr (pv 0) (rl_cons (re_var (pv 1)) (rl_cons (re_sub (rb_var (pv 2)) (RE.toB re_int)) rl_nil))) rl_nil))))))
    rss_nil)
    (rss_cons (rs_if (rt_lt (rb_var (pv 3)) (RE.toB re_int))
    (rss_one (rs_ret (re_tup (rl_cons re_str (rl_cons (re_cT c__law_wish hr (pv 0) (rl_cons (re_var (pv 1)) (rl_cons (re_sub (rb_var (pv 2)) (RE.toB re_int)) rl_nil))) (rl_cons (re_cT c__law_wish hr (pv 0) (rl_cons (re_var (pv 1)) (rl_cons (re_sub (rb_var (pv 2)) (RE.toB re_int)) rl_nil))) rl_nil))))))
    rss_nil)
    (rss_one (rs_ret (re_tup (rl_cons re_str (rl_cons (re_cT c__law_wish hr (pv 0) (rl_cons (re_var (pv 1)) (rl_cons (re_sub (rb_var (pv 2)) (RE.toB re_int)) rl_nil))) rl_nil)))))))))
abbrev s_law_wish_takes : Stmt := top 13
abbrev n__law_wish_takes : List Str := ["_law_wish_here", "_law_word", "_law_behind_it", "_law_k"]
abbrev p__law_wish_takes : List Str := ["_law_wish_here", "_law_word"]
theorem sc__law_wish_takes : FnScope n__law_wish_takes p__law_wish_takes (defScope s_law_wish_takes) := ⟨rfl, rfl, rfl, by decide +kernel, rfl, by decide +kernel, by decide +kernel⟩
theorem bi__law_wish_takes : BindsOk "_law_wish_takes" s_law_wish_takes p__law_wish_takes := fun _ _ _ _ _ _ us hl => match us, hl with | [_, _], _ => rfl
def d__law_wish_takes (s__law_wish_takes : PSp)  : DS := (dSeq (dIfS (tBoolD (dOp (gEq id) (dOp gIx (dVarB 0) (dC (.int 0))) (dC (.str "sign"))))
    (dRet (dOp (gEq id) (dVarB 1) (dOp gIx (dVarB 0) (dC (.int 1)))))
    dNext)
    (dSeq (dIfS (tOrD (tBoolD (dOp (gEq id) (dOp gIx (dVarB 0) (dC (.int 0))) (dC (.str "none")))) (tBoolD (dOp (gEq id) (dOp gIx (dVarB 0) (dC (.int 0))) (dC (.str "void")))))
    (dRet (dAnd (dOp (gEq id) (dOp gIx (dVarB 0) (dC (.int 0))) (dC (.str "void"))) (dOp (gEq id) (dVarB 1) (dC (.str "")))))
    dNext)
    (dSeq (dIfS (tBoolD (dOp (gEq id) (dOp gIx (dVarB 0) (dC (.int 0))) (dC (.str "or"))))
    (dRet (dOr (dCallP s__law_wish_takes (dCons (dOp gIx (dVarB 0) (dC (.int 1))) (dCons (dVar 1) dNil))) (dCallP s__law_wish_takes (dCons (dOp gIx (dVarB 0) (dC (.int 2))) (dCons (dVar 1) dNil)))))
    dNext)
    (dSeq (dIfS (tAndD (tBoolD (dOp (gEq id) (dOp gIx (dVarB 0) (dC (.int 0))) (dC (.str "again")))) (tBoolD (dOp (gEq id) (dVarB 1) (dC (.str "")))))
    (dRet (dC (.bool true)))
    dNext)
    (dSeq (dSet 2 (dOp gIx (dVarB 0) (dNeg (dC (.int 1)))))
    (dSeq (dIfS (tBoolD (dOp (gEq id) (dOp gIx (dVarB 0) (dC (.int 0))) (dC (.str "again"))))
    (dSet 2 (dVar 0))
    dNext)
    (dSeq (dFor (diRg2 (d1 gInt1 (dOp (gEq id) (dOp gIx (dVarB 0) (dC (.int 0))) (dC (.str "again")))) (dOp gAdd (d1 gLen (dVarB 1)) (dC (.int 1)))) (gN 3)
    (dIfS (tAndD (tBoolD (dCallP s__law_wish_takes (dCons (dOp gIx (dVarB 0) (dC (.int 1))) (dCons (dSl (dVarB 1) dNoPt (dPt (dVarB 3))) dNil)))) (tBoolD (dCallP s__law_wish_takes (dCons (dVar 2) (dCons (dSl (dVarB 1) (dPt (dVarB 3)) dNoPt) dNil)))))
    (dRet (dC (.bool true)))
    dNext))
    (dRet (dC (.bool false))))))))))
theorem b__law_wish_takes {P : Program} {w : World} {K : PySem.W.Frag} {mg : Str → Option Value} {base : Heap} {k : Nat} {s__law_wish_takes : PSp} (c__law_wish_takes : CalS P w K mg base k "_law_wish_takes" (SpP ⟨P, w, K⟩ s__law_wish_takes)) (m_int : mg "int" = none) (m_len : mg "len" = none) (m_range : mg "range" = none) : ∀ (f : Addr) (cdv : Value) (A : Around) (outer : List Env) (s : Shared) (H : Hp) (E : XK), Room k (A.deeper (envOfC "_law_wish_takes" (defScope s_law_wish_takes) s.heap.objs.size f cdv)) → RSs (cxOf CX0 P w K mg base n__law_wish_takes "_law_wish_takes" (defScope s_law_wish_takes) f cdv A outer s H E).nox (defBody s_law_wish_takes) (d__law_wish_takes s__law_wish_takes) := by
  intro f cdv A outer s H E hr
  have hu := hr.units
  have hu1 := hu_of hr
  have hu65 : (A.deeper (envOfC "_law_wish_takes" (defScope s_law_wish_takes) s.heap.objs.size f cdv)).units + 65 < cLine := by have := hr.un; omega
  have nd := sc__law_wish_takes.nd
  exact (rss_cons (rs_if (rt_eq hu (RE.toB (re_ix (rb_var (pv 0)) (RE.toB re_int))) (RE.toB re_str))
    (rss_one (rs_ret (re_eq hu (rb_var (pv 1)) (RE.toB (re_ix (rb_var (pv 0)) (RE.toB re_int))))))
    rss_nil)
    (rss_cons (rs_if (rt_w (rw_or (rt_eq hu (RE.toB (re_ix (rb_var (pv 0)) (RE.toB re_int))) (RE.toB re_str)) (rw_or1 (rt_eq hu (RE.toB (re_ix (rb_var (pv 0)) (RE.toB re_int))) (RE.toB re_str)))))
    (rss_one (rs_ret (re_and (re_eq hu (RE.toB (re_ix (rb_var (pv 0)) (RE.toB re_int))) (RE.toB re_str)) (re_one (re_eq hu (rb_var (pv 1)) (RE.toB re_str))))))
    rss_nil)
    (rss_cons (rs_if (rt_eq hu (RE.toB (re_ix (rb_var (pv 0)) (RE.toB re_int))) (RE.toB re_str))
    (rss_one (rs_ret (re_or (re_cP c__law_wish_takes hr (rl_cons (re_ix (rb_var (pv 0)) (RE.toB re_int)) (rl_cons (re_var (pv 1)) rl_nil))) (re_one (re_cP c__law_wish_takes hr (rl_cons (re_ix (rb_var (pv 0)) (RE.toB re_int)) (rl_cons (re_var (pv 1)) rl_nil)))))))
    rss_nil)
    (rss_cons (rs_if (rt_w (rw_and (rt_eq hu (RE.toB (re_ix (rb_var (pv 0)) (RE.toB re_int))) (RE.toB re_str)) (rw_and1 (rt_eq hu (rb_var (pv 1)) (RE.toB re_str)))))
    (rss_one (rs_ret re_bl))
    rss_nil)
    (rss_cons (rs_set (ps_set (i := 2) nd rfl (.inl rfl) (re_ix (rb_var (pv 0)) (RE.toB (re_neg (RE.toB re_int))))))
    (rss_cons (rs_if (rt_eq hu (RE.toB (re_ix (rb_var (pv 0)) (RE.toB re_int))) (RE.toB re_str))
    (rss_one (rs_set (ps_set (i := 2) nd rfl (.inl rfl) (re_var (pv 0)))))
    rss_nil)
    (rss_cons (rs_for PassesOwn.never rfl (ri_rg2 m_range (RE.toB (re_int1 m_int (RE.toB (re_eq hu (RE.toB (re_ix (rb_var (pv 0)) (RE.toB re_int))) (RE.toB re_str))))) (RE.toB (re_add (RE.toB (re_len m_len (rb_var (pv 1)))) (RE.toB re_int)))) (rg_n (pg_name (i := 3) nd rfl (.inl rfl)))
    (rss_one (rs_if (rt_w (rw_and (rt_val (re_cP c__law_wish_takes hr (rl_cons (re_ix (rb_var (pv 0)) (RE.toB re_int)) (rl_cons (re_sl (rb_var (pv 1)) rp_none (rp_some (rb_var (pv 3)))) rl_nil)))) (rw_and1 (rt_val (re_cP c__law_wish_takes hr (rl_cons (re_var (pv 2)) (rl_cons (re_sl (rb_var (pv 1)) (rp_some (rb_var (pv 3))) rp_none) rl_nil)))))))
    (rss_one (rs_ret re_bl))
    rss_nil)))
    (rss_one (rs_ret re_bl)))))))))
abbrev s_law_text : Stmt := top 14
abbrev n__law_text : List Str := ["_law_wish_here", "_law_part"]
abbrev p__law_text : List Str := ["_law_wish_here"]
theorem sc__law_text : FnScope n__law_text p__law_text (defScope s_law_text) := ⟨rfl, rfl, rfl, by decide +kernel, rfl, by decide +kernel, by decide +kernel⟩
theorem bi__law_text : BindsOk "_law_text" s_law_text p__law_text := fun _ _ _ _ _ _ us hl => match us, hl with | [_], _ => rfl
def d__law_text (s__law_text : PSp)  : DS := (dSeq (dIfS (tBoolD (dOp (gEq id) (dOp gIx (dVarB 0) (dC (.int 0))) (dC (.str "sign"))))
    (dRet (dOp gIx (dVarB 0) (dC (.int 1))))
    dNext)
    (dRet (dJoin (dC (.str " ")) (dList (dOpO gCat (dList (dLst (dCons (dOp gIx (dVarB 0) (dC (.int 0))) dNil))) (dList (dLc (diSeq (dSl (dVarB 0) (dPt (dC (.int 1))) dNoPt)) (gN 1) tYesD (dCallP s__law_text (dCons (dVar 1) dNil)) [1])))))))
theorem b__law_text {P : Program} {w : World} {K : PySem.W.Frag} {mg : Str → Option Value} {base : Heap} {k : Nat} {s__law_text : PSp} (c__law_text : CalS P w K mg base k "_law_text" (SpP ⟨P, w, K⟩ s__law_text)) : ∀ (f : Addr) (cdv : Value) (A : Around) (outer : List Env) (s : Shared) (H : Hp) (E : XK), Room k (A.deeper (envOfC "_law_text" (defScope s_law_text) s.heap.objs.size f cdv)) → RSs (cxOf CX0 P w K mg base n__law_text "_law_text" (defScope s_law_text) f cdv A outer s H E).nox (defBody s_law_text) (d__law_text s__law_text) := by
  intro f cdv A outer s H E hr
  have hu := hr.units
  have hu1 := hu_of hr
  have hu65 : (A.deeper (envOfC "_law_text" (defScope s_law_text) s.heap.objs.size f cdv)).units + 65 < cLine := by have := hr.un; omega
  have nd := sc__law_text.nd
  exact (rss_cons (rs_if (rt_eq hu (RE.toB (re_ix (rb_var (pv 0)) (RE.toB re_int))) (RE.toB re_str))
    (rss_one (rs_ret (re_ix (rb_var (pv 0)) (RE.toB re_int))))
    rss_nil)
    (rss_one (rs_ret (re_join re_str (RE.toB (RO.toE (ro_cat (RE.toB (RO.toE (ro_lst (rl_cons (re_ix (rb_var (pv 0)) (RE.toB re_int)) rl_nil)))) (RE.toB (RO.toE (ro_lc (pe_lc (own := [("_law_part", 1)]) rfl nd (rib_seq (RE.toB (re_sl (rb_var (pv 0)) (rp_some (RE.toB re_int)) rp_none))) (blkOk_by (N := n__law_text) (sc := defScope s_law_text) (by decide +kernel)) (fun _ _ _ _ _ => (pg_name (i := 1) nd rfl (.inl rfl))) (fun _ _ _ _ _ => rts_nil) (fun _ _ _ _ _ => (re_cP c__law_text hr (rl_cons (re_var (pv 1)) rl_nil)))) (gok_n (by simp))))))))))))
abbrev s_law_then : Stmt := top 15
abbrev n__law_then : List Str := ["_law_one", "_law_other"]
abbrev p__law_then : List Str := ["_law_one", "_law_other"]
theorem sc__law_then : FnScope n__law_then p__law_then (defScope s_law_then) := ⟨rfl, rfl, rfl, by decide +kernel, rfl, by decide +kernel, by decide +kernel⟩
theorem bi__law_then : BindsOk "_law_then" s_law_then p__law_then := fun _ _ _ _ _ _ us hl => match us, hl with | [_, _], _ => rfl
def d__law_then   : DS := (dSeq (dIfS (tBoolD (dOp (gEq id) (dVarB 0) (dTup (dCons (dC (.str "void")) dNil))))
    (dRet (dVar 1))
    dNext)
    (dRet (dTup (dCons (dC (.str "then")) (dCons (dVar 0) (dCons (dVar 1) dNil))))))
theorem b__law_then {P : Program} {w : World} {K : PySem.W.Frag} {mg : Str → Option Value} {base : Heap} {k : Nat}  : ∀ (f : Addr) (cdv : Value) (A : Around) (outer : List Env) (s : Shared) (H : Hp) (E : XK), Room k (A.deeper (envOfC "_law_then" (defScope s_law_then) s.heap.objs.size f cdv)) → RSs (cxOf CX0 P w K mg base n__law_then "_law_then" (defScope s_law_then) f cdv A outer s H E).nox (defBody s_law_then) (d__law_then ) := by
  intro f cdv A outer s H E hr
  have hu := hr.units
  have hu1 := hu_of hr
  have hu65 : (A.deeper (envOfC "_law_then" (defScope s_law_then) s.heap.objs.size f cdv)).units + 65 < cLine := by have := hr.un; omega
  have nd := sc__law_then.nd
  exact (rss_cons (rs_if (rt_eq hu (rb_var (pv 0)) (RE.toB (re_tup (rl_cons re_str rl_nil))))
    (rss_one (rs_ret (re_var (pv 1))))
    rss_nil)
    (rss_one (rs_ret (re_tup (rl_cons re_str (rl_cons (re_var (pv 0)) (rl_cons (re_var (pv 1)) rl_nil)))))))
abbrev s_law_parts : Stmt := top 16
abbrev n__law_parts : List Str := ["_law_wish_here", "_law_sign", "_law_part", "_law_found"]
abbrev p__law_parts : List Str := ["_law_wish_here", "_law_sign"]
theorem sc__law_parts : FnScope n__law_parts p__law_parts (defScope s_law_parts) := ⟨rfl, rfl, rfl, by decide +kernel, rfl, by decide +kernel, by decide +kernel⟩
theorem bi__law_parts : BindsOk "_law_parts" s_law_parts p__law_parts := fun _ _ _ _ _ _ us hl => match us, hl with | [_, _], _ => rfl
def d__law_parts (s__law_parts : PSp) (s__law_then : PSp) (s__law_wish_takes : PSp)  : DS := (dSeq (dIfS (tBoolD (dOp (gEq id) (dVarB 0) (dTup (dCons (dC (.str "sign")) (dCons (dVar 1) dNil)))))
    (dRet (dList (dLst (dCons (dTup (dCons (dC (.str "void")) dNil)) dNil))))
    dNext)
    (dSeq (dIfS (tBoolD (dOp (gEq id) (dOp gIx (dVarB 0) (dC (.int 0))) (dC (.str "or"))))
    (dRet (dList (dOpO gCat (dCallP s__law_parts (dCons (dOp gIx (dVarB 0) (dC (.int 1))) (dCons (dVar 1) dNil))) (dCallP s__law_parts (dCons (dOp gIx (dVarB 0) (dC (.int 2))) (dCons (dVar 1) dNil))))))
    dNext)
    (dSeq (dIfS (tBoolD (dOp (gEq id) (dOp gIx (dVarB 0) (dC (.int 0))) (dC (.str "again"))))
    (dRet (dList (dLc (diSeq (dCallP s__law_parts (dCons (dOp gIx (dVarB 0) (dC (.int 1))) (dCons (dVar 1) dNil)))) (gN 2) tYesD (dCallP s__law_then (dCons (dVar 2) (dCons (dVar 0) dNil))) [2])))
    dNext)
    (dSeq (dIfS (tBoolD (dOp (gEq not) (dOp gIx (dVarB 0) (dC (.int 0))) (dC (.str "then"))))
    (dRet (dList (dLst dNil)))
    dNext)
    (dSeq (dSetO 3 (dLc (diSeq (dCallP s__law_parts (dCons (dOp gIx (dVarB 0) (dC (.int 1))) (dCons (dVar 1) dNil)))) (gN 2) tYesD (dCallP s__law_then (dCons (dVar 2) (dCons (dOp gIx (dVarB 0) (dC (.int 2))) dNil))) [2]))
    (dSeq (dIfS (tBoolD (dCallP s__law_wish_takes (dCons (dOp gIx (dVarB 0) (dC (.int 1))) (dCons (dC (.str "")) dNil))))
    (dExt 3 (dCallP s__law_parts (dCons (dOp gIx (dVarB 0) (dC (.int 2))) (dCons (dVar 1) dNil))))
    dNext)
    (dFrz 3 (dRet (dVar 3)))))))))
theorem b__law_parts {P : Program} {w : World} {K : PySem.W.Frag} {mg : Str → Option Value} {base : Heap} {k : Nat} {s__law_parts : PSp} (c__law_parts : CalS P w K mg base k "_law_parts" (SpP ⟨P, w, K⟩ s__law_parts)) {s__law_then : PSp} (c__law_then : CalS P w K mg base k "_law_then" (SpP ⟨P, w, K⟩ s__law_then)) {s__law_wish_takes : PSp} (c__law_wish_takes : CalS P w K mg base k "_law_wish_takes" (SpP ⟨P, w, K⟩ s__law_wish_takes)) : ∀ (f : Addr) (cdv : Value) (A : Around) (outer : List Env) (s : Shared) (H : Hp) (E : XK), Room k (A.deeper (envOfC "_law_parts" (defScope s_law_parts) s.heap.objs.size f cdv)) → RSs (cxOf CX0 P w K mg base n__law_parts "_law_parts" (defScope s_law_parts) f cdv A outer s H E).nox (defBody s_law_parts) (d__law_parts s__law_parts s__law_then s__law_wish_takes) := by
  intro f cdv A outer s H E hr
  have hu := hr.units
  have hu1 := hu_of hr
  have hu65 : (A.deeper (envOfC "_law_parts" (defScope s_law_parts) s.heap.objs.size f cdv)).units + 65 < cLine := by have := hr.un; omega
  have nd := sc__law_parts.nd
  exact (rss_cons (rs_if (rt_eq hu (rb_var (pv 0)) (RE.toB (re_tup (rl_cons re_str (rl_cons (re_var (pv 1)) rl_nil)))))
    (rss_one (rs_ret (RO.toE (ro_lst (rl_cons (re_tup (rl_cons re_str rl_nil)) rl_nil)))))
    rss_nil)
    (rss_cons (rs_if (rt_eq hu (RE.toB (re_ix (rb_var (pv 0)) (RE.toB re_int))) (RE.toB re_str))
    (rss_one (rs_ret (RO.toE (ro_cat (RE.toB (re_cP c__law_parts hr (rl_cons (re_ix (rb_var (pv 0)) (RE.toB re_int)) (rl_cons (re_var (pv 1)) rl_nil)))) (RE.toB (re_cP c__law_parts hr (rl_cons (re_ix (rb_var (pv 0)) (RE.toB re_int)) (rl_cons (re_var (pv 1)) rl_nil))))))))
    rss_nil)
    (rss_cons (rs_if (rt_eq hu (RE.toB (re_ix (rb_var (pv 0)) (RE.toB re_int))) (RE.toB re_str))
    (rss_one (rs_ret (RO.toE (ro_lc (pe_lc (own := [("_law_part", 2)]) rfl nd (rib_seq (RE.toB (re_cP c__law_parts hr (rl_cons (re_ix (rb_var (pv 0)) (RE.toB re_int)) (rl_cons (re_var (pv 1)) rl_nil))))) (blkOk_by (N := n__law_parts) (sc := defScope s_law_parts) (by decide +kernel)) (fun _ _ _ _ _ => (pg_name (i := 2) nd rfl (.inl rfl))) (fun _ _ _ _ _ => rts_nil) (fun _ _ _ _ _ => (re_cP c__law_then hr (rl_cons (re_var (pv 2)) (rl_cons (re_var (pv 0)) rl_nil))))) (gok_n (by simp))))))
    rss_nil)
    (rss_cons (rs_if (rt_ne hu (RE.toB (re_ix (rb_var (pv 0)) (RE.toB re_int))) (RE.toB re_str))
    (rss_one (rs_ret (RO.toE (ro_lst rl_nil))))
    rss_nil)
    (rss_cons (rs_setO (ps_lcO (ps_setLc (i := 3) (own := [("_law_part", 2)]) rfl nd rfl rfl (sw_true rfl rfl rfl (by decide +kernel)) (rib_seq (RE.toB (re_cP c__law_parts hr (rl_cons (re_ix (rb_var (pv 0)) (RE.toB re_int)) (rl_cons (re_var (pv 1)) rl_nil))))) (blkOk_by (N := n__law_parts) (sc := defScope s_law_parts) (by decide +kernel)) (fun _ _ _ _ _ => (pg_name (i := 2) nd rfl (.inl rfl))) (fun _ _ _ _ _ => rts_nil) (fun _ _ _ _ _ => (re_cP c__law_then hr (rl_cons (re_var (pv 2)) (rl_cons (re_ix (rb_var (pv 0)) (RE.toB re_int)) rl_nil))))) (gok_n (by simp))))
    (rss_cons (rs_if (rt_val (re_cP c__law_wish_takes hr (rl_cons (re_ix (rb_var (pv 0)) (RE.toB re_int)) (rl_cons re_str rl_nil))))
    (rss_one (rs_ext (ps_expr (pe_bm PySem.F.plainAttrs_list PySem.F.slot_list_extend PySem.F.type_list_extend mt_extend (pv 3) (pa_cons (RE.toB (re_cP c__law_parts hr (rl_cons (re_ix (rb_var (pv 0)) (RE.toB re_int)) (rl_cons (re_var (pv 1)) rl_nil)))) pa_nil)))))
    rss_nil)
    (rss_frz (i := 3) (rss_one (rs_ret (re_var (pv 3)))))))))))
abbrev s_law_set : Stmt := top 17
abbrev n__law_set : List Str := ["_law_wishes", "_law_texts", "_law_wish_here", "_law_text_here"]
abbrev p__law_set : List Str := ["_law_wishes"]
theorem sc__law_set : FnScope n__law_set p__law_set (defScope s_law_set) := ⟨rfl, rfl, rfl, by decide +kernel, rfl, by decide +kernel, by decide +kernel⟩
theorem bi__law_set : BindsOk "_law_set" s_law_set p__law_set := fun _ _ _ _ _ _ us hl => match us, hl with | [_], _ => rfl
def d__law_set (s__law_text : PSp)  : DS := (dSeq (dDict 1 (dList (dLc (diSeq (dVarB 0)) (gN 2) tYesD (dTup (dCons (dCallP s__law_text (dCons (dVar 2) dNil)) (dCons (dVar 2) dNil))) [2])))
    (dRet (d1 gTuple (dList (dLc (diSeq (dList (d1O gSortD (dVarB 1)))) (gN 3) tYesD (dDGet (dVarB 1) (dVar 3)) [3])))))
theorem b__law_set {P : Program} {w : World} {K : PySem.W.Frag} {mg : Str → Option Value} {base : Heap} {k : Nat} {s__law_text : PSp} (c__law_text : CalS P w K mg base k "_law_text" (SpP ⟨P, w, K⟩ s__law_text)) (m_dict : mg "dict" = none) (m_sorted : mg "sorted" = none) (m_tuple : mg "tuple" = none) : ∀ (f : Addr) (cdv : Value) (A : Around) (outer : List Env) (s : Shared) (H : Hp) (E : XK), Room k (A.deeper (envOfC "_law_set" (defScope s_law_set) s.heap.objs.size f cdv)) → RSs (cxOf CX0 P w K mg base n__law_set "_law_set" (defScope s_law_set) f cdv A outer s H E).nox (defBody s_law_set) (d__law_set s__law_text) := by
  intro f cdv A outer s H E hr
  have hu := hr.units
  have hu1 := hu_of hr
  have hu65 : (A.deeper (envOfC "_law_set" (defScope s_law_set) s.heap.objs.size f cdv)).units + 65 < cLine := by have := hr.un; omega
  have nd := sc__law_set.nd
  exact (rss_cons (rs_dict rfl m_dict (fun h => (ps_set (i := 1) nd rfl (.inr rfl) h)) (RE.toB (RO.toE (ro_lc (pe_lc (own := [("_law_wish_here", 2)]) rfl nd (rib_seq (rb_var (pv 0))) (blkOk_by (N := n__law_set) (sc := defScope s_law_set) (by decide +kernel)) (fun _ _ _ _ _ => (pg_name (i := 2) nd rfl (.inl rfl))) (fun _ _ _ _ _ => rts_nil) (fun _ _ _ _ _ => (re_tup (rl_cons (re_cP c__law_text hr (rl_cons (re_var (pv 2)) rl_nil)) (rl_cons (re_var (pv 2)) rl_nil))))) (gok_n (by simp))))))
    (rss_one (rs_ret (re_tuple m_tuple (RE.toB (RO.toE (ro_lc (pe_lc (own := [("_law_text_here", 3)]) rfl nd (rib_seq (RE.toB (RO.toE (ro_sortD rfl hu m_sorted (rb_var (pv 1)))))) (blkOk_by (N := n__law_set) (sc := defScope s_law_set) (by decide +kernel)) (fun _ _ _ _ _ => (pg_name (i := 3) nd rfl (.inl rfl))) (fun _ _ _ _ _ => rts_nil) (fun _ _ _ _ _ => (re_dget hu (rb_var (pv 1)) (re_var (pv 3)) (fun _ _ => rfl)))) (gok_n (by simp)))))))))
abbrev slaw : Stmt := top 18
abbrev n_law : List Str := ["_law_script", "_law_tape_here", "_law_signs", "_law_k", "_law_some", "_law_j", "_law_sign", "_law_due", "_law_wish_here", "_law_kept", "_law_word", "_law_one"]
abbrev p_law : List Str := ["_law_script"]
theorem sc_law : FnScope n_law p_law (defScope slaw) := ⟨rfl, rfl, rfl, by decide +kernel, rfl, by decide +kernel, by decide +kernel⟩
theorem bi_law : BindsOk "law" slaw p_law := fun _ _ _ _ _ _ us hl => match us, hl with | [_], _ => rfl
def d_law (s__law_draw : TSp) (s__law_parts : PSp) (s__law_set : PSp) (s__law_wish : TSp) (s__law_wish_takes : PSp) (s__law_words : PSp) (s_parts_behind : PSp)  : DS := (dSeq (dSet 2 (dOp gIx (dList (dLst (dCons (dC (.str "ab")) (dCons (dC (.str "a")) (dCons (dC (.str "abc")) (dCons (dC (.str "oz")) dNil)))))) (dCallT 1 s__law_draw (dCons (dC (.int 4)) dNil))))
    (dSeq (dFor (diRg1 (dC (.int 2))) (gN 3)
    (dSeq (dSet 4 (dCallP s__law_set (dCons (dList (dLc (diRg1 (dOp gAdd (dC (.int 1)) (dCallT 1 s__law_draw (dCons (dC (.int 3)) dNil)))) (gN 5) tYesD (dCallT 1 s__law_wish (dCons (dVar 2) (dCons (dOp gAdd (dC (.int 1)) (dCallT 1 s__law_draw (dCons (dC (.int 3)) dNil))) dNil))) [5])) dNil)))
    (dFor (diRg1 (dC (.int 3))) (gN 5)
    (dSeq (dSet 6 (dOp gIx (dVarB 2) (dCallT 1 s__law_draw (dCons (d1 gLen (dVarB 2)) dNil))))
    (dSeq (dSetO 7 (dLst dNil))
    (dSeq (dFor (diSeq (dVar 4)) (gN 8)
    (dExt 7 (dCallP s__law_parts (dCons (dVar 8) (dCons (dVar 6) dNil)))))
    (dSeq (dSet 7 (dCallPB s__law_set (dCons (dVarB 7) dNil)))
    (dSeq (dSet 9 (d1 gRepr (dVarB 4)))
    (dSeq (dIfS (tOrD (tBoolD (dOp (gEq not) (d1 gRepr (dCallP s_parts_behind (dCons (dVar 4) (dCons (dVar 6) dNil)))) (d1 gRepr (dVarB 7)))) (tBoolD (dOp (gEq not) (d1 gRepr (dVarB 4)) (dVarB 9))))
    (dRet (dC (.bool false)))
    dNext)
    (dSeq (dFor (diSeq (dCallP s__law_words (dCons (dVar 2) (dCons (dC (.int 2)) dNil)))) (gN 10)
    (dIfS (tBoolD (dOp (gEq not) (dOp (gIn id) (dC (.bool true)) (dList (dLc (diSeq (dVarB 7)) (gN 11) tYesD (dCallP s__law_wish_takes (dCons (dVar 11) (dCons (dVar 10) dNil))) [11]))) (dOp (gIn id) (dC (.bool true)) (dList (dLc (diSeq (dVarB 4)) (gN 11) tYesD (dCallP s__law_wish_takes (dCons (dVar 11) (dCons (dOp gAdd (dVarB 6) (dVarB 10)) dNil))) [11])))))
    (dRet (dC (.bool false)))
    dNext))
    (dSet 4 (dVar 7))))))))))))
    (dRet (dC (.bool true)))))
theorem b_law {P : Program} {w : World} {K : PySem.W.Frag} {mg : Str → Option Value} {base : Heap} {k : Nat} {s__law_draw : TSp} (c__law_draw : CalS P w K mg base k "_law_draw" (SpT ⟨P, w, K⟩ s__law_draw)) {s__law_parts : PSp} (c__law_parts : CalS P w K mg base k "_law_parts" (SpP ⟨P, w, K⟩ s__law_parts)) {s__law_set : PSp} (c__law_set : CalS P w K mg base k "_law_set" (SpP ⟨P, w, K⟩ s__law_set)) {s__law_wish : TSp} (c__law_wish : CalS P w K mg base k "_law_wish" (SpT ⟨P, w, K⟩ s__law_wish)) {s__law_wish_takes : PSp} (c__law_wish_takes : CalS P w K mg base k "_law_wish_takes" (SpP ⟨P, w, K⟩ s__law_wish_takes)) {s__law_words : PSp} (c__law_words : CalS P w K mg base k "_law_words" (SpP ⟨P, w, K⟩ s__law_words)) {s_parts_behind : PSp} (c_parts_behind : CalS P w K mg base k "parts_behind" (SpP ⟨P, w, K⟩ s_parts_behind)) (m_len : mg "len" = none) (m_range : mg "range" = none) (m_repr : mg "repr" = none) (c__law_tape : CalS P w K mg base k "_law_tape" (SpTape ⟨P, w, K⟩)) : ∀ (f : Addr) (cdv : Value) (A : Around) (outer : List Env) (s : Shared) (H : Hp) (E : XK), (A.deeper (envOfC "law" (defScope slaw) s.heap.objs.size f cdv)).guards = some [] → Room k (A.deeper (envOfC "law" (defScope slaw) s.heap.objs.size f cdv)) → PSs (cxOf CX0 P w K mg base n_law "law" (defScope slaw) f cdv A outer s H E).nox (defBody slaw) (tLaw ⟨P, w, K⟩ (d_law s__law_draw s__law_parts s__law_set s__law_wish s__law_wish_takes s__law_words s_parts_behind)) := by
  intro f cdv A outer s H E hG hr
  have hu := hr.units
  have hu1 := hu_of hr
  have hu65 : (A.deeper (envOfC "law" (defScope slaw) s.heap.objs.size f cdv)).units + 65 < cLine := by have := hr.un; omega
  have nd := sc_law.nd
  exact (pss_cons (ps_tape (i := 1) c__law_tape hr (pv 0) (fun h => ps_set (i := 1) nd rfl (.inr rfl) h)) (rss_cons (rs_set (ps_set (i := 2) nd rfl (.inr rfl) (re_ix (RE.toB (RO.toE (ro_lst (rl_cons re_str (rl_cons re_str (rl_cons re_str (rl_cons re_str rl_nil))))))) (RE.toB (re_cT c__law_draw hr (pv 1) (rl_cons re_int rl_nil))))))
    (rss_cons (rs_for PassesOwn.never rfl (ri_rg1 m_range (RE.toB re_int)) (rg_n (pg_name (i := 3) nd rfl (.inl rfl)))
    (rss_cons (rs_set (ps_set (i := 4) nd rfl (.inl rfl) (re_cP c__law_set hr (rl_cons (RO.toE (ro_lc (pe_lc (own := [("_law_j", 5)]) rfl nd (RI.toB (ri_rg1 m_range (RE.toB (re_add (RE.toB re_int) (RE.toB (re_cT c__law_draw hr (pv 1) (rl_cons re_int rl_nil))))))) (blkOk_by (N := n_law) (sc := defScope slaw) (by decide +kernel)) (fun _ _ _ _ _ => (pg_name (i := 5) nd rfl (.inl rfl))) (fun _ _ _ _ _ => rts_nil) (fun _ _ _ _ _ => (re_cT c__law_wish hr (pv 1) (rl_cons (re_var (pv 2)) (rl_cons (re_add (RE.toB re_int) (RE.toB (re_cT c__law_draw hr (pv 1) (rl_cons re_int rl_nil)))) rl_nil))))) (gok_n (by simp)))) rl_nil))))
    (rss_one (rs_for PassesOwn.never rfl (ri_rg1 m_range (RE.toB re_int)) (rg_n (pg_name (i := 5) nd rfl (.inl rfl)))
    (rss_cons (rs_set (ps_set (i := 6) nd rfl (.inr rfl) (re_ix (rb_var (pv 2)) (RE.toB (re_cT c__law_draw hr (pv 1) (rl_cons (re_len m_len (rb_var (pv 2))) rl_nil))))))
    (rss_cons (rs_setO (ps_set (i := 7) nd rfl (.inl rfl) (ro_lst rl_nil)))
    (rss_cons (rs_for PassesOwn.never rfl (ri_seq (re_var (pv 4))) (rg_n (pg_name (i := 8) nd rfl (.inl rfl)))
    (rss_one (rs_ext (ps_expr (pe_bm PySem.F.plainAttrs_list PySem.F.slot_list_extend PySem.F.type_list_extend mt_extend (pv 7) (pa_cons (RE.toB (re_cP c__law_parts hr (rl_cons (re_var (pv 8)) (rl_cons (re_var (pv 6)) rl_nil)))) pa_nil))))))
    (rss_cons (rs_set (ps_set (i := 7) nd rfl (.inl rfl) (re_cPB c__law_set hr (rlb_cons (rb_var (pv 7)) rlb_nil))))
    (rss_cons (rs_set (ps_set (i := 9) nd rfl (.inl rfl) (re_repr hG hu m_repr (rb_var (pv 4)))))
    (rss_cons (rs_if (rt_w (rw_or (rt_ne hu (RE.toB (re_repr hG hu m_repr (RE.toB (re_cP c_parts_behind hr (rl_cons (re_var (pv 4)) (rl_cons (re_var (pv 6)) rl_nil)))))) (RE.toB (re_repr hG hu m_repr (rb_var (pv 7))))) (rw_or1 (rt_ne hu (RE.toB (re_repr hG hu m_repr (rb_var (pv 4)))) (rb_var (pv 9))))))
    (rss_one (rs_ret re_bl))
    rss_nil)
    (rss_cons (rs_for PassesOwn.never rfl (ri_seq (re_cP c__law_words hr (rl_cons (re_var (pv 2)) (rl_cons re_int rl_nil)))) (rg_n (pg_name (i := 10) nd rfl (.inr rfl)))
    (rss_one (rs_if (rt_ne hu (RE.toB (re_in hu65 (RE.toB re_bl) (RE.toB (RO.toE (ro_lc (pe_lc (own := [("_law_one", 11)]) rfl nd (rib_seq (rb_var (pv 7))) (blkOk_by (N := n_law) (sc := defScope slaw) (by decide +kernel)) (fun _ _ _ _ _ => (pg_name (i := 11) nd rfl (.inl rfl))) (fun _ _ _ _ _ => rts_nil) (fun _ _ _ _ _ => (re_cP c__law_wish_takes hr (rl_cons (re_var (pv 11)) (rl_cons (re_var (pv 10)) rl_nil))))) (gok_n (by simp))))))) (RE.toB (re_in hu65 (RE.toB re_bl) (RE.toB (RO.toE (ro_lc (pe_lc (own := [("_law_one", 11)]) rfl nd (rib_seq (rb_var (pv 4))) (blkOk_by (N := n_law) (sc := defScope slaw) (by decide +kernel)) (fun _ _ _ _ _ => (pg_name (i := 11) nd rfl (.inl rfl))) (fun _ _ _ _ _ => rts_nil) (fun _ _ _ _ _ => (re_cP c__law_wish_takes hr (rl_cons (re_var (pv 11)) (rl_cons (re_add (rb_var (pv 6)) (rb_var (pv 10))) rl_nil))))) (gok_n (by simp))))))))
    (rss_one (rs_ret re_bl))
    rss_nil)))
    (rss_one (rs_set (ps_set (i := 4) nd rfl (.inl rfl) (re_var (pv 7))))))))))))))))
    (rss_one (rs_ret re_bl)))))
end K85

namespace K85
open PySem PySem.W PyProof.Rows L2 DL RT
theorem sl24 : sizeLine = 16777216 := sizeLine_eq
/-! takes_void -/
def sTV (m : Nat) : PSp := fun ds Q => ∃ w : Wi, ds = [w.enc] ∧ w.dep < m ∧ Q (.bool w.tv)
theorem v_takes_void {m : Nat} (ds : List D) (Qd : D → Prop) (h : sTV (m + 1) ds Qd) : d_takes_void (sTV m) { nx := fun _ _ => Qd .none, rt := fun d _ => Qd d } (start0 n_takes_void.length (ds.map .val)) 0 := by
  obtain ⟨w, rfl, hd, q⟩ := h
  have z2 : 2 ≤ sizeLine := by rw [sl24]; omega
  cases w with
  | none => simpa [d_takes_void, start0, Wi.enc, Wi.tv, -Bool.exists_bool, z2] using q
  | void => simpa [d_takes_void, start0, Wi.enc, Wi.tv, -Bool.exists_bool, z2] using q
  | sign c => simpa [d_takes_void, start0, Wi.enc, Wi.tv, -Bool.exists_bool, z2] using q
  | star a => simpa [d_takes_void, start0, Wi.enc, Wi.tv, -Bool.exists_bool, z2] using q
  | or a b =>
    simp only [Wi.dep] at hd
    simp [d_takes_void, start0, Wi.enc, -Bool.exists_bool, z2]
    refine ⟨a, rfl, by omega, _, rfl, ?_⟩
    cases h : a.tv with
    | true => simpa [h, Wi.tv] using q
    | false => exact ⟨b, rfl, by omega, by simpa [h, Wi.tv] using q⟩
  | thn a b =>
    simp only [Wi.dep] at hd
    simp [d_takes_void, start0, Wi.enc, -Bool.exists_bool, z2]
    refine ⟨a, rfl, by omega, _, rfl, ?_⟩
    cases h : a.tv with
    | false => simpa [h, Wi.tv] using q
    | true => exact ⟨b, rfl, by omega, by simpa [h, Wi.tv] using q⟩
/-! joined_on -/
def gVOID : D := Wi.void.enc
def sJN : PSp := fun ds Q => ∃ (ps : List Wi) (w : Wi), ds = [.list (ps.map Wi.enc), w.enc] ∧ ps.length < 100000 ∧ (∀ p ∈ ps, p.dep ≤ 30 ∧ p.ok) ∧ Q (.list ((ps.map (Wi.jn · w)).map Wi.enc))
theorem get_map {α : Type} {f : α → D} {l : List α} {k : Nat} {x : D} (h : (l.map f)[k]? = some x) : ∃ a, l[k]? = some a ∧ x = f a := by
  rw [List.getElem?_map] at h
  cases e : l[k]? with
  | none => rw [e] at h; cases h
  | some a => rw [e] at h; exact ⟨a, rfl, (Option.some.inj h).symm⟩
theorem v_joined_on (ds : List D) (Qd : D → Prop) (h : sJN ds Qd) : d_joined_on gVOID { nx := fun _ _ => Qd .none, rt := fun d _ => Qd d } (start0 n_joined_on.length (ds.map .val)) 0 := by
  obtain ⟨ps, w, rfl, hl, hok, q⟩ := h
  have z0 : 0 ≤ sizeLine := Nat.zero_le _
  have z3 : 3 ≤ sizeLine := by rw [sl24]; omega
  obtain ⟨L, l0, l1, l2⟩ := accL (fun p => (Wi.jn p w).enc) ps (by rw [sl24]; omega)
  simp [d_joined_on, start0, dFor, -Bool.exists_bool]
  refine ⟨fun k ρ n => ∃ y, ρ = [some (.val (.list (ps.map Wi.enc))), some (.val w.enc), some (.own (L k)), y], ⟨none, by rw [l0]⟩, ?_, ?_⟩
  · rintro k x ρ n p hp rfl ⟨y, rfl⟩
    obtain ⟨hd, ho⟩ := hok p (List.mem_of_getElem? hp)
    obtain ⟨e1, hlen⟩ := l1 k p hp
    simp [-Bool.exists_bool]
    refine Wi.gEq_enc (v := .void) ho (by omega) trivial (by simp [Wi.dep]) ⟨_, rfl, ?_⟩
    by_cases hv : p = .void
    · subst hv
      simp [Wi.jn] at e1
      simp [e1, hlen]
    · have ej : (Wi.jn p w).enc = .tuple [.str "then", p.enc, w.enc] := by unfold Wi.jn; rw [if_neg hv]; rfl
      rw [ej] at e1
      simp [e1, hlen, hv, z3]
  · rintro ρ n ⟨y, rfl⟩
    rw [l2]
    rw [List.map_map] at q
    simp
    exact q
/-! parts_of -/
def sPO (m : Nat) : PSp := fun ds Q => ∃ (w : Wi) (c : Nat), ds = [w.enc, .str ⟨#[c]⟩] ∧ w.dep < m ∧ w.dep ≤ 15 ∧ w.sz ≤ 10000 ∧ w.ok ∧ Q (.list ((Wi.parts c w).map Wi.enc))
theorem v_parts_of {m : Nat} (ds : List D) (Qd : D → Prop) (h : sPO (m + 1) ds Qd) : d_parts_of sJN (sPO m) (sTV 20) gVOID { nx := fun _ _ => Qd .none, rt := fun d _ => Qd d } (start0 n_parts_of.length (ds.map .val)) 0 := by
  obtain ⟨w, c, rfl, hd, hd15, hz, ho, q⟩ := h
  have z0 : 0 ≤ sizeLine := Nat.zero_le _
  have z1 : 1 ≤ sizeLine := by rw [sl24]; omega
  cases w with
  | none => simpa [d_parts_of, start0, Wi.enc, Wi.parts, -Bool.exists_bool, z0] using q
  | void => simpa [d_parts_of, start0, Wi.enc, Wi.parts, -Bool.exists_bool, z0] using q
  | sign b =>
    simp [d_parts_of, start0, Wi.enc, -Bool.exists_bool, z0, z1]
    by_cases h : b = c
    · subst h
      simpa [Wi.parts, gVOID] using q
    · simpa [Wi.parts, h] using q
  | or a b =>
    simp only [Wi.dep, Wi.sz] at hd hd15 hz
    have la := Wi.parts_len c a
    have lb := Wi.parts_len c b
    simp [d_parts_of, start0, Wi.enc, -Bool.exists_bool, z0]
    refine ⟨a, c, rfl, by omega, by omega, by omega, ho.1, b, c, rfl, by omega, by omega, by omega, ho.2, ?_⟩
    simp only [v_cat, List.length_map]
    refine ⟨by rw [sl24]; omega, ?_⟩
    rw [← List.map_append]
    exact q
  | star a =>
    simp only [Wi.dep, Wi.sz] at hd hd15 hz
    have la := Wi.parts_len c a
    simp [d_parts_of, start0, Wi.enc, -Bool.exists_bool, z0]
    refine ⟨a, c, rfl, by omega, by omega, by omega, ho, _, .star a, rfl, by omega, fun p hp => ?_, q⟩
    have h1 := Wi.pd_of hp
    have h2 := Wi.pd_dep h1
    exact ⟨by omega, Wi.ok_pd (w := a) ho h1⟩
  | thn a b =>
    simp only [Wi.dep, Wi.sz] at hd hd15 hz
    have la := Wi.parts_len c a
    have lb := Wi.parts_len c b
    simp [d_parts_of, start0, Wi.enc, -Bool.exists_bool, z0]
    refine ⟨a, c, rfl, by omega, by omega, by omega, ho.1, _, b, rfl, by omega, fun p hp => ?_, ?_⟩
    · have h1 := Wi.pd_of hp
      have h2 := Wi.pd_dep h1
      exact ⟨by omega, Wi.ok_pd ho.1 h1⟩
    refine ⟨a, rfl, by omega, _, rfl, ?_⟩
    rw [Wi.parts_thn] at q
    cases ht : a.tv with
    | false => simpa [ht] using q
    | true =>
      rw [ht, if_pos rfl] at q
      simp only [if_true]
      refine ⟨b, c, rfl, by omega, by omega, by omega, ho.2, ?_⟩
      simp only [v_cat, List.length_map]
      refine ⟨by rw [sl24]; omega, ?_⟩
      rw [← List.map_append]
      simpa using q
end K85

namespace K85
open PySem PySem.W PyProof.Rows L2 DL RT
/-! shown_wish -/
def sSW : PSp := fun ds Q => ∃ w : Wi, ds = [w.enc] ∧ w.sz ≤ 100000 ∧ Q (.str w.text)
def popWords (st : List Wi) : List Str := st.flatMap Wi.words
def popSz (st : List Wi) : Nat := (st.map Wi.sz).sum
theorem popWords_len (st : List Wi) : (popWords st).length = popSz st := by
  induction st with
  | nil => rfl
  | cons w st ih =>
    simp only [popWords, popSz, List.flatMap_cons, List.length_append, List.map_cons, List.sum_cons, Wi.words_len] at ih ⊢
    rw [ih]
theorem cut_from1 {ds : List D} : DL.cutD ds (some 1) none = ds.drop 1 := by
  unfold DL.cutD
  have e1 : HT.sIx ds.length 0 (some 1) = min 1 ds.length := by simp [HT.sIx]
  have e2 : HT.sIx ds.length ds.length none = ds.length := rfl
  rw [e1, e2]
  cases ds with
  | nil => rfl
  | cons x r => simp
theorem word_len {w : Wi} {x : Str} (h : x ∈ w.words) : x.length ≤ 5 := by
  have n1 : (Str.ofString "none").length ≤ 5 := by decide +kernel
  have n2 : (Str.ofString "void").length ≤ 5 := by decide +kernel
  have n3 : (Str.ofString "or").length ≤ 5 := by decide +kernel
  have n4 : (Str.ofString "then").length ≤ 5 := by decide +kernel
  have n5 : (Str.ofString "again").length ≤ 5 := by decide +kernel
  induction w with
  | none => simp only [Wi.words, List.mem_singleton] at h; rw [h]; exact n1
  | void => simp only [Wi.words, List.mem_singleton] at h; rw [h]; exact n2
  | sign c => simp only [Wi.words, List.mem_singleton] at h; rw [h]; show 1 ≤ 5; decide
  | or a b h1 h2 =>
    simp only [Wi.words, List.mem_cons, List.mem_append] at h
    rcases h with rfl | h | h
    · exact n3
    · exact h1 h
    · exact h2 h
  | thn a b h1 h2 =>
    simp only [Wi.words, List.mem_cons, List.mem_append] at h
    rcases h with rfl | h | h
    · exact n4
    · exact h1 h
    · exact h2 h
  | star a h1 =>
    simp only [Wi.words, List.mem_cons] at h
    rcases h with rfl | h
    · exact n5
    · exact h1 h
theorem sum_len {xs : List Str} {m : Nat} (h : ∀ x ∈ xs, x.length ≤ m) : (xs.map (·.length)).sum ≤ m * xs.length := by
  induction xs with
  | nil => simp
  | cons x xs ih =>
    have h1 := h x List.mem_cons_self
    have h2 := ih fun y hy => h y (List.mem_cons_of_mem _ hy)
    simp only [List.map_cons, List.sum_cons, List.length_cons, Nat.mul_succ]
    omega
theorem popSz_len (st : List Wi) : st.length ≤ popSz st := by
  induction st with
  | nil => simp
  | cons v st ih =>
    have := Wi.sz_pos v
    simp only [popSz, List.map_cons, List.sum_cons, List.length_cons] at ih ⊢
    omega
def swW (w : Wi) (m : Nat) (ρ : Sl) (n : Nat) : Prop := ∃ (done : List Str) (st : List Wi) (y : Option Ent), m = popSz st ∧ done ++ popWords st = w.words ∧ ρ = [some (.val w.enc), some (.own (done.map .str)), some (.own (st.reverse.map Wi.enc)), y]
theorem swW_step {w : Wi} {done : List Str} {p : Wi} {st st' : List Wi} {x : Str} {y : Option Ent} {n : Nat} {dn : List D} {sn : List D} (he : done ++ popWords (p :: st) = w.words) (hw : p.words = x :: popWords st') (h1 : dn = done.map PyData.str ++ [.str x]) (h2 : sn = (st.reverse ++ st'.reverse).map Wi.enc) :
    ∃ m', m' < popSz (p :: st) ∧ swW w m' [some (.val w.enc), some (.own dn), some (.own sn), y] n := by
  refine ⟨popSz (st' ++ st), ?_, done ++ [x], st' ++ st, y, rfl, ?_, ?_⟩
  · have e : p.sz = popSz st' + 1 := by rw [← Wi.words_len, hw, List.length_cons, popWords_len]
    simp only [popSz, List.map_append, List.sum_append, List.map_cons, List.sum_cons] at e ⊢
    omega
  · rw [← he]
    simp only [popWords, List.flatMap_append, List.flatMap_cons, hw, List.append_assoc, List.cons_append, List.nil_append]
  · rw [h1, h2]
    simp
theorem v_shown_wish (ds : List D) (Qd : D → Prop) (h : sSW ds Qd) : d_shown_wish { nx := fun _ _ => Qd .none, rt := fun d _ => Qd d } (start0 n_shown_wish.length (ds.map .val)) 0 := by
  obtain ⟨w, rfl, hz, q⟩ := h
  have z0 : 0 ≤ sizeLine := Nat.zero_le _
  have z1 : 1 ≤ sizeLine := by rw [sl24]; omega
  have hpos := Wi.sz_pos w
  simp [d_shown_wish, start0, dWh, -Bool.exists_bool, z0, z1]
  refine ⟨swW w, ⟨_, [], [w], none, rfl, by simp [popWords], rfl⟩, ?_⟩
  rintro m ρ n ⟨done, st, y, rfl, he, rfl⟩
  have hlen : done.length + popSz st = w.sz := by
    have := congrArg List.length he
    rw [List.length_append, popWords_len, Wi.words_len] at this
    exact this
  cases st with
  | nil =>
    simp only [popWords, List.flatMap_nil, List.append_nil] at he
    subst he
    simp [-Bool.exists_bool]
    refine ⟨w.words, rfl, ?_, q⟩
    have h1 := sum_len (fun x hx => word_len (w := w) hx)
    have h2 := Wi.words_len w
    have h3 : (Str.ofString " ").length = 1 := by decide +kernel
    rw [h3]
    omega
  | cons p st =>
    have hps := Wi.sz_pos p
    have hl2 := popSz_len (p :: st)
    rw [List.length_cons] at hl2
    have hd1 : done.length < sizeLine := by rw [sl24]; omega
    have hs1 : st.length + 2 ≤ sizeLine := by rw [sl24]; omega
    have hs2 : st.length + 1 ≤ sizeLine := by omega
    have hs3 : st.length ≤ sizeLine := by omega
    simp [-Bool.exists_bool]
    refine ⟨st.reverse.map Wi.enc, p.enc, (by simp), ?_⟩
    cases p with
    | none =>
      simp [-Bool.exists_bool, Wi.enc, hd1, hs1, hs2, hs3, cut_from1]
      exact swW_step he (st' := []) rfl rfl (by simp)
    | void =>
      simp [-Bool.exists_bool, Wi.enc, hd1, hs1, hs2, hs3, cut_from1]
      exact swW_step he (st' := []) rfl rfl (by simp)
    | sign c =>
      simp [-Bool.exists_bool, Wi.enc, hd1, hs1, hs2, hs3, cut_from1]
      exact swW_step he (st' := []) rfl rfl (by simp)
    | or a b =>
      simp [-Bool.exists_bool, Wi.enc, hd1, hs1, hs2, hs3, cut_from1]
      exact swW_step he (st' := [a, b]) (by simp [popWords, Wi.words]) rfl (by simp)
    | thn a b =>
      simp [-Bool.exists_bool, Wi.enc, hd1, hs1, hs2, hs3, cut_from1]
      exact swW_step he (st' := [a, b]) (by simp [popWords, Wi.words]) rfl (by simp)
    | star a =>
      simp [-Bool.exists_bool, Wi.enc, hd1, hs1, hs2, hs3, cut_from1]
      exact swW_step he (st' := [a]) (by simp [popWords, Wi.words]) rfl (by simp)
end K85

namespace K85
open PySem PySem.W PyProof.Rows L2 DL RT
/-! _law_then -/
def sLTh : PSp := fun ds Q => ∃ p w : Wi, ds = [p.enc, w.enc] ∧ p.dep ≤ 30 ∧ p.ok ∧ Q (Wi.jn p w).enc
theorem v_law_then (ds : List D) (Qd : D → Prop) (h : sLTh ds Qd) : d__law_then { nx := fun _ _ => Qd .none, rt := fun d _ => Qd d } (start0 n__law_then.length (ds.map .val)) 0 := by
  obtain ⟨p, w, rfl, hd, ho, q⟩ := h
  have z1 : 1 ≤ sizeLine := by rw [sl24]; omega
  have z3 : 3 ≤ sizeLine := by rw [sl24]; omega
  simp [d__law_then, start0, -Bool.exists_bool, z1, z3]
  refine Wi.gEq_enc (v := .void) ho (by omega) trivial (by simp [Wi.dep]) ⟨_, rfl, ?_⟩
  unfold Wi.jn at q
  by_cases hv : p = .void
  · rw [if_pos hv] at q
    simpa [hv] using q
  · rw [if_neg hv] at q
    simpa [hv, Wi.enc] using q
/-! texts -/
theorem sjoin_app (s : Str) : ∀ (xs ys : List Str), xs ≠ [] → ys ≠ [] → Str.join s (xs ++ ys) = Str.join s xs ++ s ++ Str.join s ys
  | [], ys, h, _ => absurd rfl h
  | [x], y :: ys, _, _ => rfl
  | [x], [], _, h => absurd rfl h
  | x :: z :: r, ys, _, hy => by
    show x ++ s ++ Str.join s ((z :: r) ++ ys) = (x ++ s ++ Str.join s (z :: r)) ++ s ++ Str.join s ys
    rw [sjoin_app s (z :: r) ys (by simp) hy]
    simp only [Str.append_assoc]
theorem tjoin_app (s : Str) (xs ys : List Str) (h : xs ≠ []) (h2 : ys ≠ []) : Txt.join s (xs ++ ys) = Txt.join s xs ++ s ++ Txt.join s ys := by
  rw [TL.join_eq, TL.join_eq, TL.join_eq]
  exact sjoin_app s xs ys h h2
theorem tjoin1 (s x : Str) : Txt.join s [x] = x := by rw [TL.join_eq]; rfl
theorem tjoin2 (s x y : Str) : Txt.join s [x, y] = x ++ s ++ y := by rw [TL.join_eq]; rfl
theorem tjoin3 (s x y z : Str) : Txt.join s [x, y, z] = x ++ s ++ (y ++ s ++ z) := by rw [TL.join_eq]; rfl
theorem tjoinC (s x : Str) (ys : List Str) (h : ys ≠ []) : Txt.join s (x :: ys) = x ++ s ++ Txt.join s ys := by
  have := tjoin_app s [x] ys (by simp) h
  rw [tjoin1] at this
  exact this
theorem text_or (a b : Wi) : (Wi.or a b).text = Txt.join " " ["or", a.text, b.text] := by
  show Txt.join " " ("or" :: (a.words ++ b.words)) = _
  rw [tjoinC _ _ _ (by have := Wi.words_ne a; simp [this]), tjoin_app _ _ _ (Wi.words_ne a) (Wi.words_ne b), tjoin3]
  rfl
theorem text_thn (a b : Wi) : (Wi.thn a b).text = Txt.join " " ["then", a.text, b.text] := by
  show Txt.join " " ("then" :: (a.words ++ b.words)) = _
  rw [tjoinC _ _ _ (by have := Wi.words_ne a; simp [this]), tjoin_app _ _ _ (Wi.words_ne a) (Wi.words_ne b), tjoin3]
  rfl
theorem text_star (a : Wi) : (Wi.star a).text = Txt.join " " ["again", a.text] := by
  show Txt.join " " ("again" :: a.words) = _
  rw [tjoinC _ _ _ (Wi.words_ne a), tjoin2]
  rfl
theorem slen_app (x y : Str) : (x ++ y).length = x.length + y.length := by
  show (x.cps ++ y.cps).size = x.cps.size + y.cps.size
  simp
theorem text_len (w : Wi) : w.text.length ≤ 6 * w.sz := by
  have e1 : (Str.ofString " ").length = 1 := by decide +kernel
  have n1 : (Str.ofString "none").length = 4 := by decide +kernel
  have n2 : (Str.ofString "void").length = 4 := by decide +kernel
  have n3 : (Str.ofString "or").length = 2 := by decide +kernel
  have n4 : (Str.ofString "then").length = 4 := by decide +kernel
  have n5 : (Str.ofString "again").length = 5 := by decide +kernel
  induction w with
  | none => unfold Wi.text Wi.words; rw [tjoin1, n1]; simp [Wi.sz]
  | void => unfold Wi.text Wi.words; rw [tjoin1, n2]; simp [Wi.sz]
  | sign c => unfold Wi.text Wi.words; rw [tjoin1]; show 1 ≤ _; simp [Wi.sz]
  | or a b h1 h2 => rw [text_or, tjoin3]; simp only [slen_app, e1, n3, Wi.sz]; omega
  | thn a b h1 h2 => rw [text_thn, tjoin3]; simp only [slen_app, e1, n4, Wi.sz]; omega
  | star a h1 => rw [text_star, tjoin2]; simp only [slen_app, e1, n5, Wi.sz]; omega
def sLT (m : Nat) : PSp := fun ds Q => ∃ w : Wi, ds = [w.enc] ∧ w.dep < m ∧ w.sz ≤ 100000 ∧ Q (.str w.text)
theorem v_law_text {m : Nat} (ds : List D) (Qd : D → Prop) (h : sLT (m + 1) ds Qd) : d__law_text (sLT m) { nx := fun _ _ => Qd .none, rt := fun d _ => Qd d } (start0 n__law_text.length (ds.map .val)) 0 := by
  obtain ⟨w, rfl, hd, hz, q⟩ := h
  have z1 : 1 ≤ sizeLine := by rw [sl24]; omega
  have e1 : (Str.ofString " ").length = 1 := by decide +kernel
  have n1 : (Str.ofString "none").length = 4 := by decide +kernel
  have n2 : (Str.ofString "void").length = 4 := by decide +kernel
  have n3 : (Str.ofString "or").length = 2 := by decide +kernel
  have n4 : (Str.ofString "then").length = 4 := by decide +kernel
  have n5 : (Str.ofString "again").length = 5 := by decide +kernel
  cases w with
  | none =>
    simp [d__law_text, start0, Wi.enc, -Bool.exists_bool, z1]
    refine lcE (α := Wi) [] Wi.enc (fun w => .str w.text) (fun Qi h => by simpa [cut_from1] using h) (by simp) (Nat.zero_le _) ⟨by simp [z1], ["none"], rfl, by simp [e1, n1], q⟩
  | void =>
    simp [d__law_text, start0, Wi.enc, -Bool.exists_bool, z1]
    refine lcE (α := Wi) [] Wi.enc (fun w => .str w.text) (fun Qi h => by simpa [cut_from1] using h) (by simp) (Nat.zero_le _) ⟨by simp [z1], ["void"], rfl, by simp [e1, n2], q⟩
  | sign c =>
    simp [d__law_text, start0, Wi.enc, -Bool.exists_bool, z1]
    unfold Wi.text Wi.words at q
    rw [tjoin1] at q
    exact q
  | or a b =>
    have la := text_len a
    have lb := text_len b
    simp only [Wi.dep, Wi.sz] at hd hz
    rw [text_or] at q
    simp [d__law_text, start0, Wi.enc, -Bool.exists_bool, z1]
    refine lcE (α := Wi) [a, b] Wi.enc (fun w => .str w.text) (fun Qi h => by simpa [cut_from1] using h) ?_ (by rw [sl24]; simp) ⟨by rw [sl24]; simp, ["or", a.text, b.text], rfl, by simp [e1, n3]; omega, q⟩
    intro v hv Q hQ
    simp
    rcases List.mem_cons.mp hv with rfl | hv
    · exact ⟨v, rfl, by omega, by omega, hQ⟩
    · rw [List.mem_singleton.mp hv] at hQ ⊢
      exact ⟨b, rfl, by omega, by omega, hQ⟩
  | thn a b =>
    have la := text_len a
    have lb := text_len b
    simp only [Wi.dep, Wi.sz] at hd hz
    rw [text_thn] at q
    simp [d__law_text, start0, Wi.enc, -Bool.exists_bool, z1]
    refine lcE (α := Wi) [a, b] Wi.enc (fun w => .str w.text) (fun Qi h => by simpa [cut_from1] using h) ?_ (by rw [sl24]; simp) ⟨by rw [sl24]; simp, ["then", a.text, b.text], rfl, by simp [e1, n4]; omega, q⟩
    intro v hv Q hQ
    simp
    rcases List.mem_cons.mp hv with rfl | hv
    · exact ⟨v, rfl, by omega, by omega, hQ⟩
    · rw [List.mem_singleton.mp hv] at hQ ⊢
      exact ⟨b, rfl, by omega, by omega, hQ⟩
  | star a =>
    have la := text_len a
    simp only [Wi.dep, Wi.sz] at hd hz
    rw [text_star] at q
    simp [d__law_text, start0, Wi.enc, -Bool.exists_bool, z1]
    refine lcE (α := Wi) [a] Wi.enc (fun w => .str w.text) (fun Qi h => by simpa [cut_from1] using h) ?_ (by rw [sl24]; simp) ⟨by rw [sl24]; simp, ["again", a.text], rfl, by simp [e1, n5]; omega, q⟩
    intro v hv Q hQ
    simp
    rw [List.mem_singleton.mp hv] at hQ ⊢
    exact ⟨a, rfl, by omega, by omega, hQ⟩
end K85

namespace K85
open PySem PySem.W PyProof.Rows L2 DL RT
theorem merge_ent : ∀ (l acc : List Wi), (∀ v ∈ acc, v.ok) → (∀ v ∈ l, v.ok) → dMerge (acc.map Wi.ent) (l.map Wi.ent) = (l.foldl Wi.ins acc).map Wi.ent
  | [], acc, _, _ => rfl
  | w :: l, acc, ha, hl => by
    have hw := hl w List.mem_cons_self
    show dMerge (dPut (acc.map Wi.ent) (.str w.text) w.enc) (l.map Wi.ent) = _
    rw [Wi.put_ent ha hw]
    exact merge_ent l (Wi.ins acc w) (fun v hv => (Wi.mem_ins.mp hv).elim (ha v) fun e => by rw [e]; exact hw) fun v hv => hl v (List.mem_cons_of_mem _ hv)
theorem srtd {l : List Wi} {Q : List D → Prop} (q : Q ((Wi.srt l).map fun w => .str w.text)) : gSortD (.dict ((Wi.once l).map Wi.ent)) Q := by
  refine ⟨_, (Wi.once l).map Wi.text, rfl, Wi.keys_ent _, ?_⟩
  rw [Wi.srt_texts, List.map_map]
  exact q
/-! _law_set -/
def sSet : PSp := fun ds Q => ∃ l : List Wi, ds = [.list (l.map Wi.enc)] ∧ l.length ≤ 100000 ∧ (∀ w ∈ l, w.ok ∧ w.dep ≤ 40 ∧ w.sz ≤ 100000) ∧ Q (.tuple ((Wi.srt l).map Wi.enc))
theorem v_law_set (ds : List D) (Qd : D → Prop) (h : sSet ds Qd) : d__law_set (sLT 41) { nx := fun _ _ => Qd .none, rt := fun d _ => Qd d } (start0 n__law_set.length (ds.map .val)) 0 := by
  obtain ⟨l, rfl, hl, hw, q⟩ := h
  have z2 : 2 ≤ sizeLine := by rw [sl24]; omega
  simp [d__law_set, start0, -Bool.exists_bool]
  refine lcE l Wi.enc (fun w => pairD (Wi.ent w)) (fun Qi h => by simpa using h) ?_ (by rw [sl24]; omega) ⟨l.map Wi.ent, by rw [List.map_map]; rfl, ?_, ?_⟩
  · intro w hm Q hQ
    obtain ⟨h1, h2, h3⟩ := hw w hm
    simp [z2]
    exact ⟨w, rfl, by omega, h3, hQ⟩
  · intro p d hp
    obtain ⟨w, _, e⟩ := List.mem_map.mp hp
    cases e
    rfl
  · have e := merge_ent l [] (by simp) fun v hv => (hw v hv).1
    have e' : dMerge [] (l.map Wi.ent) = (Wi.once l).map Wi.ent := e
    rw [e']
    have ll := Wi.len_srt l
    refine lcE (Wi.srt l) (fun w => .str w.text) Wi.enc (fun Qi h => ?_) ?_ (by rw [sl24]; omega) q
    · simp
      exact srtd h
    · intro w hm Q hQ
      have hm' := Wi.mem_srt.mp hm
      simp
      exact ⟨_, Wi.look_ent (fun v hv => (hw v (Wi.mem_once.mp hv)).1) (hw w hm').1 (Wi.mem_once.mpr hm'), hQ⟩
/-! parts_behind -/
def behind (c : Nat) (l : List Wi) : List Wi := Wi.srt (l.flatMap (Wi.parts c))
def sPB : PSp := fun ds Q => ∃ (l : List Wi) (c : Nat), ds = [.tuple (l.map Wi.enc), .str ⟨#[c]⟩] ∧ l.length ≤ 1000 ∧ (∀ w ∈ l, w.ok ∧ w.dep ≤ 15 ∧ w.sz ≤ 1000) ∧ Q (.tuple ((behind c l).map Wi.enc))
theorem part_ok {c : Nat} {w p : Wi} (hw : w.ok ∧ w.dep ≤ 15 ∧ w.sz ≤ 1000) (h : p ∈ Wi.parts c w) : p.ok ∧ p.dep ≤ 30 ∧ p.sz ≤ 100000 := by
  have h1 := Wi.pd_of h
  have h2 := Wi.pd_dep h1
  have h3 := Wi.pd_sz h1
  have h4 : w.sz * (w.dep + 1) ≤ 1000 * 16 := Nat.mul_le_mul hw.2.2 (by omega)
  exact ⟨Wi.ok_pd hw.1 h1, by omega, by omega⟩
theorem v_parts_behind (ds : List D) (Qd : D → Prop) (h : sPB ds Qd) : d_parts_behind (sPO 20) sSW { nx := fun _ _ => Qd .none, rt := fun d _ => Qd d } (start0 n_parts_behind.length (ds.map .val)) 0 := by
  obtain ⟨l, c, rfl, hl, hw, q⟩ := h
  -- what is gathered behind the first k wishes, and j parts of the next
  let U (k : Nat) : List Wi := (l.take k).flatMap (Wi.parts c)
  have hU : ∀ k, ∀ v ∈ U k, v.ok := fun k v hv => by
    obtain ⟨w, h1, h2⟩ := List.mem_flatMap.mp hv
    exact (part_ok (hw w (List.mem_of_mem_take h1)) h2).1
  have lenU : ∀ k, (U k).length ≤ 1000 * l.length := fun k => by
    have aux : ∀ m : List Wi, (∀ w ∈ m, w.sz ≤ 1000) → (m.flatMap (Wi.parts c)).length ≤ 1000 * m.length := by
      intro m
      induction m with
      | nil => intro _; simp
      | cons a m ih =>
        intro h
        have h1 := Wi.parts_len c a
        have h2 := h a List.mem_cons_self
        have h3 := ih fun b hb => h b (List.mem_cons_of_mem _ hb)
        rw [List.flatMap_cons, List.length_append, List.length_cons, Nat.mul_succ]
        omega
    have h1 := aux (l.take k) fun w hm => (hw w (List.mem_of_mem_take hm)).2.2
    have h2 : (l.take k).length ≤ l.length := by rw [List.length_take]; omega
    have h3 : 1000 * (l.take k).length ≤ 1000 * l.length := Nat.mul_le_mul_left _ h2
    exact Nat.le_trans h1 h3
  have once_len : ∀ k, (Wi.once (U k)).length ≤ 1000 * l.length := fun k => Nat.le_trans (Wi.len_once _) (lenU k)
  simp [d_parts_behind, start0, dFor, -Bool.exists_bool]
  refine ⟨fun k ρ n => ∃ y z u, ρ = [some (.val (.tuple (l.map Wi.enc))), some (.val (.str ⟨#[c]⟩)), some (.dic ((Wi.once (U k)).map Wi.ent)), y, z, u], ⟨none, none, none, by simp [U, Wi.once]⟩, ?_, ?_⟩
  · rintro k x ρ n w hk rfl ⟨y, z, u, rfl⟩
    have hwm : w ∈ l := List.mem_of_getElem? hk
    obtain ⟨o1, o2, o3⟩ := hw w hwm
    have eU : U (k + 1) = U k ++ Wi.parts c w := by
      show (l.take (k + 1)).flatMap _ = _
      rw [List.take_add_one, hk, List.flatMap_append]
      simp [U]
    simp [-Bool.exists_bool]
    refine ⟨w, c, rfl, by omega, by omega, by omega, o1, ?_⟩
    simp
    refine ⟨fun j ρ n => ∃ z, ρ = [some (.val (.tuple (l.map Wi.enc))), some (.val (.str ⟨#[c]⟩)), some (.dic ((((Wi.parts c w).take j).foldl Wi.ins (Wi.once (U k))).map Wi.ent)), some (.val w.enc), z, u], ⟨z, by simp⟩, ?_, ?_⟩
    · rintro j x ρ n p hj rfl ⟨z, rfl⟩
      have hpm : p ∈ Wi.parts c w := List.mem_of_getElem? hj
      obtain ⟨r1, r2, r3⟩ := part_ok ⟨o1, o2, o3⟩ hpm
      have hacc : ∀ v ∈ ((Wi.parts c w).take j).foldl Wi.ins (Wi.once (U k)), v.ok := fun v hv => by
        rcases (Wi.mem_foldl _ _ _).mp hv with h | h
        · exact hU k v (Wi.mem_once.mp h)
        · exact (part_ok ⟨o1, o2, o3⟩ (List.mem_of_mem_take h)).1
      have hlen := Wi.len_foldl ((Wi.parts c w).take j) (Wi.once (U k))
      have h2 := once_len k
      have h3 := Wi.parts_len c w
      have h4 : ((Wi.parts c w).take j).length ≤ (Wi.parts c w).length := by rw [List.length_take]; omega
      simp
      refine ⟨p, rfl, r3, ?_⟩
      simp
      refine ⟨by rw [sl24]; omega, ?_⟩
      rw [Wi.put_ent hacc r1, List.take_add_one, hj, List.foldl_append]
      rfl
    · rintro ρ n ⟨z, rfl⟩
      have e : (Wi.parts c w).foldl Wi.ins (Wi.once (U k)) = Wi.once (U (k + 1)) := by
        rw [eU]
        unfold Wi.once
        rw [List.foldl_append]
      simp [e]
  · rintro ρ n ⟨y, z, u, rfl⟩
    have eU : U l.length = l.flatMap (Wi.parts c) := by simp [U]
    rw [eU]
    have ll := Wi.len_srt (l.flatMap (Wi.parts c))
    have l2 := lenU l.length
    rw [eU] at l2
    have ho : ∀ v ∈ l.flatMap (Wi.parts c), v.ok := by rw [← eU]; exact hU _
    refine lcE (behind c l) (fun w => .str w.text) Wi.enc (fun Qi h => ?_) ?_ (by rw [sl24]; show (Wi.srt _).length ≤ _; omega) (by simpa using q)
    · simp
      exact srtd h
    · intro w hm Q hQ
      have hm' := Wi.mem_srt.mp hm
      simp
      exact ⟨_, Wi.look_ent (fun v hv => ho v (Wi.mem_once.mp hv)) (ho w hm') (Wi.mem_once.mpr hm'), hQ⟩
end K85

namespace K85
open PySem PySem.W PyProof.Rows L2 DL RT
theorem tk_nil (w : Wi) : w.tk [] = w.tv := by
  rw [Bool.eq_iff_iff, Wi.tk_iff, Wi.tv_iff]
/-! _law_wish_takes -/
noncomputable def sWT (m : Nat) : PSp := fun ds Q => ∃ (w : Wi) (x : Str), ds = [w.enc, .str x] ∧ w.dep + x.length < m ∧ x.length ≤ 1000 ∧ Q (.bool (w.tk x.cps.toList))
/-! _law_parts -/
def sLP (m : Nat) : PSp := fun ds Q => ∃ (w : Wi) (c : Nat), ds = [w.enc, .str ⟨#[c]⟩] ∧ w.dep < m ∧ w.dep ≤ 15 ∧ w.sz ≤ 1000 ∧ w.ok ∧ (Wi.sign c).ok ∧ Q (.list ((Wi.parts c w).map Wi.enc))
theorem v_law_parts {m : Nat} (ds : List D) (Qd : D → Prop) (h : sLP (m + 1) ds Qd) : d__law_parts (sLP m) sLTh (sWT 30) { nx := fun _ _ => Qd .none, rt := fun d _ => Qd d } (start0 n__law_parts.length (ds.map .val)) 0 := by
  obtain ⟨w, c, rfl, hd, hd15, hz, ho, hc, q⟩ := h
  have z0 : 0 ≤ sizeLine := Nat.zero_le _
  have z1 : 1 ≤ sizeLine := by rw [sl24]; omega
  have z2 : 2 ≤ sizeLine := by rw [sl24]; omega
  have pt : ∀ (a y : Wi), a.ok → a.dep ≤ 14 → ∀ p ∈ Wi.parts c a, p.dep ≤ 30 ∧ p.ok := fun a y h1 h2 p hp => by
    have h3 := Wi.pd_of hp
    have h4 := Wi.pd_dep h3
    exact ⟨by omega, Wi.ok_pd h1 h3⟩
  have first : ∀ {Q : D → Prop}, Q (.bool (decide (w = .sign c))) → gEq id w.enc (.tuple [.str "sign", .str ⟨#[c]⟩]) Q := fun {Q} hq => Wi.gEq_enc (f := id) (v := .sign c) ho (by omega) hc (by simp [Wi.dep]) hq
  simp [d__law_parts, start0, -Bool.exists_bool, z0, z1, z2]
  refine first ⟨_, rfl, ?_⟩
  cases w with
  | none => simpa [Wi.enc, Wi.parts, -Bool.exists_bool] using q
  | void => simpa [Wi.enc, Wi.parts, -Bool.exists_bool] using q
  | sign b =>
    by_cases h : b = c
    · subst h
      simpa [Wi.parts, Wi.enc] using q
    · simpa [Wi.parts, Wi.enc, h, -Bool.exists_bool] using q
  | or a b =>
    simp only [Wi.dep, Wi.sz] at hd hd15 hz
    have la := Wi.parts_len c a
    have lb := Wi.parts_len c b
    simp [Wi.enc, -Bool.exists_bool]
    refine ⟨a, c, rfl, by omega, by omega, by omega, ho.1, hc, b, c, rfl, by omega, by omega, by omega, ho.2, hc, ?_⟩
    simp only [v_cat, List.length_map]
    refine ⟨by rw [sl24]; omega, ?_⟩
    rw [← List.map_append]
    exact q
  | star a =>
    simp only [Wi.dep, Wi.sz] at hd hd15 hz
    have la := Wi.parts_len c a
    simp [Wi.enc, -Bool.exists_bool]
    refine lcE (Wi.parts c a) Wi.enc (fun p => (Wi.jn p (.star a)).enc) (fun Qi h => ?_) ?_ (by rw [sl24]; omega) ?_
    · simp [-Bool.exists_bool]
      exact ⟨a, c, rfl, by omega, by omega, by omega, ho, hc, h⟩
    · intro p hp Q hQ
      have := pt a a ho (by omega) p hp
      simp
      exact ⟨p, .star a, rfl, this.1, this.2, hQ⟩
    · have e : (Wi.parts c a).map (fun p => (Wi.jn p (.star a)).enc) = (Wi.parts c (.star a)).map Wi.enc := by
        show _ = ((Wi.parts c a).map (Wi.jn · (.star a))).map Wi.enc
        rw [List.map_map]
        rfl
      rw [e]
      exact q
  | thn a b =>
    simp only [Wi.dep, Wi.sz] at hd hd15 hz
    have la := Wi.parts_len c a
    have lb := Wi.parts_len c b
    have e : (Wi.parts c a).map (fun p => (Wi.jn p b).enc) = ((Wi.parts c a).map (Wi.jn · b)).map Wi.enc := by
      rw [List.map_map]
      rfl
    simp [Wi.enc, -Bool.exists_bool]
    refine lcE (Wi.parts c a) Wi.enc (fun p => (Wi.jn p b).enc) (fun Qi h => ?_) ?_ (by rw [sl24]; omega) ?_
    · simp [-Bool.exists_bool]
      exact ⟨a, c, rfl, by omega, by omega, by omega, ho.1, hc, h⟩
    · intro p hp Q hQ
      have := pt a a ho.1 (by omega) p hp
      simp
      exact ⟨p, b, rfl, this.1, this.2, hQ⟩
    · rw [e]
      have el : (Str.ofString "").length = 0 := by decide +kernel
      have et : (Str.ofString "").cps.toList = [] := by decide +kernel
      refine ⟨a, "", rfl, by rw [el]; omega, by rw [el]; omega, _, rfl, ?_⟩
      rw [et, tk_nil]
      rw [Wi.parts_thn] at q
      cases ht : a.tv with
      | false =>
        rw [ht] at q
        simpa using q
      | true =>
        rw [ht, if_pos rfl] at q
        simp only [if_true]
        simp [-Bool.exists_bool]
        refine ⟨b, c, rfl, by omega, by omega, by omega, ho.2, hc, ?_⟩
        simp
        refine ⟨by rw [sl24]; omega, ?_⟩
        simpa using q
end K85

namespace K85
open PySem PySem.W PyProof.Rows L2 DL RT
theorem str_eq {x y : Str} : x = y ↔ x.cps.toList = y.cps.toList := by
  constructor
  · intro h; rw [h]
  · intro h
    cases x with
    | mk a => cases y with
      | mk b => exact congrArg Str.mk (Array.toList_inj.mp h)
theorem cutS_to (x : Str) (k : Nat) : (cutS x none (some (k : Int))).cps.toList = x.cps.toList.take k := by
  unfold cutS
  have e1 : HT.sIx x.length 0 none = 0 := rfl
  have e2 : HT.sIx x.length x.length (some (k : Int)) = min k x.length := HT.sIx_nat _ _ _
  rw [e1, e2]
  have e3 : x.length = x.cps.toList.length := by simp [Str.length]
  rw [e3]
  simp
theorem cutS_from (x : Str) (k : Nat) : (cutS x (some (k : Int)) none).cps.toList = x.cps.toList.drop k := by
  unfold cutS
  have e1 : HT.sIx x.length 0 (some (k : Int)) = min k x.length := HT.sIx_nat _ _ _
  have e2 : HT.sIx x.length x.length none = x.length := rfl
  rw [e1, e2]
  have e3 : x.length = x.cps.toList.length := by simp [Str.length]
  rw [e3]
  simp
  by_cases h : k ≤ x.cps.toList.length
  · have h' : k ≤ x.cps.size := by simpa using h
    rw [Nat.min_eq_left h']
    exact List.take_of_length_le (by simp)
  · have h' : x.cps.size ≤ k := by
      have : x.cps.toList.length = x.cps.size := by simp
      omega
    rw [Nat.min_eq_right h', List.drop_eq_nil_of_le (by simpa using h')]
    simp
    exact h'
theorem slen (x : Str) : x.length = x.cps.toList.length := by simp [Str.length]
theorem tk_thn {a b : Wi} {x : List Nat} : (Wi.thn a b).tk x = true ↔ ∃ k, k ≤ x.length ∧ a.tk (x.take k) = true ∧ b.tk (x.drop k) = true := by
  simp only [Wi.tk_iff, Wi.Lng]
  constructor
  · rintro ⟨u, v, rfl, h1, h2⟩
    exact ⟨u.length, by simp, by simpa using h1, by simpa using h2⟩
  · rintro ⟨k, _, h1, h2⟩
    exact ⟨_, _, (List.take_append_drop k x).symm, h1, h2⟩
theorem tk_star {a : Wi} {x : List Nat} (hx : x ≠ []) : (Wi.star a).tk x = true ↔ ∃ k, 1 ≤ k ∧ k ≤ x.length ∧ a.tk (x.take k) = true ∧ (Wi.star a).tk (x.drop k) = true := by
  simp only [Wi.tk_iff]
  constructor
  · intro h
    have h' : Wi.Stl a.Lng x := h
    cases h' with
    | nil => exact absurd rfl hx
    | cons hn h1 h2 =>
      rename_i u v
      refine ⟨u.length, ?_, by simp, by simpa using h1, by simpa [Wi.Lng] using h2⟩
      cases u with
      | nil => exact absurd rfl hn
      | cons _ _ => simp
  · rintro ⟨k, h0, hk, h1, h2⟩
    show Wi.Stl a.Lng x
    rw [← List.take_append_drop k x]
    refine .cons ?_ h1 h2
    intro e
    have := congrArg List.length e
    rw [List.length_take, List.length_nil] at this
    omega
theorem v_law_wish_takes {m : Nat} (ds : List D) (Qd : D → Prop) (h : sWT (m + 1) ds Qd) : d__law_wish_takes (sWT m) { nx := fun _ _ => Qd .none, rt := fun d _ => Qd d } (start0 n__law_wish_takes.length (ds.map .val)) 0 := by
  obtain ⟨w, x, rfl, hd, hx, q⟩ := h
  have et : (Str.ofString "").cps.toList = [] := by decide +kernel
  have hxs : x.length ≤ sizeLine := by rw [sl24]; omega
  have he : decide (x = Str.ofString "") = decide (x.cps.toList = []) := by
    rw [decide_eq_decide, str_eq, et]
  cases w with
  | none =>
    have e : (Wi.none).tk x.cps.toList = false := by rw [← Bool.not_eq_true, Wi.tk_iff]; exact fun h => h
    rw [e] at q
    simpa [d__law_wish_takes, start0, Wi.enc, -Bool.exists_bool] using q
  | void =>
    have e : (Wi.void).tk x.cps.toList = decide (x.cps.toList = []) := by rw [Bool.eq_iff_iff, Wi.tk_iff, decide_eq_true_iff]; exact Iff.rfl
    rw [e, ← he] at q
    simpa [d__law_wish_takes, start0, Wi.enc, -Bool.exists_bool] using q
  | sign c =>
    have e : (Wi.sign c).tk x.cps.toList = decide (x = ⟨#[c]⟩) := by rw [Bool.eq_iff_iff, Wi.tk_iff, decide_eq_true_iff, str_eq]; exact Iff.rfl
    rw [e] at q
    simpa [d__law_wish_takes, start0, Wi.enc, -Bool.exists_bool] using q
  | or a b =>
    simp only [Wi.dep] at hd
    have e : (Wi.or a b).tk x.cps.toList = (a.tk x.cps.toList || b.tk x.cps.toList) := by
      rw [Bool.eq_iff_iff, Bool.or_eq_true, Wi.tk_iff, Wi.tk_iff, Wi.tk_iff]; exact Iff.rfl
    rw [e] at q
    simp [d__law_wish_takes, start0, Wi.enc, -Bool.exists_bool]
    refine ⟨a, x, rfl, by omega, hx, _, rfl, ?_⟩
    cases ha : a.tk x.cps.toList with
    | true => simpa [ha] using q
    | false => exact ⟨b, x, rfl, by omega, hx, by simpa [ha] using q⟩
  | thn a b =>
    simp only [Wi.dep] at hd
    simp [d__law_wish_takes, start0, Wi.enc, -Bool.exists_bool, hxs]
    refine forE (List.range (x.length + 1)) (fun t : Nat => .int (t : Int)) (fun Qi h => ?_) (fun k ρ n => ∃ y, ρ = [some (.val (.tuple [.str "then", a.enc, b.enc])), some (.val (.str x)), some (.val b.enc), y] ∧ ∀ t, t < k → ¬ (a.tk (x.cps.toList.take t) = true ∧ b.tk (x.cps.toList.drop t) = true)) ⟨none, rfl, fun t ht => by omega⟩ ?_ ?_
    · simp [hxs]
      refine ⟨by omega, by omega, ?_⟩
      have e : ranged 0 ((x.length : Int) + 1).toNat = (List.range (x.length + 1)).map fun t : Nat => PyData.int (t : Int) := by
        unfold ranged
        have : ((x.length : Int) + 1).toNat = x.length + 1 := by omega
        rw [this]
        simp
      have e2 : ranged 0 (x.length + 1) = (List.range (x.length + 1)).map fun t : Nat => PyData.int (t : Int) := by
        rw [← e]
        congr 1
      first
        | (rw [e]; exact h)
        | (rw [e2]; exact h)
    · rintro k t0 ρ n hk ⟨y, rfl, hno⟩
      obtain ⟨hk1, rfl⟩ := range_get hk
      have hk2 : t0 ≤ x.length := by omega
      have l1 : (cutS x none (some (t0 : Int))).length ≤ x.length := by rw [slen, cutS_to, List.length_take, ← slen]; omega
      have l2 : (cutS x (some (t0 : Int)) none).length ≤ x.length := by rw [slen, cutS_from, List.length_drop, ← slen]; omega
      simp [-Bool.exists_bool, hxs]
      refine ⟨a, _, rfl, by omega, by omega, _, rfl, ?_⟩
      rw [cutS_to]
      have last : ¬ (a.tk (x.cps.toList.take t0) = true ∧ b.tk (x.cps.toList.drop t0) = true) → ∀ t, t < t0 + 1 → ¬ (a.tk (x.cps.toList.take t) = true ∧ b.tk (x.cps.toList.drop t) = true) := fun h t ht => by
        by_cases e : t = t0
        · rw [e]; exact h
        · exact hno t (by omega)
      cases ha : a.tk (x.cps.toList.take t0) with
      | false =>
        simp only [Bool.false_eq_true, if_false]
        simpa using last (by rw [ha]; simp)
      | true =>
        simp only [if_true]
        refine ⟨b, _, rfl, by omega, by omega, _, rfl, ?_⟩
        rw [cutS_from]
        cases hb : b.tk (x.cps.toList.drop t0) with
        | false =>
          simp only [Bool.false_eq_true, if_false]
          simpa using last (by rw [hb]; simp)
        | true =>
          simp only [if_true]
          have e : (Wi.thn a b).tk x.cps.toList = true := tk_thn.mpr ⟨t0, by rw [← slen]; exact hk2, ha, hb⟩
          rw [e] at q
          exact q
    · rintro ρ n ⟨y, rfl, hno⟩
      have e : (Wi.thn a b).tk x.cps.toList = false := by
        rw [← Bool.not_eq_true, tk_thn]
        rintro ⟨k, hk, h1, h2⟩
        refine hno k ?_ ⟨h1, h2⟩
        rw [List.length_range]
        rw [← slen] at hk
        omega
      rw [e] at q
      exact q
  | star a =>
    simp only [Wi.dep] at hd
    by_cases hemp : x.cps.toList = []
    · have e : (Wi.star a).tk x.cps.toList = true := by rw [hemp, Wi.tk_iff]; exact .nil
      rw [e] at q
      have hx0 : x = Str.ofString "" := str_eq.mpr (by rw [et]; exact hemp)
      simpa [d__law_wish_takes, start0, Wi.enc, -Bool.exists_bool, hx0] using q
    have hx0 : ¬ x = Str.ofString "" := fun z => hemp (by rw [z]; exact et)
    simp [d__law_wish_takes, start0, Wi.enc, -Bool.exists_bool, hxs, hx0]
    refine forE (List.range x.length) (fun t : Nat => .int ((t + 1 : Nat) : Int)) (fun Qi h => ?_) (fun k ρ n => ∃ y, ρ = [some (.val (.tuple [.str "again", a.enc])), some (.val (.str x)), some (.val (.tuple [.str "again", a.enc])), y] ∧ ∀ t, t < k → ¬ (a.tk (x.cps.toList.take (t + 1)) = true ∧ (Wi.star a).tk (x.cps.toList.drop (t + 1)) = true)) ⟨none, rfl, fun t ht => by omega⟩ ?_ ?_
    · simp [hxs]
      refine ⟨by omega, by omega, ?_⟩
      have e : ranged 1 ((x.length : Int) + 1 - 1).toNat = (List.range x.length).map fun t : Nat => PyData.int ((t + 1 : Nat) : Int) := by
        unfold ranged
        have : ((x.length : Int) + 1 - 1).toNat = x.length := by omega
        rw [this]
        refine List.map_congr_left fun t _ => ?_
        congr 1
        omega
      have e2 : ranged 1 x.length = (List.range x.length).map fun t : Nat => PyData.int ((t + 1 : Nat) : Int) := by
        rw [← e]
        congr 1
        omega
      first
        | (rw [e]; exact h)
        | (rw [e2]; exact h)
    · rintro k t0 ρ n hk ⟨y, rfl, hno⟩
      obtain ⟨hk1, rfl⟩ := range_get hk
      have hk2 : t0 + 1 ≤ x.length := by omega
      have l1 : (cutS x none (some ((t0 + 1 : Nat) : Int))).length ≤ x.length := by rw [slen, cutS_to, List.length_take, ← slen]; omega
      have l2 : (cutS x (some ((t0 + 1 : Nat) : Int)) none).length + 1 ≤ x.length := by rw [slen, cutS_from, List.length_drop, ← slen]; omega
      generalize hg : ((t0 + 1 : Nat) : Int) = z at l1 l2
      simp [-Bool.exists_bool, hxs]
      refine ⟨a, _, rfl, by omega, by omega, _, rfl, ?_⟩
      rw [← hg, cutS_to]
      have last : ¬ (a.tk (x.cps.toList.take (t0 + 1)) = true ∧ (Wi.star a).tk (x.cps.toList.drop (t0 + 1)) = true) → ∀ t, t < t0 + 1 → ¬ (a.tk (x.cps.toList.take (t + 1)) = true ∧ (Wi.star a).tk (x.cps.toList.drop (t + 1)) = true) := fun h t ht => by
        by_cases e : t = t0
        · rw [e]; exact h
        · exact hno t (by omega)
      cases ha : a.tk (x.cps.toList.take (t0 + 1)) with
      | false =>
        simp only [Bool.false_eq_true, if_false]
        simpa using last (by rw [ha]; simp)
      | true =>
        simp only [if_true]
        refine ⟨.star a, _, rfl, ?_, by rw [hg]; omega, _, rfl, ?_⟩
        · rw [hg]; simp only [Wi.dep]; omega
        rw [cutS_from]
        cases hb : (Wi.star a).tk (x.cps.toList.drop (t0 + 1)) with
        | false =>
          simp only [Bool.false_eq_true, if_false]
          simpa using last (by rw [hb]; simp)
        | true =>
          simp only [if_true]
          have e : (Wi.star a).tk x.cps.toList = true := (tk_star hemp).mpr ⟨t0 + 1, by omega, by rw [← slen]; exact hk2, ha, hb⟩
          rw [e] at q
          exact q
    · rintro ρ n ⟨y, rfl, hno⟩
      have e : (Wi.star a).tk x.cps.toList = false := by
        rw [← Bool.not_eq_true, tk_star hemp]
        rintro ⟨k, hk0, hk, h1, h2⟩
        obtain ⟨j, rfl⟩ : ∃ j, k = j + 1 := ⟨k - 1, by omega⟩
        refine hno j ?_ ⟨h1, h2⟩
        rw [List.length_range]
        rw [← slen] at hk
        omega
      rw [e] at q
      exact q
end K85

namespace K85
open PySem PySem.W PyProof.Rows L2 DL RT
theorem slen' (x : Str) : x.length = x.cps.toList.length := by simp [Str.length]
/-! _law_words -/
def wtf (s : Nat) : Nat → Nat
  | 0 => 0
  | r + 1 => 1 + s * wtf s r
def phi (s most : Nat) (l : List Str) : Nat := (l.map fun x => wtf s (most - x.length)).sum
def sWords : PSp := fun ds Q => ∃ (sg : Str) (most : Nat), ds = [.str sg, .int (most : Int)] ∧ 1 ≤ sg.length ∧ sg.length ≤ 4 ∧ most ≤ 6 ∧ ∀ ws : List Str, (∀ x ∈ ws, x.length ≤ most) → ws.length ≤ 10000 → Q (.list (ws.map .str))
theorem sl1 (c : Nat) : (⟨#[c]⟩ : Str).length = 1 := rfl
theorem phi_ext {s most : Nat} {x : Str} (h : x.length < most) : ∀ l : List Nat, l.length = s → phi s most (l.map fun c => x ++ ⟨#[c]⟩) + 1 = wtf s (most - x.length) := fun l hl => by
  have aux : ∀ l : List Nat, phi s most (l.map fun c => x ++ ⟨#[c]⟩) = l.length * wtf s (most - (x.length + 1)) := by
    intro l
    induction l with
    | nil => simp [phi]
    | cons c l ih =>
      simp only [phi, List.map_cons, List.sum_cons, List.length_cons] at ih ⊢
      rw [ih, slen_app, sl1, Nat.succ_mul]
      omega
  rw [aux, hl]
  obtain ⟨r, hr⟩ : ∃ r, most - x.length = r + 1 := ⟨most - x.length - 1, by omega⟩
  rw [hr, show most - (x.length + 1) = r by omega]
  show s * wtf s r + 1 = 1 + s * wtf s r
  omega
def wdW (sg : Str) (most : Nat) (m : Nat) (ρ : Sl) (n : Nat) : Prop := ∃ (ws : List Str) (at_ : Nat) (y : Option Ent), at_ < ws.length ∧ (∀ x ∈ ws, x.length ≤ most) ∧ m = phi sg.length most (ws.drop at_) ∧ ws.length + sg.length * m ≤ 10000 ∧ ρ = [some (.val (.str sg)), some (.val (.int (most : Int))), some (.own (ws.map .str)), some (.val (.int (at_ : Int))), y]
theorem v_law_words (ds : List D) (Qd : D → Prop) (h : sWords ds Qd) : d__law_words { nx := fun _ _ => Qd .none, rt := fun d _ => Qd d } (start0 n__law_words.length (ds.map .val)) 0 := by
  obtain ⟨sg, most, rfl, hs1, hs4, hm, q⟩ := h
  have z1 : 1 ≤ sizeLine := by rw [sl24]; omega
  have el : (Str.ofString "").length = 0 := by decide +kernel
  have hb : ∀ s ≤ 4, ∀ r ≤ 6, s * wtf s r ≤ 9000 := by decide
  simp [d__law_words, start0, dWh, -Bool.exists_bool, z1]
  refine ⟨wdW sg most, ⟨_, [""], 0, none, by simp, ?_, rfl, ?_, rfl⟩, ?_⟩
  · intro x hx
    rw [List.mem_singleton.mp hx, el]
    omega
  · have := hb sg.length hs4 most hm
    simp [phi, el]
    omega
  rintro m ρ n ⟨ws, at_, y, hat, hws, rfl, hbd, rfl⟩
  obtain ⟨x, hx⟩ : ∃ x, ws[at_]? = some x := ⟨_, List.getElem?_eq_getElem hat⟩
  have hxm := hws x (List.mem_of_getElem? hx)
  have hxs : x.length ≤ sizeLine := by rw [sl24]; omega
  have hai : atI (ws.map PyData.str) (at_ : Int) = some (.str x) := atI_nat (by rw [List.getElem?_map, hx]; rfl)
  have hdrop : ws.drop at_ = x :: ws.drop (at_ + 1) := by
    rw [List.drop_eq_getElem_cons hat]
    congr 1
    have := List.getElem?_eq_getElem hat
    rw [hx] at this
    exact (Option.some.inj this).symm
  simp [-Bool.exists_bool, hai, hxs]
  by_cases hlt : x.length < most
  · rw [if_pos (by omega)]
    refine lcE sg.cps.toList (fun c => .str ⟨#[c]⟩) (fun c => .str (x ++ ⟨#[c]⟩)) (fun Qi h => by simpa using h) ?_ (by rw [← slen', sl24]; omega) ?_
    · intro c hc Q hQ
      simp [hai, hxs]
      refine ⟨?_, hQ⟩
      rw [sl1, sl24]; omega
    · have hl : sg.cps.toList.length = sg.length := (slen' sg).symm
      have h1 := phi_ext (s := sg.length) hlt sg.cps.toList hl
      refine ⟨?_, ?_⟩
      · simp only [List.length_map]; rw [hl, sl24]; omega
      · refine ⟨phi sg.length most ((ws ++ sg.cps.toList.map fun c => x ++ ⟨#[c]⟩).drop (at_ + 1)), ?_, ws ++ sg.cps.toList.map fun c => x ++ ⟨#[c]⟩, at_ + 1, y, ?_, ?_, rfl, ?_, ?_⟩
        · rw [List.drop_append_of_le_length (by omega), hdrop]
          simp only [phi, List.map_append, List.sum_append, List.map_cons, List.sum_cons] at h1 ⊢
          omega
        · rw [List.length_append, List.length_map, hl]; omega
        · intro z hz
          rcases List.mem_append.mp hz with hz | hz
          · exact hws z hz
          · obtain ⟨c, _, rfl⟩ := List.mem_map.mp hz
            rw [slen_app, sl1]; omega
        · rw [List.drop_append_of_le_length (by omega)]
          rw [hdrop] at hbd
          simp only [phi, List.map_append, List.sum_append, List.map_cons, List.sum_cons, List.length_append, List.length_map, hl] at h1 hbd ⊢
          rw [← h1] at hbd
          rw [Nat.mul_add] at hbd ⊢
          rw [Nat.mul_add] at hbd
          omega
        · simp [Function.comp_def]
  · rw [if_neg (by omega)]
    exact q ws hws (by omega)
/-! _law_wish -/
def cw : Nat → Nat
  | 0 => 2
  | d + 1 => 2 + 2 * cw d
def sgOk (sg : Str) : Prop := 1 ≤ sg.length ∧ sg.length ≤ 4 ∧ ∀ c ∈ sg.cps.toList, (Wi.sign c).ok
def sWish (m : Nat) : TSp := fun ds n Q => ∃ (sg : Str) (dp : Nat), ds = [.str sg, .int (dp : Int)] ∧ dp < m ∧ sgOk sg ∧ n + cw dp < 2 ^ 40 ∧ ∀ w : Wi, w.dep ≤ dp → w.ok → ∀ n', n ≤ n' → n' ≤ n + cw dp → Q w.enc n'
theorem v_law_wish {m : Nat} (ds : List D) (n : Nat) (Qd : D → Nat → Prop) (h : sWish (m + 1) ds n Qd) : d__law_wish spDraw (sWish m) { nx := fun _ m => Qd .none m, rt := fun d m => Qd d m } (start0 n__law_wish.length (.tape :: ds.map .val)) n := by
  obtain ⟨sg, dp, rfl, hdp, hsg, hn, q⟩ := h
  have z1 : 1 ≤ sizeLine := by rw [sl24]; omega
  have z2 : 2 ≤ sizeLine := by rw [sl24]; omega
  have z3 : 3 ≤ sizeLine := by rw [sl24]; omega
  simp [d__law_wish, start0, -Bool.exists_bool, z1, z2, z3]
  refine ⟨8, rfl, by decide, by decide, by omega, fun r hr0 hr8 => ?_⟩
  have hcw2 : 2 ≤ cw dp := by cases dp <;> simp [cw]
  have hlen : sg.cps.toList.length = sg.length := (slen' sg).symm
  have leaf : ∀ ρ : Sl, ρ[1]? = some (some (.val (.str sg))) → ρ.length = 6 → dLc (diSeq (dVarB 1)) (gN 5) tYesD (dTup (dCons (dC (PyData.str (Str.ofString "sign"))) (dCons (dVar 5) dNil))) [5] ρ (n + 1) fun ds m =>
          ds.length * 3 ≤ sizeLine ∧
            2 + (ds.length + (ds.length + ds.length)) ≤ sizeLine ∧
              spDraw [PyData.int (((ds.length : Nat) : Int) + (((ds.length : Nat) : Int) + ((ds.length : Nat) : Int)) + 1 + 1)] m fun y n2 =>
                gIx
                  (PyData.list
                    (PyData.tuple [PyData.str (Str.ofString "none")] ::
                      PyData.tuple [PyData.str (Str.ofString "void")] :: (ds ++ (ds ++ ds))))
                  y fun z => Qd z n2 := by
    intro ρ h1 h6
    refine lcE sg.cps.toList (fun c => .str ⟨#[c]⟩) (fun c => (Wi.sign c).enc) (fun Qi h => by simpa [h1] using h) ?_ (by rw [hlen, sl24]; have := hsg.2.1; omega) ?_
    · intro c hc Q hQ
      simp [h6, z2]
      exact hQ
    · have e3 : (sg.cps.toList.map fun c => (Wi.sign c).enc).length = sg.length := by rw [List.length_map, hlen]
      rw [e3]
      have h4 := hsg.2.1
      refine ⟨by rw [sl24]; omega, by rw [sl24]; omega, _, rfl, by omega, by omega, by omega, fun i hi0 hi1 => ?_⟩
      let S := sg.cps.toList.map Wi.sign
      have eS : (PyData.tuple [PyData.str (Str.ofString "none")] :: PyData.tuple [PyData.str (Str.ofString "void")] :: ((sg.cps.toList.map fun c => (Wi.sign c).enc) ++ ((sg.cps.toList.map fun c => (Wi.sign c).enc) ++ (sg.cps.toList.map fun c => (Wi.sign c).enc)))) = (Wi.none :: Wi.void :: (S ++ (S ++ S))).map Wi.enc := by
        simp [S, Wi.enc, Function.comp_def]
      rw [eS]
      obtain ⟨j, rfl⟩ := Int.eq_ofNat_of_zero_le hi0
      have lS : S.length = sg.length := by simp only [S, List.length_map]; exact hlen
      have lK : (Wi.none :: Wi.void :: (S ++ (S ++ S))).length = sg.length + (sg.length + sg.length) + 1 + 1 := by
        simp only [List.length_cons, List.length_append, lS]
      have hj : j < (Wi.none :: Wi.void :: (S ++ (S ++ S))).length := by rw [lK]; omega
      have hmem := List.getElem_mem hj
      refine ⟨_, atI_nat (by rw [List.getElem?_map, List.getElem?_eq_getElem hj]; rfl), ?_⟩
      have key : ((Wi.none :: Wi.void :: (S ++ (S ++ S)))[j]).dep = 0 ∧ ((Wi.none :: Wi.void :: (S ++ (S ++ S)))[j]).ok := by
        generalize (Wi.none :: Wi.void :: (S ++ (S ++ S)))[j] = w at hmem
        simp only [List.mem_cons, List.mem_append] at hmem
        have inS : w ∈ S → w.dep = 0 ∧ w.ok := fun h => by
          obtain ⟨c, hc, rfl⟩ := List.mem_map.mp h
          exact ⟨rfl, hsg.2.2 c hc⟩
        rcases hmem with rfl | rfl | h | h | h
        · exact ⟨rfl, trivial⟩
        · exact ⟨rfl, trivial⟩
        · exact inS h
        · exact inS h
        · exact inS h
      exact q _ (by omega) key.2 _ (by omega) (by omega)
  cases dp with
  | zero =>
    dsimp only
    rw [if_pos rfl]
    exact leaf _ rfl rfl
  | succ d =>
    have ed : ((d + 1 : Nat) : Int) - 1 = (d : Int) := by omega
    simp only [cw] at hn q
    dsimp only
    rw [if_neg (by omega)]
    refine ⟨_, rfl, ?_⟩
    refine iteD (fun h3 => leaf _ rfl rfl) fun h3 => ?_
    have sub : ∀ (n1 : Nat) (Q : D → Nat → Prop), n1 + cw d < 2 ^ 40 → (∀ w : Wi, w.dep ≤ d → w.ok → ∀ n', n1 ≤ n' → n' ≤ n1 + cw d → Q w.enc n') → sWish m [PyData.str sg, PyData.int (((d + 1 : Nat) : Int) - 1)] n1 Q := fun n1 Q hn1 hQ => ⟨sg, d, by rw [ed], by omega, hsg, hn1, hQ⟩
    refine ⟨_, rfl, iteD (fun h5 => ?_) fun h5 => ⟨_, rfl, iteD (fun h7 => ?_) fun h7 => ?_⟩⟩
    · refine sub _ _ (by omega) fun a ha oa n1 l1 u1 => sub _ _ (by omega) fun b hb ob n2 l2 u2 => ?_
      exact q (.or a b) (by simp only [Wi.dep]; omega) ⟨oa, ob⟩ n2 (by omega) (by omega)
    · refine sub _ _ (by omega) fun a ha oa n1 l1 u1 => sub _ _ (by omega) fun b hb ob n2 l2 u2 => ?_
      exact q (.thn a b) (by simp only [Wi.dep]; omega) ⟨oa, ob⟩ n2 (by omega) (by omega)
    · refine sub _ _ (by omega) fun a ha oa n1 l1 u1 => ?_
      exact q (.star a) (by simp only [Wi.dep]; omega) oa n1 (by omega) (by omega)
end K85

namespace K85
open PySem PySem.W PyProof.Rows L2 DL RT
theorem nodup_le : ∀ (l m : List Wi), l.Nodup → (∀ x ∈ l, x ∈ m) → l.length ≤ m.length
  | [], m, _, _ => Nat.zero_le _
  | a :: l, m, hn, h => by
    have hn' := List.nodup_cons.mp hn
    have ha := h a List.mem_cons_self
    have ih := nodup_le l (m.erase a) hn'.2 fun x hx => (List.mem_erase_of_ne (fun e => hn'.1 (by rw [← e]; exact hx))).mpr (h x (List.mem_cons_of_mem _ hx))
    rw [List.length_erase_of_mem ha] at ih
    have : 0 < m.length := List.length_pos_of_mem ha
    rw [List.length_cons]
    omega
/-- wishes that stem from few little ones -/
structure Good (U l : List Wi) : Prop where
  few : U.length ≤ 3
  ok : ∀ u ∈ U, u.dep ≤ 3 ∧ u.ok
  of : ∀ w ∈ l, ∃ u ∈ U, w = u ∨ w ∈ u.pd
  nd : l.Nodup
theorem Good.each {U l : List Wi} (g : Good U l) {w : Wi} (h : w ∈ l) : w.ok ∧ w.dep ≤ 6 ∧ w.sz ≤ 64 := by
  obtain ⟨u, hu, e⟩ := g.of w h
  obtain ⟨h1, h2⟩ := g.ok u hu
  have h3 := Wi.sz_dep u
  have h4 : 2 ^ (u.dep + 1) ≤ 2 ^ 4 := Nat.pow_le_pow_right (by decide) (by omega)
  rcases e with rfl | e
  · exact ⟨h2, by omega, by omega⟩
  · have h5 := Wi.pd_dep e
    have h6 := Wi.pd_sz e
    have h7 : u.sz * (u.dep + 1) ≤ 15 * 4 := Nat.mul_le_mul (by omega) (by omega)
    exact ⟨Wi.ok_pd h2 e, by omega, by omega⟩
theorem Good.len {U l : List Wi} (g : Good U l) : l.length ≤ 48 := by
  have h1 := nodup_le l (U.flatMap fun u => u :: u.pd) g.nd fun w hw => by
    obtain ⟨u, hu, e⟩ := g.of w hw
    exact List.mem_flatMap.mpr ⟨u, hu, by rcases e with rfl | e; exact List.mem_cons_self; exact List.mem_cons_of_mem _ e⟩
  have aux : ∀ m : List Wi, (∀ u ∈ m, u.dep ≤ 3 ∧ u.ok) → (m.flatMap fun u => u :: u.pd).length ≤ 16 * m.length := by
    intro m
    induction m with
    | nil => intro _; simp
    | cons u m ih =>
      intro h
      have h3 := Wi.sz_dep u
      have h4 : 2 ^ (u.dep + 1) ≤ 2 ^ 4 := Nat.pow_le_pow_right (by decide) (by have := (h u List.mem_cons_self).1; omega)
      have h5 := Wi.pd_len u
      have h6 := ih fun v hv => h v (List.mem_cons_of_mem _ hv)
      rw [List.flatMap_cons, List.length_append, List.length_cons, List.length_cons]
      omega
  have h2 := aux U g.ok
  have := g.few
  omega
theorem Good.step {U l : List Wi} (g : Good U l) (c : Nat) : Good U (behind c l) := ⟨g.few, g.ok, fun w hw => by
  obtain ⟨v, hv, hp⟩ := List.mem_flatMap.mp (Wi.mem_srt.mp hw)
  obtain ⟨u, hu, e⟩ := g.of v hv
  refine ⟨u, hu, .inr ?_⟩
  rcases e with rfl | e
  · exact Wi.pd_of hp
  · exact Wi.pd_step e hp, Wi.nodup_srt _⟩
theorem Good.start {l : List Wi} (h : l.length ≤ 3) (ho : ∀ w ∈ l, w.dep ≤ 3 ∧ w.ok) : Good l (Wi.srt l) := ⟨h, ho, fun w hw => ⟨w, Wi.mem_srt.mp hw, .inl rfl⟩, Wi.nodup_srt _⟩
/-! their repr -/
theorem bulk_enc (w : Wi) : PyData.bulk w.enc ≤ 7 * w.sz := by
  have n1 : (Str.ofString "none").cps.size = 4 := by decide +kernel
  have n2 : (Str.ofString "void").cps.size = 4 := by decide +kernel
  have n3 : (Str.ofString "or").cps.size = 2 := by decide +kernel
  have n4 : (Str.ofString "then").cps.size = 4 := by decide +kernel
  have n5 : (Str.ofString "again").cps.size = 5 := by decide +kernel
  have n6 : (Str.ofString "sign").cps.size = 4 := by decide +kernel
  induction w with
  | none => simp [Wi.enc, PyData.bulk, PyData.bulkAll, Wi.sz, n1]
  | void => simp [Wi.enc, PyData.bulk, PyData.bulkAll, Wi.sz, n2]
  | sign c => simp [Wi.enc, PyData.bulk, PyData.bulkAll, Wi.sz, n6]
  | or a b h1 h2 => simp only [Wi.enc, PyData.bulk, PyData.bulkAll, Wi.sz, n3]; omega
  | thn a b h1 h2 => simp only [Wi.enc, PyData.bulk, PyData.bulkAll, Wi.sz, n4]; omega
  | star a h1 => simp only [Wi.enc, PyData.bulk, PyData.bulkAll, Wi.sz, n5]; omega
theorem short_str {x : Str} (h : PyData.strOk x = true) : PyData.leavesShort 8 (.str x) = true := by
  simp only [PyData.leavesShort, List.all_eq_true, decide_eq_true_eq]
  intro c hc
  have h2 : x.cps.all (· < 0x110000) = true := h
  rw [Array.all_eq_true_iff_forall_mem] at h2
  have := h2 c (by simpa using hc)
  simp at this
  have e : (16 : Nat) ^ 8 = 4294967296 := by decide
  omega
theorem short_enc : ∀ w : Wi, w.ok → PyData.leavesShort 8 w.enc = true
  | .none, _ => by simp only [Wi.enc, PyData.leavesShort, PyData.leavesShortAll]; have := short_str (Wi.lay_str "none"); simp only [PyData.leavesShort] at this; rw [this]; rfl
  | .void, _ => by simp only [Wi.enc, PyData.leavesShort, PyData.leavesShortAll]; have := short_str (Wi.lay_str "void"); simp only [PyData.leavesShort] at this; rw [this]; rfl
  | .sign c, h => by
    have h1 := short_str (Wi.lay_str "sign"); have h2 := short_str (Wi.lay_sg h.1)
    rw [Wi.enc, PyData.leavesShort, PyData.leavesShortAll, h1, PyData.leavesShortAll, h2, PyData.leavesShortAll]; rfl
  | .or a b, h => by
    have h1 := short_str (Wi.lay_str "or")
    rw [Wi.enc, PyData.leavesShort, PyData.leavesShortAll, h1, PyData.leavesShortAll, short_enc a h.1, PyData.leavesShortAll, short_enc b h.2, PyData.leavesShortAll]; rfl
  | .thn a b, h => by
    have h1 := short_str (Wi.lay_str "then")
    rw [Wi.enc, PyData.leavesShort, PyData.leavesShortAll, h1, PyData.leavesShortAll, short_enc a h.1, PyData.leavesShortAll, short_enc b h.2, PyData.leavesShortAll]; rfl
  | .star a, h => by
    have h1 := short_str (Wi.lay_str "again")
    rw [Wi.enc, PyData.leavesShort, PyData.leavesShortAll, h1, PyData.leavesShortAll, short_enc a h, PyData.leavesShortAll]; rfl
theorem show_enc : ∀ w : Wi, PyData.showable w.enc = true
  | .none | .void | .sign _ => by simp [Wi.enc, PyData.showable, PyData.showableAll]
  | .or a b => by simp [Wi.enc, PyData.showable, PyData.showableAll, show_enc a, show_enc b]
  | .thn a b => by simp [Wi.enc, PyData.showable, PyData.showableAll, show_enc a, show_enc b]
  | .star a => by simp [Wi.enc, PyData.showable, PyData.showableAll, show_enc a]
theorem gRepr_good {U l : List Wi} (g : Good U l) {Q : D → Prop} (q : Q (.str (PyData.tuple (l.map Wi.enc)).shown)) : gRepr (.tuple (l.map Wi.enc)) Q := by
  have hl := g.len
  have each : ∀ m : List Wi, (∀ w ∈ m, w.ok ∧ w.dep ≤ 6 ∧ w.sz ≤ 64) → PyData.canLayAll0 (m.map Wi.enc) = true ∧ PyData.showableAll (m.map Wi.enc) = true ∧ PyData.depthAll (m.map Wi.enc) ≤ 8 ∧ PyData.leavesShortAll 8 (m.map Wi.enc) = true ∧ PyData.bulkAll (m.map Wi.enc) ≤ 449 * m.length := by
    intro m
    induction m with
    | nil => intro _; simp [PyData.canLayAll0, PyData.showableAll, PyData.depthAll, PyData.leavesShortAll, PyData.bulkAll]
    | cons w m ih =>
      intro h
      obtain ⟨h1, h2, h3⟩ := h w List.mem_cons_self
      obtain ⟨i1, i2, i3, i4, i5⟩ := ih fun v hv => h v (List.mem_cons_of_mem _ hv)
      have h4 := Wi.depth_enc w
      have h5 := bulk_enc w
      refine ⟨?_, ?_, ?_, ?_, ?_⟩
      · rw [List.map_cons, PyData.canLayAll0, Wi.lay_enc w h1, i1]; rfl
      · rw [List.map_cons, PyData.showableAll, show_enc w, i2]; rfl
      · rw [List.map_cons, PyData.depthAll]; omega
      · rw [List.map_cons, PyData.leavesShortAll, short_enc w h1, i4]; rfl
      · rw [List.map_cons, PyData.bulkAll, List.length_cons]; omega
  obtain ⟨i1, i2, i3, i4, i5⟩ := each l fun w hw => g.each hw
  have hc : PyData.canLay0 (.tuple (l.map Wi.enc)) = true := by rw [PyData.canLay0]; exact i1
  refine ⟨.inr ⟨_, rfl⟩, by rw [DL.noDict]; exact Wi.noDicts_enc l, PyData.hasDict_of_canLay _ hc, by rw [PyData.showable]; exact i2, by rw [PyData.depth]; omega, ?_, q⟩
  have h := PyData.shown_le_bulk 8 (by decide) (.tuple (l.map Wi.enc)) (by rw [PyData.leavesShort]; exact i4)
  rw [PyData.bulk] at h
  rw [sl24]
  omega
end K85

namespace K85
open PySem PySem.W PyProof.Rows L2 DL RT
theorem forP {α : Type} (e : α → D) (P : List α → Prop) {ti : DI} {i : Nat} {tb : DS} {Dd : DEnds} {ρ : Sl} {m : Nat} (hti : ∀ Qi : List D → Nat → Prop, (∀ l, P l → Qi (l.map e) m) → ti ρ m Qi) (W : Nat → Sl → Nat → Prop) (w0 : W 0 ρ m)
    (turn : ∀ l k a ρ n, P l → a ∈ l → W k ρ n → tb { Dd with nx := W (k + 1), ct := W (k + 1), bk := Dd.nx } (ρ.set i (some (.val (e a)))) n) (fin : ∀ k ρ n, W k ρ n → Dd.nx ρ n) : dFor ti (gN i) tb Dd ρ m := by
  refine hti _ fun l hl => ⟨W, w0, fun k x ρ n hx hw => ?_, fun ρ n hw => fin _ ρ n hw⟩
  rw [List.getElem?_map] at hx
  cases ha : l[k]? with
  | none => rw [ha] at hx; cases hx
  | some a =>
    rw [ha] at hx
    cases hx
    exact turn l k a ρ n hl (List.mem_of_getElem? ha) hw
theorem lcQ {ti : DI} {i : Nat} {te : DE} {ρ : Sl} {m : Nat} {QO : List D → Nat → Prop} (N c : Nat) (P : D → Prop) (hti : ∀ Qi : List D → Nat → Prop, (∀ items : List D, items.length ≤ N → Qi items (m + 1)) → ti ρ m Qi)
    (h : ∀ x n, m ≤ n → n ≤ m + 1 + c * N → ∀ Q : D → Nat → Prop, (∀ y n', P y → n ≤ n' → n' ≤ n + c → Q y n') → te ((wipeD ρ [i]).set i (some (.val x))) n Q) (hN : N ≤ sizeLine) (hq : ∀ ys n, ys.length ≤ N → (∀ y ∈ ys, P y) → n ≤ m + 1 + c * N → QO ys n) : dLc ti (gN i) tYesD te [i] ρ m QO :=
  hti _ fun items hl => lc_any P (c := c) (fun x hx n h1 h2 Q hQ => h x n (by omega) (Nat.le_trans h2 (Nat.add_le_add_left (Nat.mul_le_mul_left _ hl) _)) Q hQ) (Nat.le_trans hl hN) fun ys n h1 h2 h3 h4 => hq ys n (by omega) h2 (Nat.le_trans h4 (Nat.add_le_add_left (Nat.mul_le_mul_left _ hl) _))
theorem encs_of : ∀ ys : List D, (∀ y ∈ ys, ∃ w : Wi, y = w.enc ∧ w.dep ≤ 3 ∧ w.ok) → ∃ l : List Wi, ys = l.map Wi.enc ∧ ∀ w ∈ l, w.dep ≤ 3 ∧ w.ok
  | [], _ => ⟨[], rfl, by simp⟩
  | y :: ys, h => by
    obtain ⟨w, rfl, h1⟩ := h y List.mem_cons_self
    obtain ⟨l, rfl, h2⟩ := encs_of ys fun z hz => h z (List.mem_cons_of_mem _ hz)
    refine ⟨w :: l, rfl, fun v hv => ?_⟩
    rcases List.mem_cons.mp hv with rfl | hv
    · exact h1
    · exact h2 v hv
/-! law -/
noncomputable def B2 : DS := (dSeq (dSet 6 (dOp gIx (dVarB 2) (dCallT 1 spDraw (dCons (d1 gLen (dVarB 2)) dNil))))
    (dSeq (dSetO 7 (dLst dNil))
    (dSeq (dFor (diSeq (dVar 4)) (gN 8)
    (dExt 7 (dCallP (sLP 20) (dCons (dVar 8) (dCons (dVar 6) dNil)))))
    (dSeq (dSet 7 (dCallPB sSet (dCons (dVarB 7) dNil)))
    (dSeq (dSet 9 (d1 gRepr (dVarB 4)))
    (dSeq (dIfS (tOrD (tBoolD (dOp (gEq not) (d1 gRepr (dCallP sPB (dCons (dVar 4) (dCons (dVar 6) dNil)))) (d1 gRepr (dVarB 7)))) (tBoolD (dOp (gEq not) (d1 gRepr (dVarB 4)) (dVarB 9))))
    (dRet (dC (.bool false)))
    dNext)
    (dSeq (dFor (diSeq (dCallP sWords (dCons (dVar 2) (dCons (dC (.int 2)) dNil)))) (gN 10)
    (dIfS (tBoolD (dOp (gEq not) (dOp (gIn id) (dC (.bool true)) (dList (dLc (diSeq (dVarB 7)) (gN 11) tYesD (dCallP (sWT 30) (dCons (dVar 11) (dCons (dVar 10) dNil))) [11]))) (dOp (gIn id) (dC (.bool true)) (dList (dLc (diSeq (dVarB 4)) (gN 11) tYesD (dCallP (sWT 30) (dCons (dVar 11) (dCons (dOp gAdd (dVarB 6) (dVarB 10)) dNil))) [11])))))
    (dRet (dC (.bool false)))
    dNext))
    (dSet 4 (dVar 7)))))))))
theorem any_tk {l : List Wi} {c : Nat} {x : List Nat} : ((behind c l).any fun w => w.tk x) = l.any fun w => w.tk (c :: x) := by
  rw [Bool.eq_iff_iff]
  simp only [List.any_eq_true, Wi.tk_iff]
  constructor
  · rintro ⟨p, hp, h⟩
    obtain ⟨w, hw, hp2⟩ := List.mem_flatMap.mp (Wi.mem_srt.mp hp)
    exact ⟨w, hw, (Wi.parts_lng c w x).mp ⟨p, hp2, h⟩⟩
  · rintro ⟨w, hw, h⟩
    obtain ⟨p, hp, h2⟩ := (Wi.parts_lng c w x).mpr h
    exact ⟨p, Wi.mem_srt.mpr (List.mem_flatMap.mpr ⟨w, hw, hp⟩), h2⟩
theorem in_true {l : List Wi} {f : Wi → Bool} {Q : D → Prop} (q : Q (.bool (l.any f))) : gIn id (.bool true) (.list (l.map fun w => .bool (f w))) Q := by
  refine ⟨.inl ⟨rfl, ?_⟩, ?_⟩
  · rw [List.all_eq_true]
    intro d hd
    obtain ⟨w, _, rfl⟩ := List.mem_map.mp hd
    rfl
  · have e : ((l.map fun w => PyData.bool (f w)).any fun z => PyData.eqv z (.bool true)) = l.any f := by
      rw [List.any_map]
      congr 1
      funext w
      show PyData.eqv (.bool (f w)) (.bool true) = f w
      rw [v_eqvB]
      cases f w <;> rfl
    rw [e]
    exact q
theorem v_B2 {Dd : DEnds} {U l : List Wi} (g : Good U l) {sg : Str} (hsg : sgOk sg) {n : Nat} (hn : n < 2 ^ 39) {a0 a3 a5 a6 a7 a8 a9 a10 a11 : Option Ent}
    (K : ∀ c b6 b7 b8 b9 b10 b11, Dd.nx [a0, some .tape, some (.val (.str sg)), a3, some (.val (.tuple ((behind c l).map Wi.enc))), a5, b6, b7, b8, b9, b10, b11] (n + 1)) :
    B2 Dd [a0, some .tape, some (.val (.str sg)), a3, some (.val (.tuple (l.map Wi.enc))), a5, a6, a7, a8, a9, a10, a11] n := by
  have z0 : 0 ≤ sizeLine := Nat.zero_le _
  have hsl : sg.length ≤ sizeLine := by rw [sl24]; have := hsg.2.1; omega
  have hlen := g.len
  have hslen : sg.cps.toList.length = sg.length := (slen sg).symm
  simp [B2, -Bool.exists_bool, z0, hsl]
  refine ⟨_, rfl, by have := hsg.1; omega, by have := hsg.2.1; omega, by omega, fun r hr0 hr1 => ?_⟩
  obtain ⟨j, rfl⟩ := Int.eq_ofNat_of_zero_le hr0
  have hj : j < sg.cps.toList.length := by rw [hslen]; omega
  obtain ⟨c, hc⟩ : ∃ c, sg.cps.toList[j]? = some c := ⟨_, List.getElem?_eq_getElem hj⟩
  have hcok := hsg.2.2 c (List.mem_of_getElem? hc)
  refine ⟨c, hsl, atI_nat hc, ?_⟩
  show dFor _ _ _ _ _ _
  -- what is due, gathered
  have hsz : ∀ w ∈ l, ((Wi.parts c w).map Wi.enc).length ≤ 64 := fun w hw => by
    have := Wi.parts_len c w
    have := (g.each hw).2.2
    rw [List.length_map]; omega
  obtain ⟨L, l0, l1, l2⟩ := accF (fun w => (Wi.parts c w).map Wi.enc) l hsz (by rw [sl24]; omega)
  refine forE l Wi.enc (fun Qi h => by simpa using h) (fun k ρ m => m = n + 1 ∧ ∃ y, ρ = [a0, some .tape, some (.val (.str sg)), a3, some (.val (.tuple (l.map Wi.enc))), a5, some (.val (.str ⟨#[c]⟩)), some (.own (L k)), y, a9, a10, a11]) ⟨rfl, a8, by rw [l0]⟩ ?_ ?_
  · rintro k w ρ m hk ⟨rfl, y, rfl⟩
    have hw := List.mem_of_getElem? hk
    obtain ⟨o1, o2, o3⟩ := g.each hw
    obtain ⟨e1, e2⟩ := l1 k w hk
    simp [-Bool.exists_bool]
    refine ⟨w, c, rfl, by omega, by omega, by omega, o1, hcok, ?_⟩
    refine ⟨_, rfl, e2, ?_⟩
    rw [e1]
  rintro ρ m ⟨rfl, y, rfl⟩
  rw [l2]
  have e2 : (l.flatMap fun w => (Wi.parts c w).map Wi.enc) = (l.flatMap (Wi.parts c)).map Wi.enc := by
    rw [List.map_flatMap]
  rw [e2]
  have allok : ∀ w ∈ l.flatMap (Wi.parts c), w.ok ∧ w.dep ≤ 40 ∧ w.sz ≤ 100000 := fun p hp => by
    obtain ⟨w, hw, hp2⟩ := List.mem_flatMap.mp hp
    obtain ⟨o1, o2, o3⟩ := g.each hw
    obtain ⟨r1, r2, r3⟩ := part_ok (c := c) (w := w) ⟨o1, by omega, by omega⟩ hp2
    exact ⟨r1, by omega, r3⟩
  have alllen : (l.flatMap (Wi.parts c)).length ≤ 100000 := by
    have h1 : (l.flatMap fun w => (Wi.parts c w).map Wi.enc).length ≤ 64 * l.length := by
      clear l0 l1 l2 L K allok e2
      have aux : ∀ m : List Wi, (∀ w ∈ m, ((Wi.parts c w).map Wi.enc).length ≤ 64) → (m.flatMap fun w => (Wi.parts c w).map Wi.enc).length ≤ 64 * m.length := by
        intro m
        induction m with
        | nil => intro _; simp
        | cons w m ih =>
          intro h
          have h1 := h w List.mem_cons_self
          have h2 := ih fun v hv => h v (List.mem_cons_of_mem _ hv)
          rw [List.flatMap_cons, List.length_append, List.length_cons]
          omega
      exact aux l hsz
    rw [e2, List.length_map] at h1
    omega
  have g' := g.step c
  simp [-Bool.exists_bool]
  refine ⟨_, rfl, alllen, allok, ?_⟩
  show flatD (.tuple ((behind c l).map Wi.enc)) = true ∧ _
  refine ⟨by rw [flatD]; exact Wi.flats_enc _, ?_⟩
  refine gRepr_good g ?_
  refine ⟨l, c, rfl, by omega, fun w hw => ?_, ?_⟩
  · obtain ⟨o1, o2, o3⟩ := g.each hw
    exact ⟨o1, by omega, by omega⟩
  refine gRepr_good g' (gRepr_good g' ?_)
  simp [-Bool.exists_bool]
  refine gRepr_good g ?_
  simp [-Bool.exists_bool]
  -- the words
  refine forP PyData.str (fun ws => ∀ x ∈ ws, x.length ≤ 2) (fun Qi h => ?_) (fun k ρ m => m = n + 1 ∧ ∃ y10 y11, ρ = [a0, some .tape, some (.val (.str sg)), a3, some (.val (.tuple (l.map Wi.enc))), a5, some (.val (.str ⟨#[c]⟩)), some (.val (.tuple ((behind c l).map Wi.enc))), y, some (.val (.str (PyData.tuple (l.map Wi.enc)).shown)), y10, y11]) ⟨rfl, a10, a11, rfl⟩ ?_ ?_
  · simp
    exact ⟨sg, 2, rfl, hsg.1, hsg.2.1, by decide, fun ws h1 h2 => h ws h1⟩
  · rintro ws k x ρ m hws hx ⟨rfl, y10, y11, rfl⟩
    have hx2 := hws x hx
    simp [-Bool.exists_bool, -v_inBL]
    have ex : (⟨#[c]⟩ ++ x : Str).cps.toList = c :: x.cps.toList := by
      show (#[c] ++ x.cps).toList = _
      simp
    refine lcE (behind c l) Wi.enc (fun w => .bool (w.tk x.cps.toList)) (fun Qi h => by simpa using h) ?_ (by have := g'.len; rw [sl24]; omega) ?_
    · intro w hw Q hQ
      have o := (g'.each hw).2.1
      simp
      exact ⟨w, x, rfl, by omega, by omega, hQ⟩
    refine in_true ?_
    refine lcE l Wi.enc (fun w => .bool (w.tk (c :: x.cps.toList))) (fun Qi h => by simpa using h) ?_ (by rw [sl24]; omega) ?_
    · intro w hw Q hQ
      have o := (g.each hw).2.1
      simp
      refine ⟨by rw [sl1, sl24]; omega, w, ⟨#[c]⟩ ++ x, rfl, ?_, ?_, ?_⟩
      · rw [slen_app, sl1]; omega
      · rw [slen_app, sl1]; omega
      · rw [ex]; exact hQ
    refine in_true ?_
    rw [any_tk]
    simp
  · rintro k ρ m ⟨rfl, y10, y11, rfl⟩
    simp
    exact K c _ _ _ _ _ _
theorem cw3 : cw 3 ≤ 100 := by decide
theorem v_law : d_law spDraw (sLP 20) sSet (sWish 5) (sWT 30) sWords sPB { nx := fun _ _ => False, rt := fun d _ => d = .bool true } ((List.replicate n_law.length none).set 1 (some .tape)) 0 := by
  have z4 : 4 ≤ sizeLine := by rw [sl24]; omega
  have okS : ∀ s : Str, s ∈ [(Str.ofString "ab"), Str.ofString "a", Str.ofString "abc", Str.ofString "oz"] → sgOk s := by
    have aux : ∀ s : Str, (decide (1 ≤ s.length) && decide (s.length ≤ 4) && s.cps.toList.all fun c => decide (c < 0x110000) && decide (c ≠ 32)) = true → sgOk s := fun s h => by
      simp only [Bool.and_eq_true, decide_eq_true_eq, List.all_eq_true] at h
      exact ⟨h.1.1, h.1.2, fun c hc => h.2 c hc⟩
    intro s hs
    simp only [List.mem_cons, List.not_mem_nil, or_false] at hs
    rcases hs with rfl | rfl | rfl | rfl
    · exact aux _ (by decide +kernel)
    · exact aux _ (by decide +kernel)
    · exact aux _ (by decide +kernel)
    · exact aux _ (by decide +kernel)
  show dSeq (dSet 2 _) (dSeq (dFor (diRg1 (dC (.int 2))) (gN 3) (dSeq (dSet 4 _) (dFor (diRg1 (dC (.int 3))) (gN 5) B2))) (dRet (dC (.bool true)))) _ _ _
  have e0 : (List.replicate n_law.length (none : Option Ent)).set 1 (some .tape) = [none, some .tape, none, none, none, none, none, none, none, none, none, none] := rfl
  rw [e0]
  simp [-Bool.exists_bool, z4]
  refine ⟨4, rfl, by decide, by decide, by decide, fun r hr0 hr1 => ?_⟩
  obtain ⟨j, rfl⟩ := Int.eq_ofNat_of_zero_le hr0
  have hj : j < ([(Str.ofString "ab"), Str.ofString "a", Str.ofString "abc", Str.ofString "oz"]).length := by
    show j < 4
    omega
  obtain ⟨sg, hsg⟩ : ∃ sg, ([(Str.ofString "ab"), Str.ofString "a", Str.ofString "abc", Str.ofString "oz"])[j]? = some sg := ⟨_, List.getElem?_eq_getElem hj⟩
  have hok := okS sg (List.mem_of_getElem? hsg)
  refine ⟨.str sg, atI_nat (by
    have e : [PyData.str (Str.ofString "ab"), PyData.str (Str.ofString "a"), PyData.str (Str.ofString "abc"), PyData.str (Str.ofString "oz")] = ([(Str.ofString "ab"), Str.ofString "a", Str.ofString "abc", Str.ofString "oz"]).map PyData.str := rfl
    rw [e, List.getElem?_map, hsg]
    rfl), ?_⟩
  refine forE (List.range 2) (fun t : Nat => .int (t : Int)) (fun Qi h => ?_) (fun k ρ m => m ≤ 1 + 400 * k ∧ ∃ b3 b4 b5 b6 b7 b8 b9 b10 b11, ρ = [none, some .tape, some (.val (.str sg)), b3, b4, b5, b6, b7, b8, b9, b10, b11]) ⟨by omega, none, none, none, none, none, none, none, none, none, rfl⟩ ?_ ?_
  · have e : ranged 0 2 = (List.range 2).map fun t : Nat => PyData.int (t : Int) := by unfold ranged; simp
    rw [v_diRg1, v_c, v_rg1]
    refine ⟨by decide, by decide, ?_⟩
    show Qi (ranged 0 2) _
    rw [e]; exact h
  · rintro k t ρ m hk ⟨hm, b3, b4, b5, b6, b7, b8, b9, b10, b11, rfl⟩
    have hk2 : k < 2 := by simpa using (range_get hk).1
    simp [-Bool.exists_bool]
    refine lcQ 3 40 (fun y => ∃ w : Wi, y = w.enc ∧ w.dep ≤ 3 ∧ w.ok) (fun Qi h => ?_) ?_ (by rw [sl24]; omega) ?_
    · simp
      refine ⟨3, rfl, by decide, by decide, by omega, fun r h0 h1 => ?_⟩
      dsimp only
      refine ⟨by omega, by omega, h _ (by rw [ranged_len]; omega)⟩
    · intro x n hn0 hn1 Q hQ
      simp
      refine ⟨3, rfl, by decide, by decide, by omega, fun r h0 h1 => ?_⟩
      obtain ⟨q, rfl⟩ := Int.eq_ofNat_of_zero_le h0
      have ec : cw (q + 1) ≤ 39 := by
        have : q = 0 ∨ q = 1 ∨ q = 2 := by omega
        rcases this with rfl | rfl | rfl <;> decide
      refine ⟨sg, q + 1, by congr 3; omega, by omega, hok, by omega, fun w hw ow n' l1 u1 => hQ _ n' ⟨w, rfl, by omega, ow⟩ (by omega) (by omega)⟩
    · intro ys n hl hP hn
      obtain ⟨l, rfl, hl2⟩ := encs_of ys hP
      rw [List.length_map] at hl
      refine ⟨l, rfl, by omega, fun w hw => ?_, ?_⟩
      · obtain ⟨h1, h2⟩ := hl2 w hw
        have h3 := Wi.sz_dep w
        have h4 : 2 ^ (w.dep + 1) ≤ 2 ^ 4 := Nat.pow_le_pow_right (by decide) (by omega)
        exact ⟨h2, by omega, by omega⟩
      have g0 := Good.start hl hl2
      refine forE (List.range 3) (fun t : Nat => .int (t : Int)) (fun Qi h => ?_) (fun j ρ m' => m' ≤ n + j ∧ ∃ L c4 c5 c6 c7 c8 c9 c10 c11, Good l L ∧ ρ = [none, some .tape, some (.val (.str sg)), c4, some (.val (.tuple (L.map Wi.enc))), c5, c6, c7, c8, c9, c10, c11]) ⟨by omega, Wi.srt l, _, _, _, _, _, _, _, _, g0, rfl⟩ ?_ ?_
      · have e : ranged 0 3 = (List.range 3).map fun t : Nat => PyData.int (t : Int) := by unfold ranged; simp
        rw [v_diRg1, v_c, v_rg1]
        refine ⟨by decide, by decide, ?_⟩
        show Qi (ranged 0 3) _
        rw [e]; exact h
      · rintro j t ρ m' hj ⟨hm', L, c4, c5, c6, c7, c8, c9, c10, c11, gL, rfl⟩
        have hj2 : j < 3 := by simpa using (range_get hj).1
        refine v_B2 gL hok (by omega) fun c d6 d7 d8 d9 d10 d11 => ?_
        exact ⟨by omega, _, _, _, _, _, _, _, _, _, gL.step c, rfl⟩
      · rintro ρ m' ⟨hm', L, c4, c5, c6, c7, c8, c9, c10, c11, gL, rfl⟩
        rw [List.length_range] at hm'
        exact ⟨by omega, _, _, _, _, _, _, _, _, _, rfl⟩
  · rintro ρ m ⟨hm, b3, b4, b5, b6, b7, b8, b9, b10, b11, rfl⟩
    simp
end K85

namespace K85
open PySem PySem.W PyProof.Rows L2 DL RT

theorem all_mk {w : World} {K : PySem.W.Frag} {h : Heap} {mg : Str → Option Value} {fa fV f0 f1 f2 f3 f4 f5 f6 f7 f8 f9 f10 f11 f12 f13 f14 : Addr} (X : K.In h) (G : h.Ns mainGlobals mg) (hfa : mg "law" = some (.ref fa)) {odV od0 an0 od1 an1 od2 an2 od3 an3 od4 an4 od5 an5 od6 an6 od7 an7 od8 an8 od9 an9 od10 an10 od11 an11 od12 an12 od13 an13 od14 an14 : Option Addr} {slV sl0 sl1 sl2 sl3 sl4 sl5 sl6 sl7 sl8 sl9 sl10 sl11 sl12 sl13 sl14 : Array (Option Value)} {oc0 kV0 dc0 pm0 cd0 ct0 oc1 kV1 dc1 pm1 cd1 ct1 oc2 kV2 dc2 pm2 cd2 ct2 oc3 kV3 dc3 pm3 cd3 ct3 oc4 kV4 dc4 pm4 cd4 ct4 oc5 kV5 dc5 pm5 cd5 ct5 oc6 kV6 dc6 pm6 cd6 ct6 oc7 kV7 dc7 pm7 cd7 ct7 oc8 kV8 dc8 pm8 cd8 ct8 oc9 kV9 dc9 pm9 cd9 ct9 oc10 kV10 dc10 pm10 cd10 ct10 oc11 kV11 dc11 pm11 cd11 ct11 oc12 kV12 dc12 pm12 cd12 ct12 oc13 kV13 dc13 pm13 cd13 ct13 oc14 kV14 dc14 pm14 cd14 ct14 : Value} {tV : Tok} {nV : Nat}
    (a0 : PySem.W.nsIn K mainGlobals "shown_wish" = some (some (.ref f0))) (l0 : K.lookup f0 = some ⟨oc0, od0, .func (PySem.W.fnOf "shown_wish" "shown_wish" (defArgs sshown_wish) (defBody sshown_wish) (defScope sshown_wish) .none kV0 dc0 pm0 an0 cd0 ct0), sl0⟩) (c0 : PySem.W.codeIn K cd0 "shown_wish" = true) (k0 : PySem.W.keepIn K (.ref f0) = true)
    (a1 : PySem.W.nsIn K mainGlobals "takes_void" = some (some (.ref f1))) (l1 : K.lookup f1 = some ⟨oc1, od1, .func (PySem.W.fnOf "takes_void" "takes_void" (defArgs stakes_void) (defBody stakes_void) (defScope stakes_void) .none kV1 dc1 pm1 an1 cd1 ct1), sl1⟩) (c1 : PySem.W.codeIn K cd1 "takes_void" = true) (k1 : PySem.W.keepIn K (.ref f1) = true)
    (a2 : PySem.W.nsIn K mainGlobals "joined_on" = some (some (.ref f2))) (l2 : K.lookup f2 = some ⟨oc2, od2, .func (PySem.W.fnOf "joined_on" "joined_on" (defArgs sjoined_on) (defBody sjoined_on) (defScope sjoined_on) .none kV2 dc2 pm2 an2 cd2 ct2), sl2⟩) (c2 : PySem.W.codeIn K cd2 "joined_on" = true) (k2 : PySem.W.keepIn K (.ref f2) = true)
    (a3 : PySem.W.nsIn K mainGlobals "parts_of" = some (some (.ref f3))) (l3 : K.lookup f3 = some ⟨oc3, od3, .func (PySem.W.fnOf "parts_of" "parts_of" (defArgs sparts_of) (defBody sparts_of) (defScope sparts_of) .none kV3 dc3 pm3 an3 cd3 ct3), sl3⟩) (c3 : PySem.W.codeIn K cd3 "parts_of" = true) (k3 : PySem.W.keepIn K (.ref f3) = true)
    (a4 : PySem.W.nsIn K mainGlobals "parts_behind" = some (some (.ref f4))) (l4 : K.lookup f4 = some ⟨oc4, od4, .func (PySem.W.fnOf "parts_behind" "parts_behind" (defArgs sparts_behind) (defBody sparts_behind) (defScope sparts_behind) .none kV4 dc4 pm4 an4 cd4 ct4), sl4⟩) (c4 : PySem.W.codeIn K cd4 "parts_behind" = true) (k4 : PySem.W.keepIn K (.ref f4) = true)
    (a5 : PySem.W.nsIn K mainGlobals "_law_tape" = some (some (.ref f5))) (l5 : K.lookup f5 = some ⟨oc5, od5, .func (PySem.W.fnOf "_law_tape" "_law_tape" (defArgs s_law_tape) (defBody s_law_tape) (defScope s_law_tape) .none kV5 dc5 pm5 an5 cd5 ct5), sl5⟩) (c5 : PySem.W.codeIn K cd5 "_law_tape" = true) (k5 : PySem.W.keepIn K (.ref f5) = true)
    (a6 : PySem.W.nsIn K mainGlobals "_law_draw" = some (some (.ref f6))) (l6 : K.lookup f6 = some ⟨oc6, od6, .func (PySem.W.fnOf "_law_draw" "_law_draw" (defArgs s_law_draw) (defBody s_law_draw) (defScope s_law_draw) .none kV6 dc6 pm6 an6 cd6 ct6), sl6⟩) (c6 : PySem.W.codeIn K cd6 "_law_draw" = true) (k6 : PySem.W.keepIn K (.ref f6) = true)
    (a7 : PySem.W.nsIn K mainGlobals "_law_words" = some (some (.ref f7))) (l7 : K.lookup f7 = some ⟨oc7, od7, .func (PySem.W.fnOf "_law_words" "_law_words" (defArgs s_law_words) (defBody s_law_words) (defScope s_law_words) .none kV7 dc7 pm7 an7 cd7 ct7), sl7⟩) (c7 : PySem.W.codeIn K cd7 "_law_words" = true) (k7 : PySem.W.keepIn K (.ref f7) = true)
    (a8 : PySem.W.nsIn K mainGlobals "_law_wish" = some (some (.ref f8))) (l8 : K.lookup f8 = some ⟨oc8, od8, .func (PySem.W.fnOf "_law_wish" "_law_wish" (defArgs s_law_wish) (defBody s_law_wish) (defScope s_law_wish) .none kV8 dc8 pm8 an8 cd8 ct8), sl8⟩) (c8 : PySem.W.codeIn K cd8 "_law_wish" = true) (k8 : PySem.W.keepIn K (.ref f8) = true)
    (a9 : PySem.W.nsIn K mainGlobals "_law_wish_takes" = some (some (.ref f9))) (l9 : K.lookup f9 = some ⟨oc9, od9, .func (PySem.W.fnOf "_law_wish_takes" "_law_wish_takes" (defArgs s_law_wish_takes) (defBody s_law_wish_takes) (defScope s_law_wish_takes) .none kV9 dc9 pm9 an9 cd9 ct9), sl9⟩) (c9 : PySem.W.codeIn K cd9 "_law_wish_takes" = true) (k9 : PySem.W.keepIn K (.ref f9) = true)
    (a10 : PySem.W.nsIn K mainGlobals "_law_text" = some (some (.ref f10))) (l10 : K.lookup f10 = some ⟨oc10, od10, .func (PySem.W.fnOf "_law_text" "_law_text" (defArgs s_law_text) (defBody s_law_text) (defScope s_law_text) .none kV10 dc10 pm10 an10 cd10 ct10), sl10⟩) (c10 : PySem.W.codeIn K cd10 "_law_text" = true) (k10 : PySem.W.keepIn K (.ref f10) = true)
    (a11 : PySem.W.nsIn K mainGlobals "_law_then" = some (some (.ref f11))) (l11 : K.lookup f11 = some ⟨oc11, od11, .func (PySem.W.fnOf "_law_then" "_law_then" (defArgs s_law_then) (defBody s_law_then) (defScope s_law_then) .none kV11 dc11 pm11 an11 cd11 ct11), sl11⟩) (c11 : PySem.W.codeIn K cd11 "_law_then" = true) (k11 : PySem.W.keepIn K (.ref f11) = true)
    (a12 : PySem.W.nsIn K mainGlobals "_law_parts" = some (some (.ref f12))) (l12 : K.lookup f12 = some ⟨oc12, od12, .func (PySem.W.fnOf "_law_parts" "_law_parts" (defArgs s_law_parts) (defBody s_law_parts) (defScope s_law_parts) .none kV12 dc12 pm12 an12 cd12 ct12), sl12⟩) (c12 : PySem.W.codeIn K cd12 "_law_parts" = true) (k12 : PySem.W.keepIn K (.ref f12) = true)
    (a13 : PySem.W.nsIn K mainGlobals "_law_set" = some (some (.ref f13))) (l13 : K.lookup f13 = some ⟨oc13, od13, .func (PySem.W.fnOf "_law_set" "_law_set" (defArgs s_law_set) (defBody s_law_set) (defScope s_law_set) .none kV13 dc13 pm13 an13 cd13 ct13), sl13⟩) (c13 : PySem.W.codeIn K cd13 "_law_set" = true) (k13 : PySem.W.keepIn K (.ref f13) = true)
    (a14 : PySem.W.nsIn K mainGlobals "law" = some (some (.ref f14))) (l14 : K.lookup f14 = some ⟨oc14, od14, .func (PySem.W.fnOf "law" "law" (defArgs slaw) (defBody slaw) (defScope slaw) .none kV14 dc14 pm14 an14 cd14 ct14), sl14⟩) (c14 : PySem.W.codeIn K cd14 "law" = true) (k14 : PySem.W.keepIn K (.ref f14) = true)
    (z_dict : PySem.W.nsIn K mainGlobals "dict" = some none)
    (z_int : PySem.W.nsIn K mainGlobals "int" = some none)
    (z_len : PySem.W.nsIn K mainGlobals "len" = some none)
    (z_list : PySem.W.nsIn K mainGlobals "list" = some none)
    (z_range : PySem.W.nsIn K mainGlobals "range" = some none)
    (z_repr : PySem.W.nsIn K mainGlobals "repr" = some none)
    (z_reversed : PySem.W.nsIn K mainGlobals "reversed" = some none)
    (z_sorted : PySem.W.nsIn K mainGlobals "sorted" = some none)
    (z_tuple : PySem.W.nsIn K mainGlobals "tuple" = some none)
    (aV : PySem.W.nsIn K mainGlobals "VOID" = some (some (.ref fV))) (lV : K.lookup fV = some ⟨.type "tuple", odV, .seq #[.str (Str.ofString "void") tV] nV, slV⟩) :
    ∃ fd : FuncData, (∀ (s : Shared) (u : Value), BindsTo s fd ⟨[u], []⟩ [(p_law.headD "", u)]) ∧ ∀ base : Heap, K.In base → base.Ns mainGlobals mg → FnG PySem.Challenge.pw_manyways_k85_parts_of_wishes w K mg base 51 fa fd [p_law.headD ""] (SpLaw ⟨PySem.Challenge.pw_manyways_k85_parts_of_wishes, w, K⟩) := by
  have e := hfa.symm.trans (PySem.W.mg_of X G a14)
  cases e
  have D_shown_wish := DefAt.mk' (st := sshown_wish) a0 l0 c0 k0
  have D_takes_void := DefAt.mk' (st := stakes_void) a1 l1 c1 k1
  have D_joined_on := DefAt.mk' (st := sjoined_on) a2 l2 c2 k2
  have D_parts_of := DefAt.mk' (st := sparts_of) a3 l3 c3 k3
  have D_parts_behind := DefAt.mk' (st := sparts_behind) a4 l4 c4 k4
  have D__law_tape := DefAt.mk' (st := s_law_tape) a5 l5 c5 k5
  have D__law_draw := DefAt.mk' (st := s_law_draw) a6 l6 c6 k6
  have D__law_words := DefAt.mk' (st := s_law_words) a7 l7 c7 k7
  have D__law_wish := DefAt.mk' (st := s_law_wish) a8 l8 c8 k8
  have D__law_wish_takes := DefAt.mk' (st := s_law_wish_takes) a9 l9 c9 k9
  have D__law_text := DefAt.mk' (st := s_law_text) a10 l10 c10 k10
  have D__law_then := DefAt.mk' (st := s_law_then) a11 l11 c11 k11
  have D__law_parts := DefAt.mk' (st := s_law_parts) a12 l12 c12 k12
  have D__law_set := DefAt.mk' (st := s_law_set) a13 l13 c13 k13
  have D_law := DefAt.mk' (st := slaw) a14 l14 c14 k14
  have m_dict := PySem.W.mg_none_of X G z_dict
  have m_int := PySem.W.mg_none_of X G z_int
  have m_len := PySem.W.mg_none_of X G z_len
  have m_list := PySem.W.mg_none_of X G z_list
  have m_range := PySem.W.mg_none_of X G z_range
  have m_repr := PySem.W.mg_none_of X G z_repr
  have m_reversed := PySem.W.mg_none_of X G z_reversed
  have m_sorted := PySem.W.mg_none_of X G z_sorted
  have m_tuple := PySem.W.mg_none_of X G z_tuple
  have lay : ∀ (C : Cfg) (F : Addr → Prop) (H : Hp), Dats C F H [.str "void"] [.str "void"] := fun C F H => by simp [DL.Dats, DL.Dat]
  refine ⟨PySem.W.fnOf "law" "law" (defArgs slaw) (defBody slaw) (defScope slaw) .none kV14 dc14 pm14 an14 cd14 ct14, fun s v => .of_eq rfl, fun base KX Gb => ?_⟩
  have hV : ∀ {X : Cx} {p : Pos}, X.K = K → X.mg = mg → Gl X "VOID" → RE X (.Name "VOID" p) (dC gVOID) := tup_glob aV lV KX Gb (by rw [sl24]; show 1 ≤ _; omega) (vs := [.str "void"]) (ds := [.str "void"]) (.cons ⟨tV, rfl⟩ .nil) lay (by decide)
  have C_tv : CalS PySem.Challenge.pw_manyways_k85_parts_of_wishes w K mg base 20 "takes_void" (SpP ⟨_, w, K⟩ (sTV 20)) := recP (sp := sTV) 0 D_takes_void KX Gb bi_takes_void sc_takes_void (fun m ds Q ⟨w, e, _⟩ => by rw [e]; rfl) (fun ds Q ⟨w, _, h, _⟩ => absurd h (Nat.not_lt_zero _)) (fun m k _ c => b_takes_void c) (fun m ds Qd h => v_takes_void ds Qd h) 20
  have C_jn : CalS PySem.Challenge.pw_manyways_k85_parts_of_wishes w K mg base 1 "joined_on" (SpP ⟨_, w, K⟩ sJN) := calP (k := 0) D_joined_on KX Gb bi_joined_on sc_joined_on (fun ds Q ⟨ps, w, e, _⟩ => by rw [e]; rfl) (b_joined_on hV) v_joined_on
  have C_po : CalS PySem.Challenge.pw_manyways_k85_parts_of_wishes w K mg base 40 "parts_of" (SpP ⟨_, w, K⟩ (sPO 20)) := recP (sp := sPO) 20 D_parts_of KX Gb bi_parts_of sc_parts_of (fun m ds Q ⟨w, c, e, _⟩ => by rw [e]; rfl) (fun ds Q ⟨w, c, _, h, _⟩ => absurd h (Nat.not_lt_zero _)) (fun m k hk c => b_parts_of (C_jn.mono (by omega)) c (C_tv.mono hk) hV) (fun m ds Qd h => v_parts_of ds Qd h) 20
  have C_sw : CalS PySem.Challenge.pw_manyways_k85_parts_of_wishes w K mg base 1 "shown_wish" (SpP ⟨_, w, K⟩ sSW) := calP (k := 0) D_shown_wish KX Gb bi_shown_wish sc_shown_wish (fun ds Q ⟨w, e, _⟩ => by rw [e]; rfl) (b_shown_wish m_len m_list m_reversed) v_shown_wish
  have C_pb : CalS PySem.Challenge.pw_manyways_k85_parts_of_wishes w K mg base 41 "parts_behind" (SpP ⟨_, w, K⟩ sPB) := calP (k := 40) D_parts_behind KX Gb bi_parts_behind sc_parts_behind (fun ds Q ⟨l, c, e, _⟩ => by rw [e]; rfl) (b_parts_behind C_po (C_sw.mono (by omega)) m_sorted m_tuple) v_parts_behind
  have C_tp : CalS PySem.Challenge.pw_manyways_k85_parts_of_wishes w K mg base 1 "_law_tape" (SpTape ⟨_, w, K⟩) := .make D__law_tape KX Gb bi__law_tape (fn_tape (k := 0) D__law_tape.fn sc__law_tape rfl rfl (b__law_tape _))
  have C_dr : CalS PySem.Challenge.pw_manyways_k85_parts_of_wishes w K mg base 1 "_law_draw" (SpT ⟨_, w, K⟩ spDraw) := .make D__law_draw KX Gb bi__law_draw (fn_draw (k := 0) D__law_draw.fn sc__law_draw rfl rfl (by decide) (by decide) (b__law_draw m_len _))
  have C_wd : CalS PySem.Challenge.pw_manyways_k85_parts_of_wishes w K mg base 1 "_law_words" (SpP ⟨_, w, K⟩ sWords) := calP (k := 0) D__law_words KX Gb bi__law_words sc__law_words (fun ds Q ⟨sg, m, e, _⟩ => by rw [e]; rfl) (b__law_words m_len) v_law_words
  have C_wi : CalS PySem.Challenge.pw_manyways_k85_parts_of_wishes w K mg base 6 "_law_wish" (SpT ⟨_, w, K⟩ (sWish 5)) := recT (sp := sWish) 1 D__law_wish KX Gb bi__law_wish sc__law_wish (fun m ds n Q ⟨sg, d, e, _⟩ => by rw [e]; rfl) (fun ds n Q ⟨sg, d, _, h, _⟩ => absurd h (Nat.not_lt_zero _)) (fun m k hk c => b__law_wish (C_dr.mono hk) c m_len) (fun m ds n Qd h => v_law_wish ds n Qd h) 5
  have C_wt : CalS PySem.Challenge.pw_manyways_k85_parts_of_wishes w K mg base 30 "_law_wish_takes" (SpP ⟨_, w, K⟩ (sWT 30)) := recP (sp := sWT) 0 D__law_wish_takes KX Gb bi__law_wish_takes sc__law_wish_takes (fun m ds Q ⟨w, x, e, _⟩ => by rw [e]; rfl) (fun ds Q ⟨w, x, _, h, _⟩ => absurd h (Nat.not_lt_zero _)) (fun m k _ c => b__law_wish_takes c m_int m_len m_range) (fun m ds Qd h => v_law_wish_takes ds Qd h) 30
  have C_lt : CalS PySem.Challenge.pw_manyways_k85_parts_of_wishes w K mg base 41 "_law_text" (SpP ⟨_, w, K⟩ (sLT 41)) := recP (sp := sLT) 0 D__law_text KX Gb bi__law_text sc__law_text (fun m ds Q ⟨w, e, _⟩ => by rw [e]; rfl) (fun ds Q ⟨w, _, h, _⟩ => absurd h (Nat.not_lt_zero _)) (fun m k _ c => b__law_text c) (fun m ds Qd h => v_law_text ds Qd h) 41
  have C_th : CalS PySem.Challenge.pw_manyways_k85_parts_of_wishes w K mg base 1 "_law_then" (SpP ⟨_, w, K⟩ sLTh) := calP (k := 0) D__law_then KX Gb bi__law_then sc__law_then (fun ds Q ⟨p, w, e, _⟩ => by rw [e]; rfl) b__law_then v_law_then
  have C_lp : CalS PySem.Challenge.pw_manyways_k85_parts_of_wishes w K mg base 50 "_law_parts" (SpP ⟨_, w, K⟩ (sLP 20)) := recP (sp := sLP) 30 D__law_parts KX Gb bi__law_parts sc__law_parts (fun m ds Q ⟨w, c, e, _⟩ => by rw [e]; rfl) (fun ds Q ⟨w, c, _, h, _⟩ => absurd h (Nat.not_lt_zero _)) (fun m k hk c => b__law_parts c (C_th.mono (by omega)) (C_wt.mono hk)) (fun m ds Qd h => v_law_parts ds Qd h) 20
  have C_ls : CalS PySem.Challenge.pw_manyways_k85_parts_of_wishes w K mg base 42 "_law_set" (SpP ⟨_, w, K⟩ sSet) := calP (k := 41) D__law_set KX Gb bi__law_set sc__law_set (fun ds Q ⟨l, e, _⟩ => by rw [e]; rfl) (b__law_set C_lt m_dict m_sorted m_tuple) v_law_set
  exact fn_law (k := 50) D_law.fn sc_law rfl (by decide) (b_law (C_dr.mono (by decide)) C_lp (C_ls.mono (by decide)) (C_wi.mono (by decide)) (C_wt.mono (by decide)) (C_wd.mono (by decide)) (C_pb.mono (by decide)) m_len m_range m_repr (C_tp.mono (by decide)) _) v_law
end K85

open PySem PySem.W PyProof.Rows in
set_option maxRecDepth 100000 in
set_option maxHeartbeats 0 in
theorem PySem.Challenge.cw_manyways_k85_parts_of_wishes_holds : PySem.Challenge.rw_manyways_k85_parts_of_wishes.Holds := by
  w_on; o_law; k_head; (case hw => w_witness2)
  k_fill
  refine DL.walk_G (l := PySem.Challenge.rw_manyways_k85_parts_of_wishes) (n := 63) (k := 51) (x := K85.p_law.headD "") (sp := fun w => DL.SpLaw ⟨PySem.Challenge.pw_manyways_k85_parts_of_wishes, w, _⟩) rfl (by decide) rfl ⟨rfl, by decide, by decide⟩ (fun w h Y => PySem.W.kIn_of Y) ?F (fun w H a ns hl _ hS => ⟨a, ns, rfl, hS, hl, fun _ => rfl⟩)
  case F =>
    intro w mg fa h KX G hmg
    refine' K85.all_mk KX G hmg ?a0 ?l0 ?c0 ?k0 ?a1 ?l1 ?c1 ?k1 ?a2 ?l2 ?c2 ?k2 ?a3 ?l3 ?c3 ?k3 ?a4 ?l4 ?c4 ?k4 ?a5 ?l5 ?c5 ?k5 ?a6 ?l6 ?c6 ?k6 ?a7 ?l7 ?c7 ?k7 ?a8 ?l8 ?c8 ?k8 ?a9 ?l9 ?c9 ?k9 ?a10 ?l10 ?c10 ?k10 ?a11 ?l11 ?c11 ?k11 ?a12 ?l12 ?c12 ?k12 ?a13 ?l13 ?c13 ?k13 ?a14 ?l14 ?c14 ?k14 ?z_dict ?z_int ?z_len ?z_list ?z_range ?z_repr ?z_reversed ?z_sorted ?z_tuple ?aV ?lV
    (case a0 => k_is)
    (case l0 => k_is)
    (case c0 => k_is)
    (case k0 => k_is)
    (case a1 => k_is)
    (case l1 => k_is)
    (case c1 => k_is)
    (case k1 => k_is)
    (case a2 => k_is)
    (case l2 => k_is)
    (case c2 => k_is)
    (case k2 => k_is)
    (case a3 => k_is)
    (case l3 => k_is)
    (case c3 => k_is)
    (case k3 => k_is)
    (case a4 => k_is)
    (case l4 => k_is)
    (case c4 => k_is)
    (case k4 => k_is)
    (case a5 => k_is)
    (case l5 => k_is)
    (case c5 => k_is)
    (case k5 => k_is)
    (case a6 => k_is)
    (case l6 => k_is)
    (case c6 => k_is)
    (case k6 => k_is)
    (case a7 => k_is)
    (case l7 => k_is)
    (case c7 => k_is)
    (case k7 => k_is)
    (case a8 => k_is)
    (case l8 => k_is)
    (case c8 => k_is)
    (case k8 => k_is)
    (case a9 => k_is)
    (case l9 => k_is)
    (case c9 => k_is)
    (case k9 => k_is)
    (case a10 => k_is)
    (case l10 => k_is)
    (case c10 => k_is)
    (case k10 => k_is)
    (case a11 => k_is)
    (case l11 => k_is)
    (case c11 => k_is)
    (case k11 => k_is)
    (case a12 => k_is)
    (case l12 => k_is)
    (case c12 => k_is)
    (case k12 => k_is)
    (case a13 => k_is)
    (case l13 => k_is)
    (case c13 => k_is)
    (case k13 => k_is)
    (case a14 => k_is)
    (case l14 => k_is)
    (case c14 => k_is)
    (case k14 => k_is)
    (case z_dict => k_is)
    (case z_int => k_is)
    (case z_len => k_is)
    (case z_list => k_is)
    (case z_range => k_is)
    (case z_repr => k_is)
    (case z_reversed => k_is)
    (case z_sorted => k_is)
    (case z_tuple => k_is)
    (case aV => k_is)
    (case lV => k_is)
