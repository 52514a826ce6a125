import PyProof.Rows.All
import Wide.All
import OpenK.AllK
import Wide.FinOn
import HandS.ForMost
import KE.KeyNested
import HandS.TupAny
import HandS.TupMul
import HandS.Deep
import HandS.Wide
import HandS.ListEq
import PyProof.Rows.InDataRows
import HandS.Style
import HandS.Iter
import HandS.Comp
import PyProof.DictFindH
import HandS.Dict
import KE.SortData
import KE.KDictWalk
import KE.KDictList
import KE.KDictSum
import HandS.IsInst
import HandS.Property
import HandS.DictComp
import HandS.Set
import HandS.SetTxt0
import HandS.SetFor
import HandS.Star
import KE.IntBitsLaws
import HandS.EndBits
import PySem.Challenge.RW_sidesaid_k13_talks_by_hand
set_option Elab.async false
set_option linter.all false
set_option maxRecDepth 100000
/-! Pd0: Python data as trees (D), owned trees (O), how they lie in the abstract heap, and how a step changes that. -/
namespace Pd
open PySem L2

/-- the built-in types that are named -/
inductive Ty where
  | int | bool | str | list | tuple | dict
  deriving Inhabited
def Ty.name : Ty → String
  | .int => "int"
  | .bool => "bool"
  | .str => "str"
  | .list => "list"
  | .tuple => "tuple"
  | .dict => "dict"
inductive D where
  | non | bl (b : Bool) | int (i : Int) | str (x : Str)
  | tup (xs : List D) | lst (xs : List D)
  | dic (kvs : List (D × D))
  | ins (c : Str) (fs : List (Str × D))
  | scr (ns : List Int)
  | ty (n : Ty)
  | glo (x : Str)
  deriving Inhabited

inductive O where
  | val (d : D)
  | lst (xs : List O)
  | dic (kvs : List (D × O))
  | ins (c : Str) (fs : List (Str × O))
  deriving Inhabited

/-- a dict object by its entries in order: key, hash, value, as the model has them -/
structure EntR (e : DictEntry) (k : V) (h : Int) (v : V) : Prop where
  key : RelV k e.key
  hash : e.hash = h
  val : RelV v e.val

abbrev Ent := V × Int × V
def EntsR (es : List DictEntry) (xs : List Ent) : Prop := Paired (fun (x : Ent) (e : DictEntry) => EntR e x.1 x.2.1 x.2.2) xs es

/-- a dict: its object, its entries -/
abbrev DE := Obj × List Ent
/-- what holds of the heap where the dict e stands at a -/
def dicPhi (a : Addr) (e : DE) (h : Heap) : Prop :=
  h.get? a = some e.1 ∧ (a == sysModules) = false ∧ e.2.length ≤ sizeLine ∧ e.1.ExactDict ∧ ∃ es ep, e.1.data = .dict es ep ∧ EntsR es.toList e.2
def hoDic (a : Addr) (e : DE) : HO := .ext (dicPhi a e)

theorem dicPhi_stay {a : Addr} {e : DE} {h1 h2 : Heap} (p : dicPhi a e h1) (k : ∀ o, h1.get? a = some o → h2.get? a = some o) : dicPhi a e h2 := ⟨k _ p.1, p.2⟩

/-! ### keys -/
mutual
def D.key : D → NestedKey
  | .bl b => .num (if b = true then 1 else 0)
  | .int i => .num i
  | .str x => .text x
  | .tup xs => .tup (D.keys xs)
  | _ => .none
def D.keys : List D → List NestedKey
  | [] => []
  | d :: ds => d.key :: D.keys ds
end
mutual
/-- it is a key, its depth below n -/
def D.kOk : D → Nat → Bool
  | .non, _ => true
  | .bl _, _ => true
  | .int _, _ => true
  | .str _, _ => true
  | .tup xs, n + 1 => D.kOks xs n
  | _, _ => false
def D.kOks : List D → Nat → Bool
  | [], _ => true
  | d :: ds, n => d.kOk n && D.kOks ds n
end
abbrev D.hash (w : World) (d : D) : Int := d.key.hash w
/-- the keys of a dict: of one depth, no two alike -/
structure KeysOk (ks : List D) : Prop where
  ok : ∀ k, k ∈ ks → k.kOk 8 = true
  nd : (ks.map D.key).Nodup

/-! ### how data lie -/
/-- which class a name stands for, and its fields' names -/
structure Names where
  cls : Str → Option Addr

section
variable (K : PySem.W.Frag) (w : World) (C : Str → Option Addr)
mutual
def Rp (H : Hp) : D → V → Prop
  | .non, v => v = .non
  | .bl b, v => v = .bl b
  | .int i, v => v = .int i
  | .str x, v => v = .str x
  | .tup xs, v => ∃ a vs, v = .ref a ∧ SqT K H a vs ∧ RpL H xs vs
  | .lst xs, v => ∃ a vs, v = .ref a ∧ H a = some (.lst vs) ∧ RpL H xs vs
  | .dic kvs, v => ∃ a es, v = .ref a ∧ KeysOk (kvs.map (·.1)) ∧ H a = some (hoDic a es) ∧ RpD H kvs es.2
  | .ins c fs, v => ∃ a cl dx vs, v = .ref a ∧ C c = some cl ∧ H a = some (.ins cl dx vs) ∧ RpF H fs vs
  | .scr ns, v => ∃ a, v = .ref a ∧ SqL K H a (ns.map V.int)
  | .ty n, v => v = .ty n.name
  | .glo x, v => ∃ a, v = .ref a ∧ C x = some a
def RpL (H : Hp) : List D → List V → Prop
  | [], vs => vs = []
  | d :: ds, vs => ∃ v us, vs = v :: us ∧ Rp H d v ∧ RpL H ds us
def RpD (H : Hp) : List (D × D) → List Ent → Prop
  | [], es => es = []
  | (k, d) :: r, es => ∃ a v us, es = (a, k.hash w, v) :: us ∧ Rp H k a ∧ Rp H d v ∧ RpD H r us
def RpF (H : Hp) : List (Str × D) → List (Str × V) → Prop
  | [], vs => vs = []
  | (f, d) :: r, vs => ∃ v us, vs = (f, v) :: us ∧ Rp H d v ∧ RpF H r us
end
end

/-- the heap grows -/
def Le (H H' : Hp) : Prop := ∀ a u, H a = some u → H' a = some u
theorem Le.rfl {H : Hp} : Le H H := fun _ _ h => h
theorem Le.trans {H H1 H2 : Hp} (a : Le H H1) (b : Le H1 H2) : Le H H2 := fun c u h => b c u (a c u h)
theorem Le.upd {H : Hp} {p : Addr} {o : HO} (h : H p = none) : Le H (upd H p o) := fun a u e => by
  rw [upd_ne (ne_of_none e h)]
  exact e
theorem Le.rd {H H' : Hp} (l : Le H H') {a : Addr} {u : HO} (h : Rd H a u) : Rd H' a u := by
  rcases h with h | ⟨o, h⟩
  · exact .inl (l a _ h)
  · exact .inr ⟨o, l a _ h⟩
theorem Le.sqL {K : PySem.W.Frag} {H H' : Hp} (l : Le H H') {a : Addr} {xs : List V} (h : SqL K H a xs) : SqL K H' a xs := h.imp (fun q => l.rd q) id
theorem Le.sqT {K : PySem.W.Frag} {H H' : Hp} (l : Le H H') {a : Addr} {xs : List V} (h : SqT K H a xs) : SqT K H' a xs := h.imp (fun q => l.rd q) id

section
variable {K : PySem.W.Frag} {w : World} {C : Str → Option Addr} {H H' : Hp}
mutual
theorem Rp.mono (l : Le H H') : ∀ (d : D) (v : V), Rp K w C H d v → Rp K w C H' d v
  | .non, _, h => h
  | .bl _, _, h => h
  | .int _, _, h => h
  | .str _, _, h => h
  | .tup xs, _, ⟨a, vs, e, s, r⟩ => ⟨a, vs, e, l.sqT s, RpL.mono l xs vs r⟩
  | .lst xs, _, ⟨a, vs, e, s, r⟩ => ⟨a, vs, e, l a _ s, RpL.mono l xs vs r⟩
  | .dic kvs, _, ⟨a, es, e, ok, s, r⟩ => ⟨a, es, e, ok, l a _ s, RpD.mono l kvs es.2 r⟩
  | .ins _ fs, _, ⟨a, cl, dx, vs, e, c, s, r⟩ => ⟨a, cl, dx, vs, e, c, l a _ s, RpF.mono l fs vs r⟩
  | .scr _, _, ⟨a, e, s⟩ => ⟨a, e, l.sqL s⟩
  | .ty _, _, h => h
  | .glo _, _, h => h
theorem RpL.mono (l : Le H H') : ∀ (ds : List D) (vs : List V), RpL K w C H ds vs → RpL K w C H' ds vs
  | [], _, h => h
  | d :: ds, _, ⟨v, us, e, r, rs⟩ => ⟨v, us, e, Rp.mono l d v r, RpL.mono l ds us rs⟩
theorem RpD.mono (l : Le H H') : ∀ (kvs : List (D × D)) (es : List Ent), RpD K w C H kvs es → RpD K w C H' kvs es
  | [], _, h => h
  | (k, d) :: r, _, ⟨a, v, us, e, rk, rv, rs⟩ => ⟨a, v, us, e, Rp.mono l k a rk, Rp.mono l d v rv, RpD.mono l r us rs⟩
theorem RpF.mono (l : Le H H') : ∀ (fs : List (Str × D)) (vs : List (Str × V)), RpF K w C H fs vs → RpF K w C H' fs vs
  | [], _, h => h
  | (f, d) :: r, _, ⟨v, us, e, rv, rs⟩ => ⟨v, us, e, Rp.mono l d v rv, RpF.mono l r us rs⟩
end
end

/-! ### lists of data and of values -/
section
variable {K : PySem.W.Frag} {w : World} {C : Str → Option Addr} {H H' : Hp}
theorem RpL.length : ∀ {ds : List D} {vs : List V}, RpL K w C H ds vs → vs.length = ds.length
  | [], _, h => by
    have e : _ = ([] : List V) := h
    rw [e]; rfl
  | d :: ds, _, ⟨v, us, e, _, rs⟩ => by rw [e, List.length_cons, List.length_cons, RpL.length rs]
theorem RpL.get : ∀ {ds : List D} {vs : List V} {i : Nat} {d : D}, RpL K w C H ds vs → ds[i]? = some d → ∃ v, vs[i]? = some v ∧ Rp K w C H d v
  | [], _, _, _, _, e => by simp at e
  | d :: ds, _, 0, _, ⟨v, us, e, r, _⟩, q => by
    cases q
    exact ⟨v, by rw [e]; rfl, r⟩
  | d :: ds, _, i + 1, x, ⟨v, us, e, _, rs⟩, q => by
    obtain ⟨u, h1, h2⟩ := RpL.get (i := i) rs (by simpa using q)
    exact ⟨u, by rw [e]; simpa using h1, h2⟩
theorem RpL.append : ∀ {ds es : List D} {vs us : List V}, RpL K w C H ds vs → RpL K w C H es us → RpL K w C H (ds ++ es) (vs ++ us)
  | [], _, _, _, h, q => by
    have e : _ = ([] : List V) := h
    rw [e]; exact q
  | d :: ds, _, _, _, ⟨v, us, e, r, rs⟩, q => ⟨v, us ++ _, by rw [e]; rfl, r, RpL.append rs q⟩
theorem RpL.cons {d : D} {ds : List D} {v : V} {vs : List V} (r : Rp K w C H d v) (rs : RpL K w C H ds vs) : RpL K w C H (d :: ds) (v :: vs) := ⟨v, vs, rfl, r, rs⟩
theorem RpL.nil : RpL K w C H [] [] := rfl
theorem RpL.take : ∀ {ds : List D} {vs : List V} (n : Nat), RpL K w C H ds vs → RpL K w C H (ds.take n) (vs.take n)
  | _, _, 0, _ => rfl
  | [], _, n + 1, h => by
    have e : _ = ([] : List V) := h
    rw [e]; rfl
  | d :: ds, _, n + 1, ⟨v, us, e, r, rs⟩ => ⟨v, us.take n, by rw [e]; rfl, r, RpL.take n rs⟩
theorem RpL.drop : ∀ {ds : List D} {vs : List V} (n : Nat), RpL K w C H ds vs → RpL K w C H (ds.drop n) (vs.drop n)
  | _, _, 0, h => h
  | [], _, n + 1, h => by
    have e : _ = ([] : List V) := h
    rw [e]; rfl
  | d :: ds, _, n + 1, ⟨v, us, e, r, rs⟩ => by
    rw [e]
    exact RpL.drop n rs
theorem RpL.split : ∀ {ds es : List D} {vs : List V}, RpL K w C H (ds ++ es) vs → ∃ us ws, vs = us ++ ws ∧ RpL K w C H ds us ∧ RpL K w C H es ws
  | [], _, vs, h => ⟨[], vs, rfl, rfl, h⟩
  | d :: ds, _, _, ⟨v, us, e, r, rs⟩ => by
    obtain ⟨a, b, e1, r1, r2⟩ := RpL.split (ds := ds) rs
    exact ⟨v :: a, b, by rw [e, e1]; rfl, ⟨v, a, rfl, r, r1⟩, r2⟩
theorem RpF.look : ∀ {fs : List (Str × D)} {vs : List (Str × V)} {f : Str} {d : D}, RpF K w C H fs vs → fs.lookup f = some d → ∃ v, vs.lookup f = some v ∧ Rp K w C H d v
  | [], _, _, _, _, e => by simp at e
  | (g, d) :: r, _, f, x, ⟨v, us, e, rv, rs⟩, q => by
    rw [e]
    rw [List.lookup_cons] at q ⊢
    cases hb : f == g with
    | true =>
      rw [hb] at q
      cases q
      exact ⟨v, rfl, rv⟩
    | false =>
      rw [hb] at q
      exact RpF.look rs q
theorem RpF.none : ∀ {fs : List (Str × D)} {vs : List (Str × V)} {f : Str}, RpF K w C H fs vs → fs.lookup f = none → vs.lookup f = none
  | [], _, _, h, _ => by
    have e : _ = ([] : List (Str × V)) := h
    rw [e]; rfl
  | (g, d) :: r, _, f, ⟨v, us, e, rv, rs⟩, q => by
    rw [e]
    rw [List.lookup_cons] at q ⊢
    cases hb : f == g with
    | true =>
      rw [hb] at q
      cases q
    | false =>
      rw [hb] at q
      exact RpF.none rs q
end

/-! ### owned trees -/
section
variable (K : PySem.W.Frag) (w : World) (C : Str → Option Addr) (H Hf : Hp)
mutual
def Or : O → V → List Addr → Prop
  | .val d, v, fp => fp = [] ∧ Rp K w C Hf d v
  | .lst xs, v, fp => ∃ a vs f, v = .ref a ∧ fp = a :: f ∧ H a = some (.lst vs) ∧ OrL xs vs f
  | .dic kvs, v, fp => ∃ a es f, v = .ref a ∧ fp = a :: f ∧ KeysOk (kvs.map (·.1)) ∧ H a = some (hoDic a es) ∧ OrD kvs es.2 f
  | .ins c fs, v, fp => ∃ a cl dx vs f, v = .ref a ∧ fp = a :: f ∧ C c = some cl ∧ H a = some (.ins cl dx vs) ∧ OrF fs vs f
def OrL : List O → List V → List Addr → Prop
  | [], vs, fp => vs = [] ∧ fp = []
  | o :: os, vs, fp => ∃ v us f g, vs = v :: us ∧ fp = f ++ g ∧ Or o v f ∧ OrL os us g
def OrD : List (D × O) → List Ent → List Addr → Prop
  | [], es, fp => es = [] ∧ fp = []
  | (k, o) :: r, es, fp => ∃ a v us f g, es = (a, k.hash w, v) :: us ∧ fp = f ++ g ∧ Rp K w C Hf k a ∧ Or o v f ∧ OrD r us g
def OrF : List (Str × O) → List (Str × V) → List Addr → Prop
  | [], vs, fp => vs = [] ∧ fp = []
  | (n, o) :: r, vs, fp => ∃ v us f g, vs = (n, v) :: us ∧ fp = f ++ g ∧ Or o v f ∧ OrF r us g
end
end

/-! the data of an owned tree -/
mutual
def O.d : O → D
  | .val d => d
  | .lst xs => .lst (O.ds xs)
  | .dic kvs => .dic (O.dk kvs)
  | .ins c fs => .ins c (O.df fs)
def O.ds : List O → List D
  | [] => []
  | o :: os => o.d :: O.ds os
def O.dk : List (D × O) → List (D × D)
  | [] => []
  | (k, o) :: r => (k, o.d) :: O.dk r
def O.df : List (Str × O) → List (Str × D)
  | [] => []
  | (n, o) :: r => (n, o.d) :: O.df r
end

theorem dk_keys : ∀ kvs : List (D × O), (O.dk kvs).map (·.1) = kvs.map (·.1)
  | [] => rfl
  | (k, o) :: r => by
    show k :: (O.dk r).map (·.1) = k :: r.map (·.1)
    rw [dk_keys r]
section
variable {K : PySem.W.Frag} {w : World} {C : Str → Option Addr} {H H' Hf Hf' : Hp}
/-! the owned part stands, the frozen part grows -/
mutual
theorem Or.mono (l : Le Hf Hf') : ∀ (o : O) (v : V) (fp : List Addr), (∀ a, a ∈ fp → H' a = H a) → Or K w C H Hf o v fp → Or K w C H' Hf' o v fp
  | .val d, v, fp, _, ⟨e, r⟩ => ⟨e, Rp.mono l d v r⟩
  | .lst xs, v, fp, k, ⟨a, vs, f, e, e2, h, r⟩ => ⟨a, vs, f, e, e2, by rw [k a (by rw [e2]; simp)]; exact h, OrL.mono l xs vs f (fun b hb => k b (by rw [e2]; exact List.mem_cons_of_mem _ hb)) r⟩
  | .dic kvs, v, fp, k, ⟨a, es, f, e, e2, ok, h, r⟩ => ⟨a, es, f, e, e2, ok, by rw [k a (by rw [e2]; simp)]; exact h, OrD.mono l kvs es.2 f (fun b hb => k b (by rw [e2]; exact List.mem_cons_of_mem _ hb)) r⟩
  | .ins c fs, v, fp, k, ⟨a, cl, dx, vs, f, e, e2, c1, h, r⟩ => ⟨a, cl, dx, vs, f, e, e2, c1, by rw [k a (by rw [e2]; simp)]; exact h, OrF.mono l fs vs f (fun b hb => k b (by rw [e2]; exact List.mem_cons_of_mem _ hb)) r⟩
theorem OrL.mono (l : Le Hf Hf') : ∀ (os : List O) (vs : List V) (fp : List Addr), (∀ a, a ∈ fp → H' a = H a) → OrL K w C H Hf os vs fp → OrL K w C H' Hf' os vs fp
  | [], _, _, _, h => h
  | o :: os, vs, fp, k, ⟨v, us, f, g, e, e2, r, rs⟩ => ⟨v, us, f, g, e, e2, Or.mono l o v f (fun a ha => k a (by rw [e2]; exact List.mem_append_left _ ha)) r, OrL.mono l os us g (fun a ha => k a (by rw [e2]; exact List.mem_append_right _ ha)) rs⟩
theorem OrD.mono (l : Le Hf Hf') : ∀ (os : List (D × O)) (vs : List Ent) (fp : List Addr), (∀ a, a ∈ fp → H' a = H a) → OrD K w C H Hf os vs fp → OrD K w C H' Hf' os vs fp
  | [], _, _, _, h => h
  | (d, o) :: os, vs, fp, k, ⟨a, v, us, f, g, e, e2, rk, r, rs⟩ => ⟨a, v, us, f, g, e, e2, Rp.mono l d a rk, Or.mono l o v f (fun a ha => k a (by rw [e2]; exact List.mem_append_left _ ha)) r, OrD.mono l os us g (fun a ha => k a (by rw [e2]; exact List.mem_append_right _ ha)) rs⟩
theorem OrF.mono (l : Le Hf Hf') : ∀ (os : List (Str × O)) (vs : List (Str × V)) (fp : List Addr), (∀ a, a ∈ fp → H' a = H a) → OrF K w C H Hf os vs fp → OrF K w C H' Hf' os vs fp
  | [], _, _, _, h => h
  | (n, o) :: os, vs, fp, k, ⟨v, us, f, g, e, e2, r, rs⟩ => ⟨v, us, f, g, e, e2, Or.mono l o v f (fun a ha => k a (by rw [e2]; exact List.mem_append_left _ ha)) r, OrF.mono l os us g (fun a ha => k a (by rw [e2]; exact List.mem_append_right _ ha)) rs⟩
end
/-! what is owned is tracked -/
mutual
theorem Or.there : ∀ (o : O) (v : V) (fp : List Addr), Or K w C H Hf o v fp → ∀ a, a ∈ fp → ∃ u, H a = some u
  | .val d, v, fp, ⟨e, _⟩, a, ha => by rw [e] at ha; simp at ha
  | .lst xs, v, fp, ⟨b, vs, f, e, e2, h, r⟩, a, ha => by
    rw [e2] at ha
    rcases List.mem_cons.mp ha with z | z
    · exact ⟨_, by rw [z]; exact h⟩
    · exact OrL.there xs vs f r a z
  | .dic kvs, v, fp, ⟨b, es, f, e, e2, ok, h, r⟩, a, ha => by
    rw [e2] at ha
    rcases List.mem_cons.mp ha with z | z
    · exact ⟨_, by rw [z]; exact h⟩
    · exact OrD.there kvs es.2 f r a z
  | .ins c fs, v, fp, ⟨b, cl, dx, vs, f, e, e2, c1, h, r⟩, a, ha => by
    rw [e2] at ha
    rcases List.mem_cons.mp ha with z | z
    · exact ⟨_, by rw [z]; exact h⟩
    · exact OrF.there fs vs f r a z
theorem OrL.there : ∀ (os : List O) (vs : List V) (fp : List Addr), OrL K w C H Hf os vs fp → ∀ a, a ∈ fp → ∃ u, H a = some u
  | [], _, _, ⟨_, e⟩, a, ha => by rw [e] at ha; simp at ha
  | o :: os, vs, fp, ⟨v, us, f, g, e, e2, r, rs⟩, a, ha => by
    rw [e2] at ha
    rcases List.mem_append.mp ha with z | z
    · exact Or.there o v f r a z
    · exact OrL.there os us g rs a z
theorem OrD.there : ∀ (os : List (D × O)) (vs : List Ent) (fp : List Addr), OrD K w C H Hf os vs fp → ∀ a, a ∈ fp → ∃ u, H a = some u
  | [], _, _, ⟨_, e⟩, a, ha => by rw [e] at ha; simp at ha
  | (_, o) :: os, vs, fp, ⟨_, v, us, f, g, e, e2, _, r, rs⟩, a, ha => by
    rw [e2] at ha
    rcases List.mem_append.mp ha with z | z
    · exact Or.there o v f r a z
    · exact OrD.there os us g rs a z
theorem OrF.there : ∀ (os : List (Str × O)) (vs : List (Str × V)) (fp : List Addr), OrF K w C H Hf os vs fp → ∀ a, a ∈ fp → ∃ u, H a = some u
  | [], _, _, ⟨_, e⟩, a, ha => by rw [e] at ha; simp at ha
  | (_, o) :: os, vs, fp, ⟨v, us, f, g, e, e2, r, rs⟩, a, ha => by
    rw [e2] at ha
    rcases List.mem_append.mp ha with z | z
    · exact Or.there o v f r a z
    · exact OrF.there os us g rs a z
end
/-! an owned tree read as data, where all of it stands in G -/
mutual
theorem Or.rp {G : Hp} (l : Le Hf G) : ∀ (o : O) (v : V) (fp : List Addr), (∀ a u, a ∈ fp → H a = some u → G a = some u) → Or K w C H Hf o v fp → Rp K w C G o.d v
  | .val d, v, fp, _, ⟨_, r⟩ => Rp.mono l d v r
  | .lst xs, v, fp, k, ⟨a, vs, f, e, e2, h, r⟩ => ⟨a, vs, e, k a _ (by rw [e2]; simp) h, OrL.rp l xs vs f (fun b u hb => k b u (by rw [e2]; exact List.mem_cons_of_mem _ hb)) r⟩
  | .dic kvs, v, fp, k, ⟨a, es, f, e, e2, ok, h, r⟩ => ⟨a, es, e, by rw [dk_keys]; exact ok, k a _ (by rw [e2]; simp) h, OrD.rp l kvs es.2 f (fun b u hb => k b u (by rw [e2]; exact List.mem_cons_of_mem _ hb)) r⟩
  | .ins c fs, v, fp, k, ⟨a, cl, dx, vs, f, e, e2, c1, h, r⟩ => ⟨a, cl, dx, vs, e, c1, k a _ (by rw [e2]; simp) h, OrF.rp l fs vs f (fun b u hb => k b u (by rw [e2]; exact List.mem_cons_of_mem _ hb)) r⟩
theorem OrL.rp {G : Hp} (l : Le Hf G) : ∀ (os : List O) (vs : List V) (fp : List Addr), (∀ a u, a ∈ fp → H a = some u → G a = some u) → OrL K w C H Hf os vs fp → RpL K w C G (O.ds os) vs
  | [], _, _, _, ⟨e, _⟩ => e
  | o :: os, vs, fp, k, ⟨v, us, f, g, e, e2, r, rs⟩ => ⟨v, us, e, Or.rp l o v f (fun a u ha => k a u (by rw [e2]; exact List.mem_append_left _ ha)) r, OrL.rp l os us g (fun a u ha => k a u (by rw [e2]; exact List.mem_append_right _ ha)) rs⟩
theorem OrD.rp {G : Hp} (l : Le Hf G) : ∀ (os : List (D × O)) (vs : List Ent) (fp : List Addr), (∀ a u, a ∈ fp → H a = some u → G a = some u) → OrD K w C H Hf os vs fp → RpD K w C G (O.dk os) vs
  | [], _, _, _, ⟨e, _⟩ => e
  | (d, o) :: os, vs, fp, k, ⟨a, v, us, f, g, e, e2, rk, r, rs⟩ => ⟨a, v, us, e, Rp.mono l d a rk, Or.rp l o v f (fun a u ha => k a u (by rw [e2]; exact List.mem_append_left _ ha)) r, OrD.rp l os us g (fun a u ha => k a u (by rw [e2]; exact List.mem_append_right _ ha)) rs⟩
theorem OrF.rp {G : Hp} (l : Le Hf G) : ∀ (os : List (Str × O)) (vs : List (Str × V)) (fp : List Addr), (∀ a u, a ∈ fp → H a = some u → G a = some u) → OrF K w C H Hf os vs fp → RpF K w C G (O.df os) vs
  | [], _, _, _, ⟨e, _⟩ => e
  | (n, o) :: os, vs, fp, k, ⟨v, us, f, g, e, e2, r, rs⟩ => ⟨v, us, e, Or.rp l o v f (fun a u ha => k a u (by rw [e2]; exact List.mem_append_left _ ha)) r, OrF.rp l os us g (fun a u ha => k a u (by rw [e2]; exact List.mem_append_right _ ha)) rs⟩
end
end
end Pd
/-! Pd1: the state: slots and temporaries with what each owns; steps. -/
namespace Pd
open PySem L2

abbrev PEnv := List (Option O)
abbrev Tmp := List (O × V)
abbrev Fps := Nat → List Addr
def uf (F : Fps) (k : Nat) (l : List Addr) : Fps := fun i => if i = k then l else F i
theorem uf_same {F : Fps} {k : Nat} {l : List Addr} : uf F k l k = l := by unfold uf; rw [if_pos rfl]
theorem uf_ne {F : Fps} {k i : Nat} {l : List Addr} (h : i ≠ k) : uf F k l i = F i := by unfold uf; rw [if_neg h]

/-- from one state to a later one -/
structure Go (H Hf : Hp) (F : Fps) (H' Hf' : Hp) (F' : Fps) : Prop where
  keep : ∀ a u, H a = some u → (∀ i, a ∉ F i) → H' a = some u
  grow : Le Hf Hf'
  new : ∀ a u, Hf' a = some u → Hf a = some u ∨ (∃ i, a ∈ F i) ∨ H a = none
  foot : ∀ i a, a ∈ F' i → (∃ j, a ∈ F j) ∨ H a = none
theorem Go.refl {H Hf : Hp} {F : Fps} : Go H Hf F H Hf F := ⟨fun _ _ h _ => h, Le.rfl, fun _ _ h => .inl h, fun i a h => .inl ⟨i, h⟩⟩
theorem Go.sub {H Hf : Hp} {F F' : Fps} (h : ∀ i a, a ∈ F' i → ∃ j, a ∈ F j) : Go H Hf F H Hf F' := ⟨fun _ _ h _ => h, Le.rfl, fun _ _ h => .inl h, fun i a q => .inl (h i a q)⟩
theorem Go.trans {H Hf H1 Hf1 H2 Hf2 : Hp} {F F1 F2 : Fps} (a : Go H Hf F H1 Hf1 F1) (b : Go H1 Hf1 F1 H2 Hf2 F2) : Go H Hf F H2 Hf2 F2 := by
  have back : ∀ c, H1 c = none → (∃ i, c ∈ F i) ∨ H c = none := fun c hc => by
    cases q : H c with
    | none => exact .inr rfl
    | some u =>
      rcases Classical.em (∃ i, c ∈ F i) with z | z
      · exact .inl z
      · have k := a.keep c u q fun i hi => z ⟨i, hi⟩
        rw [hc] at k
        cases k
  refine ⟨fun c u h n => b.keep c u (a.keep c u h n) fun i hi => ?_, a.grow.trans b.grow, fun c u h => ?_, fun i c h => ?_⟩
  · rcases a.foot i c hi with ⟨j, hj⟩ | z
    · exact n j hj
    · rw [h] at z
      cases z
  · rcases b.new c u h with z | ⟨i, z⟩ | z
    · exact a.new c u z
    · exact .inr (a.foot i c z)
    · exact .inr (back c z)
  · rcases b.foot i c h with ⟨j, hj⟩ | z
    · exact a.foot j c hj
    · exact back c z

section
variable (K : PySem.W.Frag) (w : World) (C : Str → Option Addr)
structure ST (H Hf : Hp) (d : PEnv) (g : St) (t : Tmp) (F : Fps) : Prop where
  len : g.length = d.length
  env : ∀ i o, d[i]? = some (some o) → ∃ v, g[i]? = some (some v) ∧ Or K w C H Hf o v (F i)
  tmp : ∀ j o v, t[j]? = some (o, v) → Or K w C H Hf o v (F (d.length + j))
  emp : ∀ i, (∀ o, d[i]? ≠ some (some o)) → (∀ j, i = d.length + j → t.length ≤ j) → F i = []
  nd : ∀ i, (F i).Nodup
  dj : ∀ i j a, i ≠ j → a ∈ F i → a ∉ F j
  fz : ∀ i a, a ∈ F i → Hf a = none
  le : Le Hf H
end

section
variable {K : PySem.W.Frag} {w : World} {C : Str → Option Addr} {H H' Hf Hf' : Hp} {d : PEnv} {g : St} {t : Tmp} {F : Fps}

theorem ST.there (S : ST K w C H Hf d g t F) {i : Nat} {a : Addr} (h : a ∈ F i) : ∃ u, H a = some u := by
  rcases Classical.em (∃ o, d[i]? = some (some o)) with ⟨o, e⟩ | n
  · obtain ⟨v, _, r⟩ := S.env i o e
    exact Or.there o v _ r a h
  · rcases Classical.em (∃ j, i = d.length + j ∧ j < t.length) with ⟨j, e, hj⟩ | n2
    · have q : t[j]? = some (t[j].1, t[j].2) := List.getElem?_eq_getElem hj
      have r := S.tmp j _ _ q
      rw [← e] at r
      exact Or.there _ _ _ r a h
    · have z := S.emp i (fun o e => n ⟨o, e⟩) fun j e => by
        rcases Nat.lt_or_ge j t.length with q | q
        · exact absurd ⟨j, e, q⟩ n2
        · exact q
      rw [z] at h
      cases h

/-- nothing that is owned stands in the frozen part: what a value of the frozen part reads is kept -/
theorem ST.slot (S : ST K w C H Hf d g t F) {i : Nat} {o : O} (h : d[i]? = some (some o)) : ∃ v, g[i]? = some (some v) ∧ Or K w C H Hf o v (F i) := S.env i o h

/-- a new value on top -/
theorem ST.push (S : ST K w C H Hf d g t F) (lH : Le H H') (lF : Le Hf Hf') (nw : ∀ a u, Hf' a = some u → Hf a = some u ∨ H a = none) (l' : Le Hf' H') {o : O} {v : V} {f : List Addr}
    (fr : ∀ a, a ∈ f → H a = none) (nd : f.Nodup) (fz : ∀ a, a ∈ f → Hf' a = none) (r : Or K w C H' Hf' o v f) :
    ST K w C H' Hf' d g (t ++ [(o, v)]) (uf F (d.length + t.length) f) ∧ Go H Hf F H' Hf' (uf F (d.length + t.length) f) := by
  have e0 : F (d.length + t.length) = [] := S.emp _ (fun o e => by
    have z := (List.getElem?_eq_some_iff.mp e).1
    omega) fun j e => by omega
  have kp : ∀ i a, a ∈ F i → H' a = H a := fun i a ha => by
    obtain ⟨u, hu⟩ := S.there ha
    rw [hu, lH a u hu]
  refine ⟨⟨S.len, fun i o' e => ?_, fun j o' v' e => ?_, fun i h1 h2 => ?_, fun i => ?_, fun i j a hij ha hb => ?_, fun i a ha => ?_, l'⟩, ⟨fun a u h _ => lH a u h, lF, fun a u h => (nw a u h).imp id .inr, fun i a h => ?_⟩⟩
  · obtain ⟨v', h1, h2⟩ := S.env i o' e
    have hi : i ≠ d.length + t.length := by
      have z := (List.getElem?_eq_some_iff.mp e).1
      omega
    rw [uf_ne hi]
    exact ⟨v', h1, Or.mono lF o' v' _ (fun a ha => kp i a ha) h2⟩
  · rcases Nat.lt_or_ge j t.length with hj | hj
    · rw [List.getElem?_append_left hj] at e
      rw [uf_ne (by omega)]
      exact Or.mono lF o' v' _ (fun a ha => kp _ a ha) (S.tmp j o' v' e)
    · rw [List.getElem?_append_right hj] at e
      have hz : j - t.length = 0 := by
        have z := (List.getElem?_eq_some_iff.mp e).1
        simp at z
        omega
      rw [hz] at e
      cases e
      have : d.length + j = d.length + t.length := by omega
      rw [this, uf_same]
      exact r
  · have hi : i ≠ d.length + t.length := fun e => by
      have z := h2 t.length e
      simp at z
      omega
    rw [uf_ne hi]
    exact S.emp i h1 fun j e => by
      have z := h2 j e
      simp at z
      omega
  · by_cases hi : i = d.length + t.length
    · rw [hi, uf_same]; exact nd
    · rw [uf_ne hi]; exact S.nd i
  · by_cases hi : i = d.length + t.length
    · rw [hi, uf_same] at ha
      rw [uf_ne (fun e => hij (by rw [hi, e]))] at hb
      obtain ⟨u, hu⟩ := S.there hb
      rw [fr a ha] at hu
      cases hu
    · rw [uf_ne hi] at ha
      by_cases hj : j = d.length + t.length
      · rw [hj, uf_same] at hb
        obtain ⟨u, hu⟩ := S.there ha
        rw [fr a hb] at hu
        cases hu
      · rw [uf_ne hj] at hb
        exact S.dj i j a hij ha hb
  · by_cases hi : i = d.length + t.length
    · rw [hi, uf_same] at ha; exact fz a ha
    · rw [uf_ne hi] at ha
      cases q : Hf' a with
      | none => rfl
      | some u =>
        rcases nw a u q with z | z
        · rw [S.fz i a ha] at z; cases z
        · obtain ⟨u', hu⟩ := S.there ha
          rw [z] at hu; cases hu
  · by_cases hi : i = d.length + t.length
    · rw [hi, uf_same] at h; exact .inr (fr a h)
    · rw [uf_ne hi] at h; exact .inl ⟨i, h⟩
/-- .. where no heap changes -/
theorem ST.pushV (S : ST K w C H Hf d g t F) {x : D} {v : V} (r : Rp K w C Hf x v) :
    ST K w C H Hf d g (t ++ [(.val x, v)]) (uf F (d.length + t.length) []) ∧ Go H Hf F H Hf (uf F (d.length + t.length) []) :=
  S.push Le.rfl Le.rfl (fun _ _ h => .inl h) S.le (fun a h => by cases h) List.nodup_nil (fun a h => by cases h) ⟨rfl, r⟩
theorem sub_nil {F : Fps} {k : Nat} : ∀ i a, a ∈ uf F k [] i → ∃ j, a ∈ F j := fun i a h => by
  by_cases hi : i = k
  · rw [hi, uf_same] at h; cases h
  · rw [uf_ne hi] at h; exact ⟨i, h⟩
/-- the top value is dropped -/
theorem ST.pop {x : O × V} (S : ST K w C H Hf d g (t ++ [x]) F) : ST K w C H Hf d g t (uf F (d.length + t.length) []) ∧ Go H Hf F H Hf (uf F (d.length + t.length) []) := by
  refine ⟨⟨S.len, fun i o' e => ?_, fun j o' v' e => ?_, fun i h1 h2 => ?_, fun i => ?_, fun i j a hij ha hb => ?_, fun i a ha => ?_, S.le⟩, Go.sub sub_nil⟩
  · have hi : i ≠ d.length + t.length := by
      have z := (List.getElem?_eq_some_iff.mp e).1
      omega
    rw [uf_ne hi]
    exact S.env i o' e
  · have hj := (List.getElem?_eq_some_iff.mp e).1
    rw [uf_ne (by omega)]
    exact S.tmp j o' v' (by rw [List.getElem?_append_left hj]; exact e)
  · by_cases hi : i = d.length + t.length
    · rw [hi, uf_same]
    · rw [uf_ne hi]
      exact S.emp i h1 fun j e => by
        have z := h2 j e
        simp
        omega
  · by_cases hi : i = d.length + t.length
    · rw [hi, uf_same]; exact List.nodup_nil
    · rw [uf_ne hi]; exact S.nd i
  · by_cases hi : i = d.length + t.length
    · rw [hi, uf_same] at ha; cases ha
    · by_cases hj : j = d.length + t.length
      · rw [hj, uf_same] at hb; cases hb
      · rw [uf_ne hi] at ha
        rw [uf_ne hj] at hb
        exact S.dj i j a hij ha hb
  · by_cases hi : i = d.length + t.length
    · rw [hi, uf_same] at ha; cases ha
    · rw [uf_ne hi] at ha; exact S.fz i a ha

/-! ### freezing -/
/-- the frozen part with what is owned at l -/
def fzn (H Hf : Hp) (l : List Addr) : Hp := fun a => if a ∈ l then H a else Hf a
theorem fzn_in {l : List Addr} {a : Addr} (h : a ∈ l) : fzn H Hf l a = H a := if_pos h
theorem fzn_out {l : List Addr} {a : Addr} (h : a ∉ l) : fzn H Hf l a = Hf a := if_neg h
theorem fzn_le {l : List Addr} (h : ∀ a, a ∈ l → Hf a = none) : Le Hf (fzn H Hf l) := fun a u e => by
  rw [fzn_out fun z => by rw [h a z] at e; cases e]
  exact e
/-- what the i-th item owns is frozen -/
theorem ST.melt (S : ST K w C H Hf d g t F) (k : Nat) :
    Le Hf (fzn H Hf (F k)) ∧ Le (fzn H Hf (F k)) H ∧ Go H Hf F H (fzn H Hf (F k)) (uf F k []) ∧ (∀ i, i ≠ k → ∀ a, a ∈ F i → fzn H Hf (F k) a = none) := by
  have l1 : Le Hf (fzn H Hf (F k)) := fzn_le fun a h => S.fz k a h
  refine ⟨l1, fun a u e => ?_, ⟨fun a u h _ => h, l1, fun a u h => ?_, fun i a h => .inl (sub_nil i a h)⟩, fun i hi a ha => ?_⟩
  · by_cases h : a ∈ F k
    · rw [fzn_in h] at e; exact e
    · rw [fzn_out h] at e; exact S.le a u e
  · by_cases q : a ∈ F k
    · exact .inr (.inl ⟨k, q⟩)
    · rw [fzn_out q] at h; exact .inl h
  · rw [fzn_out (S.dj i k a hi ha)]
    exact S.fz i a ha
theorem ST.freezeTop {o : O} {v : V} (S : ST K w C H Hf d g (t ++ [(o, v)]) F) : ∃ Hf', ST K w C H Hf' d g (t ++ [(.val o.d, v)]) (uf F (d.length + t.length) []) ∧ Go H Hf F H Hf' (uf F (d.length + t.length) []) ∧ Rp K w C Hf' o.d v := by
  obtain ⟨l1, l2, go, fz⟩ := S.melt (d.length + t.length)
  have r0 : Or K w C H Hf o v (F (d.length + t.length)) := S.tmp t.length o v (by simp)
  have rp : Rp K w C (fzn H Hf (F (d.length + t.length))) o.d v := Or.rp l1 o v _ (fun a u ha hu => by rw [fzn_in ha]; exact hu) r0
  refine ⟨_, ⟨S.len, fun i o' e => ?_, fun j o' v' e => ?_, fun i h1 h2 => ?_, fun i => ?_, fun i j a hij ha hb => ?_, fun i a ha => ?_, l2⟩, go, rp⟩
  · have hi : i ≠ d.length + t.length := by
      have z := (List.getElem?_eq_some_iff.mp e).1
      omega
    rw [uf_ne hi]
    obtain ⟨v', h1, h2⟩ := S.env i o' e
    exact ⟨v', h1, Or.mono l1 o' v' _ (fun _ _ => rfl) h2⟩
  · rcases Nat.lt_or_ge j t.length with hj | hj
    · rw [List.getElem?_append_left hj] at e
      rw [uf_ne (by omega)]
      exact Or.mono l1 o' v' _ (fun _ _ => rfl) (S.tmp j o' v' (by rw [List.getElem?_append_left hj]; exact e))
    · rw [List.getElem?_append_right hj] at e
      have hz : j - t.length = 0 := by
        have z := (List.getElem?_eq_some_iff.mp e).1
        simp at z
        omega
      rw [hz] at e
      cases e
      have : d.length + j = d.length + t.length := by omega
      rw [this, uf_same]
      exact ⟨rfl, rp⟩
  · by_cases hi : i = d.length + t.length
    · rw [hi, uf_same]
    · rw [uf_ne hi]
      exact S.emp i h1 fun j e => by
        have z := h2 j e
        simp at z ⊢
        exact z
  · by_cases hi : i = d.length + t.length
    · rw [hi, uf_same]; exact List.nodup_nil
    · rw [uf_ne hi]; exact S.nd i
  · by_cases hi : i = d.length + t.length
    · rw [hi, uf_same] at ha; cases ha
    · by_cases hj : j = d.length + t.length
      · rw [hj, uf_same] at hb; cases hb
      · rw [uf_ne hi] at ha
        rw [uf_ne hj] at hb
        exact S.dj i j a hij ha hb
  · by_cases hi : i = d.length + t.length
    · rw [hi, uf_same] at ha; cases ha
    · rw [uf_ne hi] at ha; exact fz i hi a ha
/-- a slot is frozen -/
theorem ST.freeze (S : ST K w C H Hf d g t F) {k : Nat} {o : O} (hk : d[k]? = some (some o)) :
    ∃ Hf' v, g[k]? = some (some v) ∧ ST K w C H Hf' (d.set k (some (.val o.d))) g t (uf F k []) ∧ Go H Hf F H Hf' (uf F k []) ∧ Rp K w C Hf' o.d v := by
  obtain ⟨l1, l2, go, fz⟩ := S.melt k
  obtain ⟨v, hv, r0⟩ := S.env k o hk
  have hkl := (List.getElem?_eq_some_iff.mp hk).1
  have rp : Rp K w C (fzn H Hf (F k)) o.d v := Or.rp l1 o v _ (fun a u ha hu => by rw [fzn_in ha]; exact hu) r0
  refine ⟨_, v, hv, ⟨by rw [List.length_set]; exact S.len, fun i o' e => ?_, fun j o' v' e => ?_, fun i h1 h2 => ?_, fun i => ?_, fun i j a hij ha hb => ?_, fun i a ha => ?_, l2⟩, go, rp⟩
  · by_cases hi : i = k
    · subst hi
      rw [List.getElem?_set_self hkl] at e
      cases e
      rw [uf_same]
      exact ⟨v, hv, rfl, rp⟩
    · rw [List.getElem?_set_ne (Ne.symm hi)] at e
      rw [uf_ne hi]
      obtain ⟨v', h1, h2⟩ := S.env i o' e
      exact ⟨v', h1, Or.mono l1 o' v' _ (fun _ _ => rfl) h2⟩
  · rw [List.length_set, uf_ne (by omega)]
    exact Or.mono l1 o' v' _ (fun _ _ => rfl) (S.tmp j o' v' e)
  · by_cases hi : i = k
    · rw [hi, uf_same]
    · rw [uf_ne hi]
      refine S.emp i (fun o' e => h1 o' (by rw [List.getElem?_set_ne (Ne.symm hi)]; exact e)) fun j e => h2 j (by rw [List.length_set]; exact e)
  · by_cases hi : i = k
    · rw [hi, uf_same]; exact List.nodup_nil
    · rw [uf_ne hi]; exact S.nd i
  · by_cases hi : i = k
    · rw [hi, uf_same] at ha; cases ha
    · by_cases hj : j = k
      · rw [hj, uf_same] at hb; cases hb
      · rw [uf_ne hi] at ha
        rw [uf_ne hj] at hb
        exact S.dj i j a hij ha hb
  · by_cases hi : i = k
    · rw [hi, uf_same] at ha; cases ha
    · rw [uf_ne hi] at ha; exact fz i hi a ha
/-- the top value goes to a slot -/
theorem ST.store {o : O} {v : V} (S : ST K w C H Hf d g (t ++ [(o, v)]) F) {k : Nat} (hk : k < d.length) :
    ST K w C H Hf (d.set k (some o)) (g.set k (some v)) t (uf (uf F k (F (d.length + t.length))) (d.length + t.length) []) ∧ Go H Hf F H Hf (uf (uf F k (F (d.length + t.length))) (d.length + t.length) []) := by
  have hkn : k ≠ d.length + t.length := by omega
  have r0 : Or K w C H Hf o v (F (d.length + t.length)) := S.tmp t.length o v (by simp)
  have look : ∀ i, uf (uf F k (F (d.length + t.length))) (d.length + t.length) [] i = if i = d.length + t.length then [] else if i = k then F (d.length + t.length) else F i := fun i => rfl
  refine ⟨⟨by rw [List.length_set, List.length_set]; exact S.len, fun i o' e => ?_, fun j o' v' e => ?_, fun i h1 h2 => ?_, fun i => ?_, fun i j a hij ha hb => ?_, fun i a ha => ?_, S.le⟩, Go.sub fun i a h => ?_⟩
  · by_cases hi : i = k
    · subst hi
      rw [List.getElem?_set_self hk] at e
      cases e
      rw [uf_ne hkn, uf_same]
      exact ⟨v, by rw [List.getElem?_set_self (by rw [S.len]; exact hk)], r0⟩
    · rw [List.getElem?_set_ne (Ne.symm hi)] at e
      have hil := (List.getElem?_eq_some_iff.mp e).1
      rw [uf_ne (by omega), uf_ne hi, List.getElem?_set_ne (Ne.symm hi)]
      exact S.env i o' e
  · have hj := (List.getElem?_eq_some_iff.mp e).1
    rw [List.length_set, uf_ne (by omega), uf_ne (by omega)]
    exact S.tmp j o' v' (by rw [List.getElem?_append_left hj]; exact e)
  · rw [look]
    by_cases hi : i = d.length + t.length
    · rw [if_pos hi]
    · rw [if_neg hi]
      have hik : i ≠ k := fun e => by
        subst e
        exact h1 o (List.getElem?_set_self hk)
      rw [if_neg hik]
      refine S.emp i (fun o' e => h1 o' (by rw [List.getElem?_set_ne (Ne.symm hik)]; exact e)) fun j e => ?_
      have z := h2 j (by rw [List.length_set]; exact e)
      simp
      omega
  · rw [look]
    split
    · exact List.nodup_nil
    · split
      · exact S.nd _
      · exact S.nd i
  · rw [look] at ha hb
    by_cases hi : i = d.length + t.length
    · rw [if_pos hi] at ha; cases ha
    · by_cases hj : j = d.length + t.length
      · rw [if_pos hj] at hb; cases hb
      · rw [if_neg hi] at ha
        rw [if_neg hj] at hb
        by_cases hik : i = k
        · rw [if_pos hik] at ha
          rw [if_neg (fun e => hij (by rw [hik, e]))] at hb
          exact S.dj _ j a (Ne.symm hj) ha hb
        · rw [if_neg hik] at ha
          by_cases hjk : j = k
          · rw [if_pos hjk] at hb
            exact S.dj i _ a hi ha hb
          · rw [if_neg hjk] at hb
            exact S.dj i j a hij ha hb
  · rw [look] at ha
    split at ha
    · cases ha
    · split at ha
      · exact S.fz _ a ha
      · exact S.fz i a ha
  · rw [look] at h
    split at h
    · cases h
    · split at h
      · exact ⟨_, h⟩
      · exact ⟨i, h⟩
end
end Pd
/-! Pd2: what an expression's evaluation is; operands; argument lists. -/
namespace Pd
open PySem L2

abbrev Ev := PEnv → Option (O × PEnv)
/-- a slot's value as a value of its own: it is frozen -/
def evVar (i : Nat) : Ev := fun d => (d.getD i none).bind fun o => some (.val o.d, d.set i (some (.val o.d)))
def evC (x : D) : Ev := fun d => some (.val x, d)

/-- an operand: a slot that is looked at, or an expression -/
inductive Opn where
  | slot (i : Nat)
  | ex (f : Ev)
def Opn.go : Opn → PEnv → Option (List O × PEnv)
  | .slot i, d => (d.getD i none).bind fun _ => some ([], d)
  | .ex f, d => (f d).bind fun p => some ([.val p.1.d], p.2)
/-- what it is, behind the evaluations: the slot as it is then, or the value made (the first of those left) -/
def Opn.look : Opn → PEnv → List O → Option (O × List O)
  | .slot i, d, l => (d.getD i none).bind fun o => some (o, l)
  | .ex _, _, o :: l => some (o, l)
  | .ex _, _, [] => none
theorem getD_some {d : PEnv} {i : Nat} {o : O} (h : d.getD i none = some o) : d[i]? = some (some o) := by
  rw [List.getD_eq_getElem?_getD] at h
  cases e : d[i]? with
  | none => rw [e] at h; cases h
  | some x => rw [e] at h; exact congrArg some h

section
variable (X : Cx) (C : Str → Option Addr)
/-- what stands behind an evaluation -/
def Post (pins : List (Addr × Obj)) (g : St) (H Hf : Hp) (F : Fps) (t : Tmp) (o : O) (d' : PEnv) : Value → Shared → Prop := fun u s' =>
  ∃ v H' Hf' F', Inv X pins g H' s' ∧ RelV v u ∧ ST X.K X.w C H' Hf' d' g (t ++ [(o, v)]) F' ∧ Go H Hf F H' Hf' F'
structure Den (e : Expr) (f : Ev) : Prop where
  run : ∀ (pins : List (Addr × Obj)) (s : Shared) (g : St) (H Hf : Hp) (d : PEnv) (t : Tmp) (F : Fps) (o : O) (d' : PEnv), Inv X pins g H s → ST X.K X.w C H Hf d g t F → f d = some (o, d') →
    wpAny (model X.prog X.w) X.A (eval e X.env) (Post X C pins g H Hf F t o d') X.xe s
/-- an operand's evaluation -/
def PostP (pins : List (Addr × Obj)) (g : St) (H Hf : Hp) (F : Fps) (t : Tmp) (p : Opn) (ta : List O) (d' : PEnv) : Value → Shared → Prop := fun u s' =>
  ∃ v H' Hf' F', Inv X pins g H' s' ∧ RelV v u ∧ ST X.K X.w C H' Hf' d' g (t ++ ta.map fun o => (o, v)) F' ∧ Go H Hf F H' Hf' F' ∧ ∀ i, p = .slot i → g[i]? = some (some v)
structure DenP (e : Expr) (p : Opn) : Prop where
  run : ∀ (pins : List (Addr × Obj)) (s : Shared) (g : St) (H Hf : Hp) (d : PEnv) (t : Tmp) (F : Fps) (ta : List O) (d' : PEnv), Inv X pins g H s → ST X.K X.w C H Hf d g t F → p.go d = some (ta, d') →
    wpAny (model X.prog X.w) X.A (eval e X.env) (PostP X C pins g H Hf F t p ta d') X.xe s
end

section
variable {X : Cx} {C : Str → Option Addr}
theorem Den.toP {e : Expr} {f : Ev} (h : Den X C e f) : DenP X C e (.ex f) := by
  refine ⟨fun pins s g H Hf d t F ta d' I S q => ?_⟩
  obtain ⟨⟨o, d1⟩, e1, q⟩ := Option.bind_eq_some_iff.mp q
  cases q
  refine thn (h.run pins s g H Hf d t F o d1 I S e1) fun u s' ⟨v, H', Hf', F', I', r, S', go⟩ => ?_
  obtain ⟨Hf2, S2, go2, _⟩ := S'.freezeTop
  exact ⟨v, H', Hf2, _, I', r, S2, go.trans go2, fun i z => by cases z⟩

/-- a name that is looked at -/
theorem denP_slot {i : Nat} {x : Str} {pos : Pos} (hN : X.N[i]? = some x) (hv : Vis X.env.scope x) (hd : (x == ("__debug__" : Str)) = false) (hcd : (x == ("__classdict__" : Str)) = false) : DenP X C (.Name x pos) (.slot i) := by
  refine ⟨fun pins s g H Hf d t F ta d' I S q => ?_⟩
  obtain ⟨o, e1, q⟩ := Option.bind_eq_some_iff.mp q
  cases q
  obtain ⟨v, hv', r⟩ := S.env i o (getD_some e1)
  refine thn ((pe_var (X := X) hN hv hd hcd (pos := pos)).run pins s g H (fun z H' => z = v ∧ H' = H) I ⟨v, hv', rfl, rfl⟩) fun u s' ⟨z, H', I', rv, ez, eH⟩ => ?_
  subst ez eH
  exact ⟨z, _, Hf, F, I', rv, by simpa using S, Go.refl, fun j z' => by cases z'; exact hv'⟩
/-- a name's value -/
theorem den_var {i : Nat} {x : Str} {pos : Pos} (hN : X.N[i]? = some x) (hv : Vis X.env.scope x) (hd : (x == ("__debug__" : Str)) = false) (hcd : (x == ("__classdict__" : Str)) = false) : Den X C (.Name x pos) (evVar i) := by
  refine ⟨fun pins s g H Hf d t F o d' I S q => ?_⟩
  obtain ⟨o1, e1, q⟩ := Option.bind_eq_some_iff.mp q
  cases q
  obtain ⟨Hf', v, hv', S', go, rp⟩ := S.freeze (getD_some e1)
  refine thn ((pe_var (X := X) hN hv hd hcd (pos := pos)).run pins s g H (fun z H' => z = v ∧ H' = H) I ⟨v, hv', rfl, rfl⟩) fun u s' ⟨z, H', I', rv, ez, eH⟩ => ?_
  subst ez eH
  obtain ⟨S2, go2⟩ := S'.pushV rp
  exact ⟨z, _, Hf', _, I', rv, S2, go.trans go2⟩
/-- from a PE whose reading hands on a flat constant -/
theorem den_c {e : Expr} {v : V} {x : D} (h : PE X e (tC v)) (hx : ∀ G, Rp X.K X.w C G x v) : Den X C e (evC x) := by
  refine ⟨fun pins s g H Hf d t F o d' I S q => ?_⟩
  cases q
  refine thn (h.run pins s g H (fun z H' => z = v ∧ H' = H) I ⟨rfl, rfl⟩) fun u s' ⟨z, H', I', rv, ez, eH⟩ => ?_
  subst ez eH
  obtain ⟨S2, go2⟩ := S.pushV (hx Hf)
  exact ⟨z, H', Hf, _, I', rv, S2, go2⟩

/-! ### dropping temporaries -/
theorem ST.popAll {K : PySem.W.Frag} {w : World} {H Hf : Hp} {d : PEnv} {g : St} {t : Tmp} : ∀ (ts : Tmp) {F : Fps}, ST K w C H Hf d g (t ++ ts) F → ∃ F', ST K w C H Hf d g t F' ∧ Go H Hf F H Hf F' := by
  intro ts
  induction ts generalizing t with
  | nil =>
    intro F S
    exact ⟨F, by simpa using S, Go.refl⟩
  | cons x ts ih =>
    intro F S
    obtain ⟨F1, S1, g1⟩ := ih (t := t ++ [x]) (by simpa using S)
    obtain ⟨S2, g2⟩ := S1.pop
    exact ⟨_, S2, g1.trans g2⟩
end
end Pd
/-! Pd3: argument lists; views; what a value-level operation gives; operators and calls by values. -/
namespace Pd
open PySem L2

def goL : List Opn → PEnv → Option (List O × PEnv)
  | [], d => some ([], d)
  | p :: ps, d => (p.go d).bind fun a => (goL ps a.2).bind fun b => some (a.1 ++ b.1, b.2)
def lookL : List Opn → PEnv → List O → Option (List O)
  | [], _, _ => some []
  | p :: ps, d, l => (p.look d l).bind fun a => (lookL ps d a.2).bind fun os => some (a.1 :: os)
/-- several operands: what they are at the end -/
def evL (ps : List Opn) (d : PEnv) : Option (List O × PEnv) := (goL ps d).bind fun a => (lookL ps a.2 a.1).bind fun os => some (os, a.2)

section
variable (K : PySem.W.Frag) (w : World) (C : Str → Option Addr) (H Hf : Hp)
def OrA : List O → List V → Prop
  | [], vs => vs = []
  | o :: os, vs => ∃ v us, vs = v :: us ∧ (∃ f, Or K w C H Hf o v f) ∧ OrA os us
end

section
variable (X : Cx) (C : Str → Option Addr)
def PostA (pins : List (Addr × Obj)) (g : St) (H Hf : Hp) (F : Fps) (t : Tmp) (ps : List Opn) (ta : List O) (d' : PEnv) : List Value → Shared → Prop := fun us s' =>
  ∃ vs H' Hf' F' tv, Inv X pins g H' s' ∧ Vals vs us ∧ ST X.K X.w C H' Hf' d' g (t ++ ta.zip tv) F' ∧ Go H Hf F H' Hf' F' ∧ tv.length = ta.length ∧ vs.length = ps.length ∧ (∀ (i j : Nat), ps[j]? = some (Opn.slot i) → ∃ v, vs[j]? = some v ∧ g[i]? = some (some v)) ∧
    ∀ os, lookL ps d' ta = some os → OrA X.K X.w C H' Hf' os vs
structure DenA (es : List Expr) (ps : List Opn) : Prop where
  run : ∀ (pos : Pos) (pins : List (Addr × Obj)) (s : Shared) (g : St) (H Hf : Hp) (d : PEnv) (t : Tmp) (F : Fps) (ta : List O) (d' : PEnv), Inv X pins g H s → ST X.K X.w C H Hf d g t F → goL ps d = some (ta, d') →
    wpAny (model X.prog X.w) X.A (spliced (backTo pos (starEach es X.env))) (PostA X C pins g H Hf F t ps ta d') X.xe s
end

section
variable {X : Cx} {C : Str → Option Addr}
theorem zip_cst (v : V) : ∀ l : List O, l.zip (l.map fun _ => v) = l.map fun o => (o, v)
  | [] => rfl
  | x :: l => by
    rw [List.map_cons, List.zip_cons_cons, List.map_cons, zip_cst v l]
theorem denA_nil : DenA X C [] [] := by
  refine ⟨fun pos pins s g H Hf d t F ta d' I S q => ?_⟩
  cases q
  refine Calls.spliced_nil ⟨[], H, Hf, F, [], I, .nil, by simpa using S, Go.refl, rfl, rfl, fun i j e => by simp at e, fun os e => ?_⟩
  cases e
  exact rfl
theorem denA_cons {e : Expr} {es : List Expr} {p : Opn} {ps : List Opn} (ha : DenP X C e p) (hr : DenA X C es ps) (hs : starEach (e :: es) X.env = (false, eval e X.env) :: starEach es X.env) : DenA X C (e :: es) (p :: ps) := by
  refine ⟨fun pos pins s g H Hf d t F ta d' I S q => ?_⟩
  rw [hs]
  obtain ⟨⟨t1, d1⟩, q1, q⟩ := Option.bind_eq_some_iff.mp q
  obtain ⟨⟨t2, d2⟩, q2, q⟩ := Option.bind_eq_some_iff.mp q
  cases q
  show wpAny _ _ (spliced ((false, eval e X.env) :: backTo pos (starEach es X.env))) _ _ s
  refine Calls.spliced_cons (thn (ha.run pins s g H Hf d t F t1 d1 I S q1) fun u s1 ⟨v, H1, Hf1, F1, I1, r1, S1, g1, sl⟩ => ?_)
  refine thn (hr.run pos pins s1 g H1 Hf1 d1 _ F1 t2 d2 I1 S1 q2) fun us s2 ⟨vs, H2, Hf2, F2, tv, I2, r2, S2, g2, lt, lv, sls, an⟩ => ?_
  refine ⟨v :: vs, H2, Hf2, F2, t1.map (fun _ => v) ++ tv, I2, .cons r1 r2, ?_, g1.trans g2, by simp [lt], by simp [lv], fun i j e => ?_, fun os e => ?_⟩
  · have e0 : (t1 ++ t2).zip (t1.map (fun _ => v) ++ tv) = t1.map (fun o => (o, v)) ++ t2.zip tv := by
      rw [List.zip_append (by simp), zip_cst]
    rw [e0, ← List.append_assoc]
    exact S2
  · cases j with
    | zero =>
      have z : p = .slot i := by simpa using e
      exact ⟨v, rfl, sl i z⟩
    | succ j =>
      obtain ⟨v', h1, h2⟩ := sls i j (by simpa using e)
      exact ⟨v', by simpa using h1, h2⟩
  · obtain ⟨⟨o, l⟩, e1, e⟩ := Option.bind_eq_some_iff.mp e
    obtain ⟨os', e2, e⟩ := Option.bind_eq_some_iff.mp e
    cases e
    cases p with
    | slot i =>
      obtain ⟨o', z1, z⟩ := Option.bind_eq_some_iff.mp e1
      cases z
      obtain ⟨o'', y1, y⟩ := Option.bind_eq_some_iff.mp q1
      cases y
      obtain ⟨v', hv, r⟩ := S2.env i o (getD_some z1)
      have ev := sl i rfl
      rw [hv] at ev
      cases ev
      exact ⟨v, vs, rfl, ⟨_, r⟩, an os' (by simpa using e2)⟩
    | ex f =>
      obtain ⟨⟨o', d''⟩, y1, y⟩ := Option.bind_eq_some_iff.mp q1
      cases y
      cases e1
      refine ⟨v, vs, rfl, ⟨_, S2.tmp t.length _ v ?_⟩, an os' e2⟩
      simp

/-! ### views -/
def O.vals : List O → Option (List D)
  | [] => some []
  | .val d :: r => (O.vals r).bind fun l => some (d :: l)
  | _ => none
def O.valsD : List (D × O) → Option (List (D × D))
  | [] => some []
  | (k, .val d) :: r => (O.valsD r).bind fun l => some ((k, d) :: l)
  | _ => none
def O.valsF : List (Str × O) → Option (List (Str × D))
  | [] => some []
  | (k, .val d) :: r => (O.valsF r).bind fun l => some ((k, d) :: l)
  | _ => none
/-- the data of a tree that owns at most its top -/
def O.sh : O → Option D
  | .val d => some d
  | .lst xs => (O.vals xs).bind fun l => some (.lst l)
  | .dic kvs => (O.valsD kvs).bind fun l => some (.dic l)
  | .ins c fs => (O.valsF fs).bind fun l => some (.ins c l)
def O.shs : List O → Option (List D)
  | [] => some []
  | o :: r => o.sh.bind fun d => (O.shs r).bind fun l => some (d :: l)

variable {K : PySem.W.Frag} {w : World} {H Hf : Hp}
/-- the top stands in H, what is below it in the frozen part -/
def Rs (K : PySem.W.Frag) (w : World) (C : Str → Option Addr) (H Hf : Hp) : D → V → Prop
  | .lst xs, v => ∃ a vs, v = .ref a ∧ H a = some (.lst vs) ∧ RpL K w C Hf xs vs
  | .tup xs, v => ∃ a vs, v = .ref a ∧ SqT K Hf a vs ∧ RpL K w C Hf xs vs
  | .dic kvs, v => ∃ a es, v = .ref a ∧ KeysOk (kvs.map (·.1)) ∧ H a = some (hoDic a es) ∧ RpD K w C Hf kvs es.2
  | .ins c fs, v => ∃ a cl dx vs, v = .ref a ∧ C c = some cl ∧ H a = some (.ins cl dx vs) ∧ RpF K w C Hf fs vs
  | .non, v => v = .non
  | .bl b, v => v = .bl b
  | .int i, v => v = .int i
  | .str x, v => v = .str x
  | .scr ns, v => ∃ a, v = .ref a ∧ SqL K H a (ns.map V.int)
  | .ty n, v => v = .ty n.name
  | .glo x, v => ∃ a, v = .ref a ∧ C x = some a
theorem Rp.rs (l : Le Hf H) : ∀ {d : D} {v : V}, Rp K w C Hf d v → Rs K w C H Hf d v
  | .non, _, h => h
  | .bl _, _, h => h
  | .int _, _, h => h
  | .str _, _, h => h
  | .tup xs, _, ⟨a, vs, e, s, r⟩ => ⟨a, vs, e, s, r⟩
  | .lst xs, _, ⟨a, vs, e, s, r⟩ => ⟨a, vs, e, l a _ s, r⟩
  | .dic kvs, _, ⟨a, es, e, ok, s, r⟩ => ⟨a, es, e, ok, l a _ s, r⟩
  | .ins _ fs, _, ⟨a, cl, dx, vs, e, c, s, r⟩ => ⟨a, cl, dx, vs, e, c, l a _ s, r⟩
  | .scr _, _, ⟨a, e, s⟩ => ⟨a, e, l.sqL s⟩
  | .ty _, _, h => h
  | .glo _, _, h => h
theorem Rs.rp (l : Le Hf H) : ∀ {d : D} {v : V}, Rs K w C H Hf d v → Rp K w C H d v
  | .non, _, h => h
  | .bl _, _, h => h
  | .int _, _, h => h
  | .str _, _, h => h
  | .tup xs, _, ⟨a, vs, e, s, r⟩ => ⟨a, vs, e, l.sqT s, RpL.mono l _ _ r⟩
  | .lst xs, _, ⟨a, vs, e, s, r⟩ => ⟨a, vs, e, s, RpL.mono l _ _ r⟩
  | .dic kvs, _, ⟨a, es, e, ok, s, r⟩ => ⟨a, es, e, ok, s, RpD.mono l _ _ r⟩
  | .ins _ fs, _, ⟨a, cl, dx, vs, e, c, s, r⟩ => ⟨a, cl, dx, vs, e, c, s, RpF.mono l _ _ r⟩
  | .scr _, _, h => h
  | .ty _, _, h => h
  | .glo _, _, h => h
theorem OrL.vals : ∀ {os : List O} {ds : List D} {vs : List V} {f : List Addr}, O.vals os = some ds → OrL K w C H Hf os vs f → f = [] ∧ RpL K w C Hf ds vs
  | [], ds, vs, f, h, ⟨e1, e2⟩ => by
    cases h
    exact ⟨e2, e1⟩
  | .val d :: r, ds, vs, f, h, ⟨v, us, f1, g1, e, e2, ⟨e3, rp⟩, rs⟩ => by
    obtain ⟨l, h1, h2⟩ := Option.bind_eq_some_iff.mp h
    cases h2
    obtain ⟨z1, z2⟩ := OrL.vals h1 rs
    exact ⟨by rw [e2, e3, z1]; rfl, ⟨v, us, e, rp, z2⟩⟩
  | .lst _ :: _, _, _, _, h, _ => by cases h
  | .dic _ :: _, _, _, _, h, _ => by cases h
  | .ins _ _ :: _, _, _, _, h, _ => by cases h
theorem OrD.vals : ∀ {os : List (D × O)} {ds : List (D × D)} {vs : List Ent} {f : List Addr}, O.valsD os = some ds → OrD K w C H Hf os vs f → f = [] ∧ RpD K w C Hf ds vs
  | [], ds, vs, f, h, ⟨e1, e2⟩ => by
    cases h
    exact ⟨e2, e1⟩
  | (k, .val d) :: r, ds, vs, f, h, ⟨a, v, us, f1, g1, e, e2, rk, ⟨e3, rp⟩, rs⟩ => by
    obtain ⟨l, h1, h2⟩ := Option.bind_eq_some_iff.mp h
    cases h2
    obtain ⟨z1, z2⟩ := OrD.vals h1 rs
    exact ⟨by rw [e2, e3, z1]; rfl, ⟨a, v, us, e, rk, rp, z2⟩⟩
  | (_, .lst _) :: _, _, _, _, h, _ => by cases h
  | (_, .dic _) :: _, _, _, _, h, _ => by cases h
  | (_, .ins _ _) :: _, _, _, _, h, _ => by cases h
theorem OrF.vals : ∀ {os : List (Str × O)} {ds : List (Str × D)} {vs : List (Str × V)} {f : List Addr}, O.valsF os = some ds → OrF K w C H Hf os vs f → f = [] ∧ RpF K w C Hf ds vs
  | [], ds, vs, f, h, ⟨e1, e2⟩ => by
    cases h
    exact ⟨e2, e1⟩
  | (k, .val d) :: r, ds, vs, f, h, ⟨v, us, f1, g1, e, e2, ⟨e3, rp⟩, rs⟩ => by
    obtain ⟨l, h1, h2⟩ := Option.bind_eq_some_iff.mp h
    cases h2
    obtain ⟨z1, z2⟩ := OrF.vals h1 rs
    exact ⟨by rw [e2, e3, z1]; rfl, ⟨v, us, e, rp, z2⟩⟩
  | (_, .lst _) :: _, _, _, _, h, _ => by cases h
  | (_, .dic _) :: _, _, _, _, h, _ => by cases h
  | (_, .ins _ _) :: _, _, _, _, h, _ => by cases h
theorem valsD_keys : ∀ {os : List (D × O)} {ds : List (D × D)}, O.valsD os = some ds → ds.map (·.1) = os.map (·.1)
  | [], ds, h => by
    cases h
    rfl
  | (k, .val d) :: r, ds, h => by
    obtain ⟨l, h1, h2⟩ := Option.bind_eq_some_iff.mp h
    cases h2
    show k :: l.map (·.1) = k :: r.map (·.1)
    rw [valsD_keys h1]
  | (_, .lst _) :: _, _, h => by cases h
  | (_, .dic _) :: _, _, h => by cases h
  | (_, .ins _ _) :: _, _, h => by cases h
theorem Or.sh (l : Le Hf H) : ∀ {o : O} {x : D} {v : V} {f : List Addr}, o.sh = some x → Or K w C H Hf o v f → Rs K w C H Hf x v
  | .val d, x, v, f, h, ⟨_, r⟩ => by
    cases h
    exact Rp.rs l r
  | .lst xs, x, v, f, h, ⟨a, vs, f1, e, e2, hh, r⟩ => by
    obtain ⟨ds, h1, h2⟩ := Option.bind_eq_some_iff.mp h
    cases h2
    exact ⟨a, vs, e, hh, (OrL.vals h1 r).2⟩
  | .dic xs, x, v, f, h, ⟨a, vs, f1, e, e2, ok, hh, r⟩ => by
    obtain ⟨ds, h1, h2⟩ := Option.bind_eq_some_iff.mp h
    cases h2
    exact ⟨a, vs, e, by rw [valsD_keys h1]; exact ok, hh, (OrD.vals h1 r).2⟩
  | .ins c xs, x, v, f, h, ⟨a, cl, dx, vs, f1, e, e2, hc, hh, r⟩ => by
    obtain ⟨ds, h1, h2⟩ := Option.bind_eq_some_iff.mp h
    cases h2
    exact ⟨a, cl, dx, vs, e, hc, hh, (OrF.vals h1 r).2⟩
def RsA (K : PySem.W.Frag) (w : World) (C : Str → Option Addr) (H Hf : Hp) : List D → List V → Prop
  | [], vs => vs = []
  | d :: ds, vs => ∃ v us, vs = v :: us ∧ Rs K w C H Hf d v ∧ RsA K w C H Hf ds us
theorem OrA.shs (l : Le Hf H) : ∀ {os : List O} {xs : List D} {vs : List V}, O.shs os = some xs → OrA K w C H Hf os vs → RsA K w C H Hf xs vs
  | [], xs, vs, h, e => by
    cases h
    exact e
  | o :: os, xs, vs, h, ⟨v, us, e, ⟨f, r⟩, rs⟩ => by
    obtain ⟨d, h1, h⟩ := Option.bind_eq_some_iff.mp h
    obtain ⟨ds, h2, h⟩ := Option.bind_eq_some_iff.mp h
    cases h
    exact ⟨v, us, e, Or.sh l h1 r, OrA.shs l h2 rs⟩
end
end Pd
/-! Pd4: value-level operations and the expressions made of them. -/
namespace Pd
open PySem L2

/-- new objects alone -/
structure Al (H Hf H' Hf' : Hp) (f : List Addr) : Prop where
  lH : Le H H'
  lF : Le Hf Hf'
  nw : ∀ a u, Hf' a = some u → Hf a = some u ∨ H a = none
  l' : Le Hf' H'
  fr : ∀ a, a ∈ f → H a = none
  nd : f.Nodup
  fz : ∀ a, a ∈ f → Hf' a = none
theorem Al.rfl {H Hf : Hp} (l : Le Hf H) : Al H Hf H Hf [] := ⟨Le.rfl, Le.rfl, fun _ _ h => .inl h, l, fun a h => (by cases h), List.nodup_nil, fun a h => (by cases h)⟩
/-- a new object, owned -/
theorem Al.own {H Hf : Hp} {p : Addr} {o : HO} (l : Le Hf H) (h : H p = none) : Al H Hf (upd H p o) Hf [p] :=
  ⟨Le.upd h, Le.rfl, fun _ _ q => .inl q, l.trans (Le.upd h), fun a ha => by rw [List.mem_singleton.mp ha]; exact h, by simp, fun a ha => by
    rw [List.mem_singleton.mp ha]
    cases q : Hf p with
    | none => rfl
    | some u => rw [l p u q] at h; cases h⟩
/-- a new object, frozen -/
theorem Al.frz {H Hf : Hp} {p : Addr} {o : HO} (l : Le Hf H) (h : H p = none) : Al H Hf (upd H p o) (upd Hf p o) [] := by
  have hf : Hf p = none := by
    cases q : Hf p with
    | none => rfl
    | some u => rw [l p u q] at h; cases h
  refine ⟨Le.upd h, Le.upd hf, fun a u q => ?_, fun a u q => ?_, fun a ha => (by cases ha), List.nodup_nil, fun a ha => (by cases ha)⟩
  · by_cases e : a = p
    · exact .inr (by rw [e]; exact h)
    · rw [upd_ne e] at q; exact .inl q
  · by_cases e : a = p
    · rw [e, upd_same] at q ⊢
      exact q
    · rw [upd_ne e] at q ⊢
      exact l a u q

section
variable (X : Cx) (C : Str → Option Addr)
def PO (pins : List (Addr × Obj)) (g : St) (H Hf : Hp) (o : O) : Value → Shared → Prop := fun u s' =>
  ∃ v H' Hf' f, Inv X pins g H' s' ∧ RelV v u ∧ Al H Hf H' Hf' f ∧ Or X.K X.w C H' Hf' o v f
end
section
variable {X : Cx} {C : Str → Option Addr}

/-- the operands are evaluated; the operation is done; its value stands on top -/
theorem fin_op {pins : List (Addr × Obj)} {s : Shared} {g : St} {H Hf : Hp} {F : Fps} {t : Tmp} {ps : List Opn} {ta os : List O} {xs : List D} {d' : PEnv} {us : List Value} {o : O} {m : Sem Value} (h : PostA X C pins g H Hf F t ps ta d' us s)
    (hl : lookL ps d' ta = some os) (hx : O.shs os = some xs)
    (k : ∀ vs H2 Hf2, Inv X pins g H2 s → Le Hf2 H2 → Vals vs us → RsA X.K X.w C H2 Hf2 xs vs → wpAny (model X.prog X.w) X.A m (PO X C pins g H2 Hf2 o) X.xe s) :
    wpAny (model X.prog X.w) X.A m (Post X C pins g H Hf F t o d') X.xe s := by
  obtain ⟨vs, H2, Hf2, F2, tv, I2, r2, S2, g2, _, _, _, an⟩ := h
  have ra := OrA.shs S2.le hx (an os hl)
  obtain ⟨F3, S3, g3⟩ := ST.popAll _ S2
  refine thn (k vs H2 Hf2 I2 S2.le r2 ra) fun u s' ⟨v, H', Hf', f, I', r, al, ro⟩ => ?_
  obtain ⟨S4, g4⟩ := S3.push al.lH al.lF al.nw al.l' al.fr al.nd al.fz ro
  exact ⟨v, H', Hf', _, I', r, S4, (g2.trans g3).trans g4⟩
theorem postA_nil {pins : List (Addr × Obj)} {s : Shared} {g : St} {H Hf : Hp} {F : Fps} {t : Tmp} {d : PEnv} (I : Inv X pins g H s) (S : ST X.K X.w C H Hf d g t F) : PostA X C pins g H Hf F t [] [] d [] s :=
  ⟨[], H, Hf, F, [], I, .nil, by simpa using S, Go.refl, rfl, rfl, fun i j e => by simp at e, fun os e => by
    cases e
    exact rfl⟩
theorem postA_cons {pins : List (Addr × Obj)} {s2 : Shared} {g : St} {H Hf H1 Hf1 : Hp} {F F1 : Fps} {t : Tmp} {d d1 d2 : PEnv} {p : Opn} {ps : List Opn} {t1 t2 : List O} {u : Value} {us : List Value} {v : V} (q1 : p.go d = some (t1, d1)) (r1 : RelV v u)
    (S1 : ST X.K X.w C H1 Hf1 d1 g (t ++ t1.map fun o => (o, v)) F1) (g1 : Go H Hf F H1 Hf1 F1) (sl : ∀ i, p = .slot i → g[i]? = some (some v)) (h : PostA X C pins g H1 Hf1 F1 (t ++ t1.map fun o => (o, v)) ps t2 d2 us s2) :
    PostA X C pins g H Hf F t (p :: ps) (t1 ++ t2) d2 (u :: us) s2 := by
  obtain ⟨vs, H2, Hf2, F2, tv, I2, r2, S2, g2, lt, lv, sls, an⟩ := h
  refine ⟨v :: vs, H2, Hf2, F2, t1.map (fun _ => v) ++ tv, I2, .cons r1 r2, ?_, g1.trans g2, by simp [lt], by simp [lv], fun i j e => ?_, fun os e => ?_⟩
  · have e0 : (t1 ++ t2).zip (t1.map (fun _ => v) ++ tv) = t1.map (fun o => (o, v)) ++ t2.zip tv := by
      rw [List.zip_append (by simp), zip_cst]
    rw [e0, ← List.append_assoc]
    exact S2
  · cases j with
    | zero =>
      have z : p = .slot i := by simpa using e
      exact ⟨v, rfl, sl i z⟩
    | succ j =>
      obtain ⟨v', h1, h2⟩ := sls i j (by simpa using e)
      exact ⟨v', by simpa using h1, h2⟩
  · obtain ⟨⟨o, l⟩, e1, e⟩ := Option.bind_eq_some_iff.mp e
    obtain ⟨os', e2, e⟩ := Option.bind_eq_some_iff.mp e
    cases e
    cases p with
    | slot i =>
      obtain ⟨o', z1, z⟩ := Option.bind_eq_some_iff.mp e1
      cases z
      obtain ⟨o'', y1, y⟩ := Option.bind_eq_some_iff.mp q1
      cases y
      obtain ⟨v', hv, r⟩ := S2.env i o (getD_some z1)
      have ev := sl i rfl
      rw [hv] at ev
      cases ev
      exact ⟨v, vs, rfl, ⟨_, r⟩, an os' (by simpa using e2)⟩
    | ex f =>
      obtain ⟨⟨o', d''⟩, y1, y⟩ := Option.bind_eq_some_iff.mp q1
      cases y
      cases e1
      refine ⟨v, vs, rfl, ⟨_, S2.tmp t.length _ v ?_⟩, an os' e2⟩
      simp

/-- an operation on n operands' data -/
def evN (ps : List Opn) (r : List D → Option O) : Ev := fun d => (goL ps d).bind fun a => (lookL ps a.2 a.1).bind fun os => (O.shs os).bind fun xs => (r xs).bind fun o => some (o, a.2)
theorem evN_inv {ps : List Opn} {r : List D → Option O} {d d' : PEnv} {o : O} (h : evN ps r d = some (o, d')) : ∃ ta os xs, goL ps d = some (ta, d') ∧ lookL ps d' ta = some os ∧ O.shs os = some xs ∧ r xs = some o := by
  obtain ⟨⟨ta, d1⟩, h1, h⟩ := Option.bind_eq_some_iff.mp h
  obtain ⟨os, h2, h⟩ := Option.bind_eq_some_iff.mp h
  obtain ⟨xs, h3, h⟩ := Option.bind_eq_some_iff.mp h
  obtain ⟨o', h4, h⟩ := Option.bind_eq_some_iff.mp h
  cases h
  exact ⟨ta, os, xs, h1, h2, h3, h4⟩
def r2 (r : D → D → Option O) : List D → Option O
  | [a, b] => r a b
  | _ => none
def r1 (r : D → Option O) : List D → Option O
  | [a] => r a
  | _ => none

/-- a two-place operation by values -/
def Op2 (X : Cx) (C : Str → Option Addr) (m : Value → Value → Sem Value) (r : D → D → Option O) : Prop :=
  ∀ (pins : List (Addr × Obj)) (s : Shared) (g : St) (H Hf : Hp) (x y : V) (v u : Value) (a b : D) (o : O), Inv X pins g H s → Le Hf H → RelV x v → RelV y u → Rs X.K X.w C H Hf a x → Rs X.K X.w C H Hf b y → r a b = some o →
    wpAny (model X.prog X.w) X.A (m v u) (PO X C pins g H Hf o) X.xe s
theorem Op2.run2 {m : Value → Value → Sem Value} {r : D → D → Option O} {ps : List Opn} (hm : Op2 X C m r) {pins : List (Addr × Obj)} {s : Shared} {g : St} {H Hf : Hp} {F : Fps} {t : Tmp} {ta os : List O} {xs : List D} {d' : PEnv} {v u : Value} {o : O} (h : PostA X C pins g H Hf F t ps ta d' [v, u] s)
    (hl : lookL ps d' ta = some os) (hx : O.shs os = some xs) (hr : Pd.r2 r xs = some o) : wpAny (model X.prog X.w) X.A (m v u) (Post X C pins g H Hf F t o d') X.xe s := by
  refine fin_op h hl hx fun vs H2 Hf2 I2 l2 rv ra => ?_
  match xs, hr, ra with
  | [a, b], hr, ⟨x, _, e1, k1, y, _, e2, k2, e3⟩ =>
    subst e3 e2 e1
    cases rv with
    | cons q1 q2 =>
      cases q2 with
      | cons q2 q3 => exact hm pins s g H2 Hf2 x y v u a b o I2 l2 q1 q2 k1 k2 hr
/-- two operands in a row, then the rest -/
theorem two {ea eb : Expr} {pa pb : Opn} (ha : DenP X C ea pa) (hb : DenP X C eb pb) {pins : List (Addr × Obj)} {s : Shared} {g : St} {H Hf : Hp} {d d' : PEnv} {F : Fps} {t : Tmp} {ta : List O} (I : Inv X pins g H s) (S : ST X.K X.w C H Hf d g t F) (q : goL [pa, pb] d = some (ta, d')) :
    wpAny (model X.prog X.w) X.A (eval ea X.env) (fun v s₁ => wpAny (model X.prog X.w) X.A (eval eb X.env) (fun u s₂ => PostA X C pins g H Hf F t [pa, pb] ta d' [v, u] s₂) X.xe s₁) X.xe s := by
  obtain ⟨⟨t1, d1⟩, q1, q⟩ := Option.bind_eq_some_iff.mp q
  obtain ⟨⟨t2, d2⟩, q2, q⟩ := Option.bind_eq_some_iff.mp q
  cases q
  obtain ⟨⟨t3, d3⟩, q3, q2⟩ := Option.bind_eq_some_iff.mp q2
  obtain ⟨⟨t4, d4⟩, q4, q2⟩ := Option.bind_eq_some_iff.mp q2
  cases q4
  cases q2
  refine thn (ha.run pins s g H Hf d t F t1 d1 I S q1) fun v s1 ⟨x, H1, Hf1, F1, I1, r1, S1, g1, sl1⟩ => ?_
  refine thn (hb.run pins s1 g H1 Hf1 d1 _ F1 t3 d3 I1 S1 q3) fun u s2 ⟨y, H2, Hf2, F2, I2, r2, S2, g2, sl2⟩ => ?_
  exact postA_cons q1 r1 S1 g1 sl1 (postA_cons q3 r2 S2 g2 sl2 (postA_nil I2 S2))
theorem one {ea : Expr} {pa : Opn} (ha : DenP X C ea pa) {pins : List (Addr × Obj)} {s : Shared} {g : St} {H Hf : Hp} {d d' : PEnv} {F : Fps} {t : Tmp} {ta : List O} (I : Inv X pins g H s) (S : ST X.K X.w C H Hf d g t F) (q : goL [pa] d = some (ta, d')) :
    wpAny (model X.prog X.w) X.A (eval ea X.env) (fun v s₁ => PostA X C pins g H Hf F t [pa] ta d' [v] s₁) X.xe s := by
  obtain ⟨⟨t1, d1⟩, q1, q⟩ := Option.bind_eq_some_iff.mp q
  obtain ⟨⟨t2, d2⟩, q2, q⟩ := Option.bind_eq_some_iff.mp q
  cases q2
  cases q
  refine thn (ha.run pins s g H Hf d t F t1 d1 I S q1) fun v s1 ⟨x, H1, Hf1, F1, I1, r1, S1, g1, sl1⟩ => ?_
  exact postA_cons q1 r1 S1 g1 sl1 (postA_nil I1 S1)

theorem den_bin {op : Operator} {r : D → D → Option O} {ea eb : Expr} {pa pb : Opn} {pos : Pos} (ho : Op2 X C (binaryOp op) r) (ha : DenP X C ea pa) (hb : DenP X C eb pb) : Den X C (.BinOp ea op eb pos) (evN [pa, pb] (r2 r)) := by
  refine ⟨fun pins s g H Hf d t F o d' I S q => ?_⟩
  obtain ⟨ta, os, xs, h1, h2, h3, h4⟩ := evN_inv q
  exact wpAny_BinOp (thn (two ha hb I S h1) fun v s1 k1 => thn k1 fun u s2 k2 => ho.run2 k2 h2 h3 h4)
theorem den_cmp {op : CmpOp} {r : D → D → Option O} {ea eb : Expr} {pa pb : Opn} {pos : Pos} (ho : Op2 X C (compareOp op) r) (ha : DenP X C ea pa) (hb : DenP X C eb pb) (hm : behindInMarks op eb = false) : Den X C (.Compare ea [op] [eb] pos) (evN [pa, pb] (r2 r)) := by
  refine ⟨fun pins s g H Hf d t F o d' I S q => ?_⟩
  obtain ⟨ta, os, xs, h1, h2, h3, h4⟩ := evN_inv q
  exact wpAny_Compare1 (thn (two ha hb I S h1) fun v s1 k1 => thn k1 fun u s2 k2 => ho.run2 k2 h2 h3 h4) hm

/-! ### tests -/
abbrev EvB := PEnv → Option (Bool × PEnv)
/-- a value that is a bool, as a test -/
def evB (f : Ev) : EvB := fun d => (f d).bind fun p => match p.1 with
  | .val (.bl b) => some (b, p.2)
  | _ => none
theorem evB_inv {f : Ev} {d d' : PEnv} {b : Bool} (h : evB f d = some (b, d')) : f d = some (.val (.bl b), d') := by
  obtain ⟨⟨o, d1⟩, h1, h⟩ := Option.bind_eq_some_iff.mp h
  split at h
  · cases h
    rename_i e
    have e' : o = _ := e
    rw [h1, e']
  · cases h
def PostT (X : Cx) (C : Str → Option Addr) (pins : List (Addr × Obj)) (g : St) (H Hf : Hp) (F : Fps) (t : Tmp) (b : Bool) (d' : PEnv) : Bool → Shared → Prop := fun c s' =>
  c = b ∧ ∃ H' Hf' F', Inv X pins g H' s' ∧ ST X.K X.w C H' Hf' d' g t F' ∧ Go H Hf F H' Hf' F'
structure DenT (X : Cx) (C : Str → Option Addr) (e : Expr) (f : EvB) : Prop where
  run : ∀ (pins : List (Addr × Obj)) (s : Shared) (g : St) (H Hf : Hp) (d : PEnv) (t : Tmp) (F : Fps) (b : Bool) (d' : PEnv), Inv X pins g H s → ST X.K X.w C H Hf d g t F → f d = some (b, d') →
    wpAny (model X.prog X.w) X.A (isTrue e X.env (eval e X.env)) (PostT X C pins g H Hf F t b d') X.xe s
theorem Post.bool {pins : List (Addr × Obj)} {s : Shared} {g : St} {H Hf : Hp} {F : Fps} {t : Tmp} {b : Bool} {d' : PEnv} {u : Value} (h : Post X C pins g H Hf F t (.val (.bl b)) d' u s) : u = .bool b ∧ ∃ H' Hf' F', Inv X pins g H' s ∧ ST X.K X.w C H' Hf' d' g t F' ∧ Go H Hf F H' Hf' F' := by
  obtain ⟨v, H', Hf', F', I', r, S', g'⟩ := h
  have z : Or X.K X.w C H' Hf' (.val (.bl b)) v (F' (d'.length + t.length)) := S'.tmp t.length (.val (.bl b)) v (by simp)
  have e : v = .bl b := z.2
  subst e
  obtain ⟨S2, g2⟩ := S'.pop
  exact ⟨r, H', Hf', _, I', S2, g'.trans g2⟩
theorem Den.test {e : Expr} {f : Ev} (h : Den X C e f) (he : ∀ whole, isTrue e X.env whole = (do let v ← whole; standAt e.pos; holding [v] (truthy v))) : DenT X C e (evB f) := by
  refine ⟨fun pins s g H Hf d t F b d' I S q => ?_⟩
  refine PyProof.Rows.isTrue_plain (thn (h.run pins s g H Hf d t F _ d' I S (evB_inv q)) fun v s1 k => ?_) (he _)
  obtain ⟨e1, k3⟩ := k.bool
  subst e1
  exact wpAny_truthy_bool ⟨rfl, k3⟩
theorem denT_cmp {op : CmpOp} {r : D → D → Option O} {ea eb : Expr} {pa pb : Opn} {pos : Pos} (ho : Op2 X C (compareOp op) r) (ha : DenP X C ea pa) (hb : DenP X C eb pb) (hm : behindInMarks op eb = false) : DenT X C (.Compare ea [op] [eb] pos) (evB (evN [pa, pb] (r2 r))) := by
  refine ⟨fun pins s g H Hf d t F b d' I S q => ?_⟩
  obtain ⟨ta, os, xs, h1, h2, h3, h4⟩ := evN_inv (evB_inv q)
  refine wpAny_isTrue_Compare1 (thn (two ha hb I S h1) fun v s1 k1 => thn k1 fun u s2 k2 => thn (ho.run2 k2 h2 h3 h4) fun c s3 k => ?_) hm
  obtain ⟨e1, k3⟩ := k.bool
  subst e1
  exact wpAny_truthy_bool ⟨rfl, k3⟩
end
end Pd
/-! Pd5: operators on data. -/
namespace Pd
open PySem L2

/-! ### data as the library's -/
mutual
def D.py : D → PyData
  | .non => .none
  | .bl b => .bool b
  | .int i => .int i
  | .str x => .str x
  | .tup xs => .tuple (D.pys xs)
  | .lst xs => .list (D.pys xs)
  | _ => .none
def D.pys : List D → List PyData
  | [] => []
  | d :: ds => d.py :: D.pys ds
end

mutual
def D.ok : D → Nat → Bool
  | .non, _ | .bl _, _ | .int _, _ => true
  | .str x, _ => PyData.strOk x
  | .tup xs, n + 1 => D.oks xs n
  | .lst xs, n + 1 => D.oks xs n
  | _, _ => false
def D.oks : List D → Nat → Bool
  | [], _ => true
  | d :: ds, n => D.ok d n && D.oks ds n
end
mutual
theorem D.ok_lay : ∀ (d : D) (n : Nat), d.ok n = true → d.py.canLay0 = true ∧ d.py.depth ≤ n
  | .non, n, _ => ⟨rfl, Nat.zero_le _⟩
  | .bl _, n, _ => ⟨rfl, Nat.zero_le _⟩
  | .int _, n, _ => ⟨rfl, Nat.zero_le _⟩
  | .str _, n, h => ⟨h, Nat.zero_le _⟩
  | .tup xs, n + 1, h => let z := D.oks_lay xs n h; ⟨z.1, Nat.succ_le_succ z.2⟩
  | .lst xs, n + 1, h => let z := D.oks_lay xs n h; ⟨z.1, Nat.succ_le_succ z.2⟩
  | .tup _, 0, h => by cases h
  | .lst _, 0, h => by cases h
  | .dic _, _, h => by cases h
  | .ins _ _, _, h => by cases h
  | .scr _, _, h => by cases h
  | .ty _, _, h => by cases h
  | .glo _, _, h => by cases h
theorem D.oks_lay : ∀ (ds : List D) (n : Nat), D.oks ds n = true → PyData.canLayAll0 (D.pys ds) = true ∧ PyData.depthAll (D.pys ds) ≤ n
  | [], n, _ => ⟨rfl, Nat.zero_le _⟩
  | d :: ds, n, h => by
    obtain ⟨h1, h2⟩ := Bool.and_eq_true_iff.mp (show (D.ok d n && D.oks ds n) = true from h)
    obtain ⟨a1, a2⟩ := D.ok_lay d n h1
    obtain ⟨b1, b2⟩ := D.oks_lay ds n h2
    refine ⟨?_, ?_⟩
    · show (d.py.canLay0 && PyData.canLayAll0 (D.pys ds)) = true
      rw [a1, b1]; rfl
    · show max d.py.depth (PyData.depthAll (D.pys ds)) ≤ n
      omega
end
theorem D.shaped {d : D} (h : d.ok 60 = true) : SeqAt.shaped d.py = true := by
  obtain ⟨a, b⟩ := D.ok_lay d 60 h
  show (d.py.canLay0 && decide (d.py.depth ≤ 64)) = true
  rw [a, decide_eq_true (by omega)]
  rfl
section
variable {K : PySem.W.Frag} {w : World} {C : Str → Option Addr} {H Hf : Hp}
mutual
theorem Rp.dp : ∀ (d : D) (n : Nat) (v : V), d.ok n = true → Rp K w C H d v → Dp K H v d.py
  | .non, _, _, _, h => by
    have e : _ = V.non := h
    rw [e]; exact .non
  | .bl b, _, _, _, h => by
    have e : _ = V.bl b := h
    rw [e]; exact .bl b
  | .int i, _, _, _, h => by
    have e : _ = V.int i := h
    rw [e]; exact .int i
  | .str x, _, _, _, h => by
    have e : _ = V.str x := h
    rw [e]; exact .str x
  | .tup xs, n + 1, _, q, ⟨a, vs, e, s, r⟩ => by
    rw [e]
    exact .tup s (RpL.dp xs n vs q r)
  | .lst xs, n + 1, _, q, ⟨a, vs, e, s, r⟩ => by
    rw [e]
    exact .lst (SqL.of s) (RpL.dp xs n vs q r)
  | .tup _, 0, _, h, _ => by cases h
  | .lst _, 0, _, h, _ => by cases h
  | .dic _, _, _, h, _ => by cases h
  | .ins _ _, _, _, h, _ => by cases h
  | .scr _, _, _, h, _ => by cases h
  | .ty _, _, _, h, _ => by cases h
  | .glo _, _, _, h, _ => by cases h
theorem RpL.dp : ∀ (ds : List D) (n : Nat) (vs : List V), D.oks ds n = true → RpL K w C H ds vs → DpAll K H vs (D.pys ds)
  | [], _, _, _, h => by
    have e : _ = ([] : List V) := h
    rw [e]; exact .nil
  | d :: ds, n, _, q, ⟨v, us, e, r, rs⟩ => by
    obtain ⟨h1, h2⟩ := Bool.and_eq_true_iff.mp (show (D.ok d n && D.oks ds n) = true from q)
    rw [e]
    exact .cons (Rp.dp d n v h1 r) (RpL.dp ds n us h2 rs)
end
end

/-! ### == -/
def D.eqv (a b : D) : Bool := PyData.eqv a.py b.py
def rEq (a b : D) : Option O := if a.ok 60 && b.ok 60 then some (.val (.bl (a.eqv b))) else none
def rNe (a b : D) : Option O := if a.ok 60 && b.ok 60 then some (.val (.bl (!a.eqv b))) else none
/-- x in y -/
def D.isIn (x : D) (ys : List D) : Bool := ys.any fun y => y.eqv x
def rInB (a b : D) : Option Bool := match b with
  | .lst ys => if a.ok 60 && D.oks ys 59 then some (a.isIn ys) else none
  | .tup ys => if a.ok 60 && D.oks ys 59 then some (a.isIn ys) else none
  | _ => none
section
variable {X : Cx} {C : Str → Option Addr} {pins : List (Addr × Obj)} {s : Shared} {g : St} {H Hf : Hp}
theorem PO.flat {d : D} {v : V} {u : Value} (I : Inv X pins g H s) (l : Le Hf H) (r : RelV v u) (hd : Rp X.K X.w C Hf d v) : PO X C pins g H Hf (.val d) u s := ⟨v, H, Hf, [], I, r, Al.rfl l, rfl, hd⟩
/-- an operation whose reading hands on a flat value -/
theorem Op2.ofFlat {m : Value → Value → Sem Value} {r' : R2} {r : D → D → Option O} (h : OpR X m r')
    (hr : ∀ (H Hf : Hp) (a b : D) (o : O) (x y : V), Le Hf H → Rs X.K X.w C H Hf a x → Rs X.K X.w C H Hf b y → r a b = some o → ∃ d z, o = .val d ∧ (∀ G, Rp X.K X.w C G d z) ∧ ∀ Q : VK, Q z H → r' x y H Q) : Op2 X C m r := by
  intro pins s g H Hf x y v u a b o I l rx ry ra rb q
  obtain ⟨d, z, rfl, hd, k⟩ := hr H Hf a b o x y l ra rb q
  exact thn (h pins s g H x y v u (fun z' H' => z' = z ∧ H' = H) I rx ry (k _ ⟨rfl, rfl⟩)) fun c s' ⟨z', H', I', rz, e1, e2⟩ => by
    subst e1 e2
    exact PO.flat I' l rz (hd Hf)
theorem op2_eq (hu : X.A.units + 64 < cLine) : Op2 X C (compareOp .Eq) rEq := Op2.ofFlat (op_eqD hu) fun H Hf a b o x y l ra rb q => by
  unfold rEq at q
  split at q
  · rename_i h
    cases q
    obtain ⟨h1, h2⟩ := Bool.and_eq_true_iff.mp h
    exact ⟨_, .bl (a.eqv b), rfl, fun _ => rfl, fun Q k => ⟨_, _, Rp.dp a 60 x h1 (ra.rp l), Rp.dp b 60 y h2 (rb.rp l), D.shaped h1, D.shaped h2, k⟩⟩
  · cases q
theorem op2_ne (hu : X.A.units + 64 < cLine) : Op2 X C (compareOp .NotEq) rNe := Op2.ofFlat (op_neD hu) fun H Hf a b o x y l ra rb q => by
  unfold rNe at q
  split at q
  · rename_i h
    cases q
    obtain ⟨h1, h2⟩ := Bool.and_eq_true_iff.mp h
    exact ⟨_, .bl (!a.eqv b), rfl, fun _ => rfl, fun Q k => ⟨_, _, Rp.dp a 60 x h1 (ra.rp l), Rp.dp b 60 y h2 (rb.rp l), D.shaped h1, D.shaped h2, k⟩⟩
  · cases q
end
end Pd
/-! Pd6: arithmetic, order, membership, items. -/
namespace Pd
open PySem L2 PyProof.Rows
def D.asInt : D → Option Int
  | .int i => some i
  | _ => none
def D.asStr : D → Option Str
  | .str i => some i
  | _ => none
def D.asLst : D → Option (List D)
  | .lst i => some i
  | _ => none
def D.asTup : D → Option (List D)
  | .tup i => some i
  | _ => none
theorem asInt_eq : ∀ {d : D} {i : Int}, d.asInt = some i → d = .int i
  | .int _, _, h => by cases h; rfl
theorem asStr_eq : ∀ {d : D} {i : Str}, d.asStr = some i → d = .str i
  | .str _, _, h => by cases h; rfl
theorem asLst_eq : ∀ {d : D} {i : List D}, d.asLst = some i → d = .lst i
  | .lst _, _, h => by cases h; rfl
theorem asTup_eq : ∀ {d : D} {i : List D}, d.asTup = some i → d = .tup i
  | .tup _, _, h => by cases h; rfl
/-- both of one kind, then k -/
def both {α : Type} (f : D → Option α) (k : α → α → Option O) (a b : D) : Option O := (f a).bind fun x => (f b).bind fun y => k x y
theorem both_inv {α : Type} {f : D → Option α} {k : α → α → Option O} {a b : D} {o : O} (h : both f k a b = some o) : ∃ x y, f a = some x ∧ f b = some y ∧ k x y = some o := by
  obtain ⟨x, h1, h⟩ := Option.bind_eq_some_iff.mp h
  obtain ⟨y, h2, h⟩ := Option.bind_eq_some_iff.mp h
  exact ⟨x, y, h1, h2, h⟩
section
variable {X : Cx} {C : Str → Option Addr}
theorem Op2.or {m : Value → Value → Sem Value} {r r' q : D → D → Option O} (h : Op2 X C m r) (h' : Op2 X C m r') (hq : ∀ a b o, q a b = some o → r a b = some o ∨ r' a b = some o) : Op2 X C m q := by
  intro pins s g H Hf x y v u a b o I l rx ry ra rb e
  rcases hq a b o e with e | e
  · exact h pins s g H Hf x y v u a b o I l rx ry ra rb e
  · exact h' pins s g H Hf x y v u a b o I l rx ry ra rb e
/-- an operation of two ints -/
theorem Op2.ints {m : Value → Value → Sem Value} {k : Int → Int → Option D} (hk : ∀ i j d, k i j = some d → ∃ z, ∀ G, Rp X.K X.w C G d z)
    (h : ∀ (i j : Int) (t u : Tok) (s : Shared) (d : D) (Q : Value → Shared → Prop), k i j = some d → (∀ v tk, (∀ z, (∀ G, Rp X.K X.w C G d z) → RelV z v) → Q v { s with toks := tk }) → wpAny (model X.prog X.w) X.A (m (.int i t) (.int j u)) Q X.xe s) :
    Op2 X C m (both D.asInt fun i j => (k i j).map O.val) := by
  intro pins s g H Hf x y v u a b o I l rx ry ra rb e
  obtain ⟨i, j, h1, h2, e⟩ := both_inv e
  have z1 := asInt_eq h1
  have z2 := asInt_eq h2
  subst z1 z2
  obtain ⟨d, hd, ho⟩ := Option.map_eq_some_iff.mp e
  subst ho
  have ex : x = .int i := ra
  have ey : y = .int j := rb
  subst ex ey
  obtain ⟨t, rfl⟩ := rx
  obtain ⟨t', rfl⟩ := ry
  obtain ⟨z, hz⟩ := hk i j d hd
  exact h i j t t' s d _ hd fun v tk hv => PO.flat (I.tok tk) l (hv z hz) (hz Hf)
theorem relInt {K : PySem.W.Frag} {w : World} {i : Int} {z : V} {tk : Tok} (h : ∀ G, Rp K w C G (.int i) z) : RelV z (.int i tk) := by
  have e : z = .int i := h fun _ => none
  rw [e]; exact ⟨tk, rfl⟩
theorem relBl {K : PySem.W.Frag} {w : World} {b : Bool} {z : V} (h : ∀ G, Rp K w C G (.bl b) z) : RelV z (.bool b) := by
  have e : z = .bl b := h fun _ => none
  rw [e]; exact rfl
abbrev onInts (k : Int → Int → Option D) : D → D → Option O := both D.asInt fun i j => (k i j).map O.val
theorem op2_addI : Op2 X C (binaryOp .Add) (onInts fun i j => some (.int (i + j))) := Op2.ints (fun i j d e => by cases e; exact ⟨.int (i + j), fun _ => rfl⟩) fun i j t u s d Q e q => by
  cases e
  exact add_int (q _ _ fun z hz => relInt hz)
theorem op2_subI : Op2 X C (binaryOp .Sub) (onInts fun i j => some (.int (i - j))) := Op2.ints (fun i j d e => by cases e; exact ⟨.int (i - j), fun _ => rfl⟩) fun i j t u s d Q e q => by
  cases e
  exact sub_int (q _ _ fun z hz => relInt hz)
/-- the products that the model lets pass -/
def mulOk (a b : Int) : Bool := !(decide (Builtin.Int.intBits a > shortFactorBits) && decide (Builtin.Int.intBits b > shortFactorBits) && Builtin.Int.intTooBig (Builtin.Int.intBits a + Builtin.Int.intBits b))
theorem mulOk_iff {a b : Int} (h : mulOk a b = true) : IntMulOk a b := by
  intro q
  unfold mulOk at h
  rw [q] at h
  cases h
theorem op2_mulI : Op2 X C (binaryOp .Mult) (onInts fun i j => if mulOk i j then some (.int (i * j)) else none) := Op2.ints (fun i j d e => by
    split at e
    · cases e; exact ⟨.int (i * j), fun _ => rfl⟩
    · cases e) fun i j t u s d Q e q => by
  split at e
  · rename_i h
    cases e
    exact mul_int (q _ _ fun z hz => relInt hz) (mulOk_iff h)
  · cases e
theorem op2_modI : Op2 X C (binaryOp .Mod) (onInts fun i j => if 0 < j then some (.int (i % j)) else none) := Op2.ints (fun i j d e => by
    split at e
    · cases e; exact ⟨.int (i % j), fun _ => rfl⟩
    · cases e) fun i j t u s d Q e q => by
  split at e
  · rename_i h
    cases e
    refine mod_int' (by omega) ?_
    rw [Int.fmod_eq_emod_of_nonneg _ (by omega)]
    exact q _ _ fun z hz => relInt hz
  · cases e
theorem op2_fdivI : Op2 X C (binaryOp .FloorDiv) (onInts fun i j => if 0 < j ∧ j < 1073741824 then some (.int (i / j)) else none) := Op2.ints (fun i j d e => by
    split at e
    · cases e; exact ⟨.int (i / j), fun _ => rfl⟩
    · cases e) fun i j t u s d Q e q => by
  split at e
  · rename_i h
    cases e
    refine floordiv_int (by omega) ?_ (.inl (PyProof.noPylong_small (by omega)))
    rw [Int.fdiv_eq_ediv_of_nonneg _ (by omega)]
    exact q _ _ fun z hz => relInt hz
  · cases e
def powOk (a n : Int) : Bool := decide (0 ≤ n) && decide ((Builtin.Int.intBits a : Int) * n ≤ 2 ^ 27)
theorem op2_powI : Op2 X C (binaryOp .Pow) (onInts fun i j => if powOk i j then some (.int (i ^ j.toNat)) else none) := Op2.ints (fun i j d e => by
    split at e
    · cases e; exact ⟨.int (i ^ j.toNat), fun _ => rfl⟩
    · cases e) fun i j t u s d Q e q => by
  split at e
  · rename_i h
    cases e
    obtain ⟨h1, h2⟩ := Bool.and_eq_true_iff.mp h
    exact pow_int (of_decide_eq_true h1) (of_decide_eq_true h2) (q _ _ fun z hz => relInt hz)
  · cases e
theorem op2_ltI : Op2 X C (compareOp .Lt) (onInts fun i j => some (.bl (decide (i < j)))) := Op2.ints (fun i j d e => by cases e; exact ⟨.bl _, fun _ => rfl⟩) fun i j t u s d Q e q => by
  cases e
  exact lt_int (q _ s.toks fun z hz => relBl hz)
theorem op2_leI : Op2 X C (compareOp .LtE) (onInts fun i j => some (.bl (decide (i ≤ j)))) := Op2.ints (fun i j d e => by cases e; exact ⟨.bl _, fun _ => rfl⟩) fun i j t u s d Q e q => by
  cases e
  exact le_int (q _ s.toks fun z hz => relBl hz)
theorem op2_gtI : Op2 X C (compareOp .Gt) (onInts fun i j => some (.bl (decide (j < i)))) := Op2.ints (fun i j d e => by cases e; exact ⟨.bl _, fun _ => rfl⟩) fun i j t u s d Q e q => by
  cases e
  exact gt_int (q _ s.toks fun z hz => relBl hz)
theorem op2_geI : Op2 X C (compareOp .GtE) (onInts fun i j => some (.bl (decide (j ≤ i)))) := Op2.ints (fun i j d e => by cases e; exact ⟨.bl _, fun _ => rfl⟩) fun i j t u s d Q e q => by
  cases e
  exact ge_int (q _ s.toks fun z hz => relBl hz)

/-! ### new lists, new tuples -/
theorem orL_vals {K : PySem.W.Frag} {w : World} {H Hf : Hp} : ∀ {ds : List D} {vs : List V}, RpL K w C Hf ds vs → OrL K w C H Hf (ds.map O.val) vs []
  | [], _, h => ⟨h, rfl⟩
  | d :: ds, _, ⟨v, us, e, r, rs⟩ => ⟨v, us, [], [], e, rfl, ⟨rfl, r⟩, orL_vals rs⟩
/-- a new list of frozen items -/
def O.ofL (ds : List D) : O := .lst (ds.map O.val)
section
variable {pins : List (Addr × Obj)} {s : Shared} {g : L2.St} {H Hf : Hp} {p : Addr} {u : Value}
theorem PO.newL {ds : List D} {vs : List V} (l : Le Hf H) (hp : H p = none) (I : Inv X pins g (upd H p (.lst vs)) s) (r : RelV (.ref p) u) (rs : RpL X.K X.w C Hf ds vs) : PO X C pins g H Hf (O.ofL ds) u s :=
  ⟨.ref p, _, Hf, [p], I, r, Al.own l hp, p, vs, [], rfl, rfl, upd_same, orL_vals rs⟩
theorem PO.newT {ds : List D} {vs : List V} (l : Le Hf H) (hp : H p = none) (I : Inv X pins g (upd H p (.tup vs)) s) (r : RelV (.ref p) u) (rs : RpL X.K X.w C Hf ds vs) : PO X C pins g H Hf (.val (.tup ds)) u s := by
  have a := Al.frz (o := .tup vs) l hp
  exact ⟨.ref p, _, upd Hf p (.tup vs), [], I, r, a, rfl, p, vs, rfl, SqT.of upd_same, RpL.mono a.lF _ _ rs⟩
end
theorem sz5 {n : Nat} (h : n ≤ 100000) : n ≤ sizeLine := Nat.le_trans h (by decide)
def kAddS (x y : Str) : Option O := if x.length + y.length ≤ 100000 then some (.val (.str (x ++ y))) else none
def kAddL (x y : List D) : Option O := if x.length + y.length ≤ 100000 then some (O.ofL (x ++ y)) else none
def kAddT (x y : List D) : Option O := if x.length + y.length ≤ 100000 then some (.val (.tup (x ++ y))) else none
theorem op2_addS : Op2 X C (binaryOp .Add) (both D.asStr kAddS) := Op2.ofFlat op_add_str fun H Hf a b o x y l ra rb q => by
  obtain ⟨i, j, h1, h2, q0⟩ := both_inv q
  have z1 := asStr_eq h1
  have z2 := asStr_eq h2
  subst z1 z2
  unfold kAddS at q0
  split at q0
  · rename_i h
    cases q0
    exact ⟨_, .str (i ++ j), rfl, fun _ => rfl, fun Q k => ⟨i, j, ra, rb, sz5 h, k⟩⟩
  · cases q0
theorem op2_addL : Op2 X C (binaryOp .Add) (both D.asLst kAddL) := by
  intro pins s g H Hf x y v u a b o I l rx ry ra rb q
  obtain ⟨xs, ys, h1, h2, q0⟩ := both_inv q
  have z1 := asLst_eq h1
  have z2 := asLst_eq h2
  subst z1 z2
  obtain ⟨p1, v1, e1, h1, r1⟩ := ra
  obtain ⟨p2, v2, e2, h2, r2⟩ := rb
  unfold kAddL at q0
  split at q0
  · rename_i h
    cases q0
    refine thn (op_cat pins s g H x y v u (fun z H' => ∃ p, z = .ref p ∧ H p = none ∧ H' = upd H p (.lst (v1 ++ v2))) I rx ry ⟨p1, p2, v1, v2, e1, e2, h1, h2, sz5 (by rw [r1.length, r2.length]; exact h), fun p hp => ⟨p, rfl, hp, rfl⟩⟩) fun c s' ⟨z, H', I', rz, p, e3, hp, e4⟩ => ?_
    subst e3 e4
    exact PO.newL l hp I' rz (r1.append r2)
  · cases q0
theorem RpL.nil_iff {K : PySem.W.Frag} {w : World} {H : Hp} {ds : List D} {vs : List V} (r : RpL K w C H ds vs) : vs = [] ↔ ds = [] := by
  have e := r.length
  constructor
  · intro h
    rw [h] at e
    exact List.eq_nil_of_length_eq_zero e.symm
  · intro h
    rw [h] at e
    exact List.eq_nil_of_length_eq_zero e
theorem op2_addT : Op2 X C (binaryOp .Add) (both D.asTup kAddT) := by
  intro pins s g H Hf x y v u a b o I l rx ry ra rb q
  obtain ⟨xs, ys, h1, h2, q0⟩ := both_inv q
  have z1 := asTup_eq h1
  have z2 := asTup_eq h2
  subst z1 z2
  have ra0 : Rp X.K X.w C Hf (.tup xs) x := ra
  have rb0 : Rp X.K X.w C Hf (.tup ys) y := rb
  obtain ⟨p1, v1, e1, h1, r1⟩ := ra
  obtain ⟨p2, v2, e2, h2, r2⟩ := rb
  unfold kAddT at q0
  split at q0
  · rename_i h
    cases q0
    refine thn (op_catA pins s g H x y v u (fun z H' => (v1 = [] ∧ z = .ref p2 ∧ H' = H) ∨ (v2 = [] ∧ z = .ref p1 ∧ H' = H) ∨ ∃ p, z = .ref p ∧ H p = none ∧ H' = upd H p (.tup (v1 ++ v2))) I rx ry
      ⟨p1, p2, v1, v2, e1, e2, l.sqT h1, l.sqT h2, sz5 (by rw [r1.length, r2.length]; exact h), fun e => .inl ⟨e, rfl, rfl⟩, fun _ e => .inr (.inl ⟨e, rfl, rfl⟩), fun _ _ p hp => .inr (.inr ⟨p, rfl, hp, rfl⟩)⟩) fun c s' ⟨z, H', I', rz, k⟩ => ?_
    rcases k with ⟨z1, e3, e4⟩ | ⟨z1, e3, e4⟩ | ⟨p, e3, hp, e4⟩
    · subst e3 e4
      rw [r1.nil_iff.mp z1, List.nil_append]
      rw [e2] at rb0
      exact PO.flat I' l rz rb0
    · subst e3 e4
      rw [r2.nil_iff.mp z1, List.append_nil]
      rw [e1] at ra0
      exact PO.flat I' l rz ra0
    · subst e3 e4
      exact PO.newT l hp I' rz (r1.append r2)
  · cases q0
end
end Pd
/-! Pd7: sums of operators; membership; chains; and, or, not, if; is None. -/
namespace Pd
open PySem L2 PyProof.Rows
/-- the first that answers -/
def alt (r q : D → D → Option O) (a b : D) : Option O := match r a b with
  | some o => some o
  | none => q a b
theorem alt_inv {r q : D → D → Option O} {a b : D} {o : O} (h : alt r q a b = some o) : r a b = some o ∨ q a b = some o := by
  unfold alt at h
  split at h
  · rename_i e
    cases h
    exact .inl e
  · exact .inr h
section
variable {X : Cx} {C : Str → Option Addr}
theorem Op2.alt {m : Value → Value → Sem Value} {r q : D → D → Option O} (h : Op2 X C m r) (h' : Op2 X C m q) : Op2 X C m (Pd.alt r q) := h.or h' fun _ _ _ e => alt_inv e
/-- a list times an int -/
def rRepL (a b : D) : Option O := a.asLst.bind fun xs => b.asInt.bind fun k => if 0 ≤ k ∧ k ≤ 1000 ∧ xs.length ≤ 1000 then some (O.ofL (List.replicate k.toNat xs).flatten) else none
theorem rpL_rep {K : PySem.W.Frag} {w : World} {H : Hp} {ds : List D} {vs : List V} (r : RpL K w C H ds vs) : ∀ n : Nat, RpL K w C H (List.replicate n ds).flatten (List.replicate n vs).flatten
  | 0 => rfl
  | n + 1 => by
    rw [List.replicate_succ, List.flatten_cons, List.replicate_succ, List.flatten_cons]
    exact r.append (rpL_rep r n)
theorem op2_repL : Op2 X C (binaryOp .Mult) rRepL := by
  intro pins s g H Hf x y v u a b o I l rx ry ra rb q
  obtain ⟨xs, h1, q0⟩ := Option.bind_eq_some_iff.mp q
  obtain ⟨k, h2, q1⟩ := Option.bind_eq_some_iff.mp q0
  have z1 := asLst_eq h1
  have z2 := asInt_eq h2
  subst z1 z2
  split at q1
  · rename_i h
    cases q1
    obtain ⟨p1, v1, e1, hh, r1⟩ := ra
    have e2 : y = .int k := rb
    have hl := r1.length
    have hs := sizeLine_eq
    refine thn (op_rep pins s g H x y v u (fun z H' => ∃ p, z = .ref p ∧ H p = none ∧ H' = upd H p (.lst (List.replicate k.toNat v1).flatten)) I rx ry
      ⟨p1, k, v1, e1, e2, hh, by omega, by omega, ?_, fun p hp => ⟨p, rfl, hp, rfl⟩⟩) fun c s' ⟨z, H', I', rz, p, e3, hp, e4⟩ => ?_
    · have h3 : v1.length * k.toNat ≤ 1000 * 1000 := Nat.mul_le_mul (by omega) (by omega)
      omega
    · subst e3 e4
      exact PO.newL l hp I' rz (rpL_rep r1 _)
  · cases q1

/-! ### the operators of the text -/
def rAdd : D → D → Option O := alt (onInts fun i j => some (.int (i + j))) (alt (both D.asTup kAddT) (alt (both D.asLst kAddL) (both D.asStr kAddS)))
def rSub : D → D → Option O := onInts fun i j => some (.int (i - j))
def rMul : D → D → Option O := alt (onInts fun i j => if mulOk i j then some (.int (i * j)) else none) rRepL
def rMod : D → D → Option O := onInts fun i j => if 0 < j then some (.int (i % j)) else none
def rDiv : D → D → Option O := onInts fun i j => if 0 < j ∧ j < 1073741824 then some (.int (i / j)) else none
def rPow : D → D → Option O := onInts fun i j => if powOk i j then some (.int (i ^ j.toNat)) else none
def rBin : Operator → Option (D → D → Option O)
  | .Add => some rAdd
  | .Sub => some rSub
  | .Mult => some rMul
  | .Mod => some rMod
  | .FloorDiv => some rDiv
  | .Pow => some rPow
  | _ => none
theorem op2_bin {op : Operator} {r : D → D → Option O} (h : rBin op = some r) : Op2 X C (binaryOp op) r := by
  cases op <;> cases h
  · exact op2_addI.alt (op2_addT.alt (op2_addL.alt op2_addS))
  · exact op2_subI
  · exact op2_mulI.alt op2_repL
  · exact op2_modI
  · exact op2_powI
  · exact op2_fdivI

/-! ### membership -/
def kIn (neg : Bool) (x : D) (ys : List D) : Option O := if x.ok 60 && D.oks ys 59 then some (.val (.bl (if neg then !x.isIn ys else x.isIn ys))) else none
def rInL (neg : Bool) (a b : D) : Option O := b.asLst.bind fun ys => kIn neg a ys
def rInT (neg : Bool) (a b : D) : Option O := b.asTup.bind fun ys => kIn neg a ys
theorem any_py (x : D) : ∀ ys : List D, ((D.pys ys).any fun z => PyData.eqv z x.py) = x.isIn ys
  | [] => rfl
  | y :: ys => by
    show (PyData.eqv y.py x.py || (D.pys ys).any fun z => PyData.eqv z x.py) = (y.eqv x || D.isIn x ys)
    rw [any_py x ys]
    rfl
theorem oks_lst {ys : List D} (h : D.oks ys 59 = true) : D.ok (.lst ys) 60 = true := h
theorem oks_tup {ys : List D} (h : D.oks ys 59 = true) : D.ok (.tup ys) 60 = true := h
theorem op2_inL (hu : X.A.units + 65 < cLine) : Op2 X C (compareOp .In) (rInL false) := Op2.ofFlat (op_inD hu) fun H Hf a b o x y l ra rb q => by
  obtain ⟨ys, h1, q0⟩ := Option.bind_eq_some_iff.mp q
  have z1 := asLst_eq h1
  subst z1
  unfold kIn at q0
  split at q0
  · rename_i h
    cases q0
    obtain ⟨h1, h2⟩ := Bool.and_eq_true_iff.mp h
    refine ⟨_, .bl (a.isIn ys), rfl, fun _ => rfl, fun Q k => ⟨_, D.pys ys, Rp.dp a 60 x h1 (ra.rp l), Rp.dp (.lst ys) 60 y (oks_lst h2) (rb.rp l), D.shaped h1, D.shaped (oks_lst h2), ?_⟩⟩
    rw [any_py]
    exact k
  · cases q0
theorem op2_notInL (hu : X.A.units + 65 < cLine) : Op2 X C (compareOp .NotIn) (rInL true) := Op2.ofFlat (op_notInD hu) fun H Hf a b o x y l ra rb q => by
  obtain ⟨ys, h1, q0⟩ := Option.bind_eq_some_iff.mp q
  have z1 := asLst_eq h1
  subst z1
  unfold kIn at q0
  split at q0
  · rename_i h
    cases q0
    obtain ⟨h1, h2⟩ := Bool.and_eq_true_iff.mp h
    refine ⟨_, .bl (!a.isIn ys), rfl, fun _ => rfl, fun Q k => ⟨_, D.pys ys, Rp.dp a 60 x h1 (ra.rp l), Rp.dp (.lst ys) 60 y (oks_lst h2) (rb.rp l), D.shaped h1, D.shaped (oks_lst h2), ?_⟩⟩
    rw [any_py]
    exact k
  · cases q0
theorem op_inTD (hu : X.A.units + 65 < cLine) : OpR X (compareOp .In) (fun x y H Q => ∃ d ds, Dp X.K H x d ∧ Dp X.K H y (.tuple ds) ∧ SeqAt.shaped d = true ∧ SeqAt.shaped (.tuple ds) = true ∧ Q (.bl (ds.any fun z => PyData.eqv z d)) H) := by
  intro pins s g H x y v u Q I rx ry h
  obtain ⟨d, ds, hd, he, sd, se, q⟩ := h
  obtain ⟨as, k1⟩ := Dp.reads I d x v hd rx
  obtain ⟨bs, k2⟩ := Dp.reads I (.tuple ds) y u he ry
  exact SeqAt.in_tuple_reads k2 k1 (SeqAt.canLay_of_shaped se) (SeqAt.canLay_of_shaped sd) (room_in_shaped sd hu) ⟨.bl _, H, I, rfl, q⟩
theorem op_notInTD (hu : X.A.units + 65 < cLine) : OpR X (compareOp .NotIn) (fun x y H Q => ∃ d ds, Dp X.K H x d ∧ Dp X.K H y (.tuple ds) ∧ SeqAt.shaped d = true ∧ SeqAt.shaped (.tuple ds) = true ∧ Q (.bl (!ds.any fun z => PyData.eqv z d)) H) := by
  intro pins s g H x y v u Q I rx ry h
  obtain ⟨d, ds, hd, he, sd, se, q⟩ := h
  obtain ⟨as, k1⟩ := Dp.reads I d x v hd rx
  obtain ⟨bs, k2⟩ := Dp.reads I (.tuple ds) y u he ry
  exact SeqAt.notIn_tuple_reads k2 k1 (SeqAt.canLay_of_shaped se) (SeqAt.canLay_of_shaped sd) (room_in_shaped sd hu) ⟨.bl _, H, I, rfl, q⟩
theorem op2_inT (hu : X.A.units + 65 < cLine) : Op2 X C (compareOp .In) (rInT false) := Op2.ofFlat (op_inTD hu) fun H Hf a b o x y l ra rb q => by
  obtain ⟨ys, h1, q0⟩ := Option.bind_eq_some_iff.mp q
  have z1 := asTup_eq h1
  subst z1
  unfold kIn at q0
  split at q0
  · rename_i h
    cases q0
    obtain ⟨h1, h2⟩ := Bool.and_eq_true_iff.mp h
    refine ⟨_, .bl (a.isIn ys), rfl, fun _ => rfl, fun Q k => ⟨_, D.pys ys, Rp.dp a 60 x h1 (ra.rp l), Rp.dp (.tup ys) 60 y (oks_tup h2) (rb.rp l), D.shaped h1, D.shaped (oks_tup h2), ?_⟩⟩
    rw [any_py]
    exact k
  · cases q0
theorem op2_notInT (hu : X.A.units + 65 < cLine) : Op2 X C (compareOp .NotIn) (rInT true) := Op2.ofFlat (op_notInTD hu) fun H Hf a b o x y l ra rb q => by
  obtain ⟨ys, h1, q0⟩ := Option.bind_eq_some_iff.mp q
  have z1 := asTup_eq h1
  subst z1
  unfold kIn at q0
  split at q0
  · rename_i h
    cases q0
    obtain ⟨h1, h2⟩ := Bool.and_eq_true_iff.mp h
    refine ⟨_, .bl (!a.isIn ys), rfl, fun _ => rfl, fun Q k => ⟨_, D.pys ys, Rp.dp a 60 x h1 (ra.rp l), Rp.dp (.tup ys) 60 y (oks_tup h2) (rb.rp l), D.shaped h1, D.shaped (oks_tup h2), ?_⟩⟩
    rw [any_py]
    exact k
  · cases q0
/-- one sign in a text -/
def kInS (neg : Bool) (x y : Str) : Option O := match x.cps.toList with
  | [c] => some (.val (.bl (if neg then !decide (c ∈ y.cps.toList) else decide (c ∈ y.cps.toList))))
  | _ => none
theorem one_sign {x : Str} {c : Nat} (h : x.cps.toList = [c]) : x = ⟨#[c]⟩ := by
  obtain ⟨a⟩ := x
  have : a = #[c] := by
    have z := congrArg List.toArray h
    simpa using z
  rw [this]
theorem op2_inS : Op2 X C (compareOp .In) (both D.asStr (kInS false)) := Op2.ofFlat op_in_sign fun H Hf a b o x y l ra rb q => by
  obtain ⟨i, j, h1, h2, q0⟩ := both_inv q
  have z1 := asStr_eq h1
  have z2 := asStr_eq h2
  subst z1 z2
  unfold kInS at q0
  split at q0
  · rename_i c hc
    cases q0
    have hx := one_sign hc
    subst hx
    exact ⟨_, .bl (decide (c ∈ j.cps.toList)), rfl, fun _ => rfl, fun Q k => ⟨c, j, ra, rb, k⟩⟩
  · cases q0
theorem op2_notInS : Op2 X C (compareOp .NotIn) (both D.asStr (kInS true)) := Op2.ofFlat op_notIn_sign fun H Hf a b o x y l ra rb q => by
  obtain ⟨i, j, h1, h2, q0⟩ := both_inv q
  have z1 := asStr_eq h1
  have z2 := asStr_eq h2
  subst z1 z2
  unfold kInS at q0
  split at q0
  · rename_i c hc
    cases q0
    have hx := one_sign hc
    subst hx
    exact ⟨_, .bl (!decide (c ∈ j.cps.toList)), rfl, fun _ => rfl, fun Q k => ⟨c, j, ra, rb, k⟩⟩
  · cases q0
/-! order of texts -/
theorem op2_leS : Op2 X C (compareOp .LtE) (both D.asStr fun i j => some (.val (.bl (!decide (j.cps.toList < i.cps.toList))))) := Op2.ofFlat op_le_str fun H Hf a b o x y l ra rb q => by
  obtain ⟨i, j, h1, h2, q0⟩ := both_inv q
  have z1 := asStr_eq h1
  have z2 := asStr_eq h2
  subst z1 z2
  cases q0
  exact ⟨_, .bl _, rfl, fun _ => rfl, fun Q k => ⟨i, j, ra, rb, k⟩⟩

/-! ### is None -/
def D.isNon : D → Bool
  | .non => true
  | _ => false
def rIsN (neg : Bool) (a b : D) : Option O := if b.isNon = true then some (.val (.bl (if neg then !a.isNon else a.isNon))) else none
theorem rs_non {K : PySem.W.Frag} {w : World} {H Hf : Hp} : ∀ {a : D} {x : V}, Rs K w C H Hf a x → decide (x = .non) = a.isNon
  | .non, x, h => by
    have e : x = V.non := h
    rw [e]; rfl
  | .bl _, x, h => by
    have e : x = V.bl _ := h
    rw [e]; rfl
  | .int _, x, h => by
    have e : x = V.int _ := h
    rw [e]; rfl
  | .str _, x, h => by
    have e : x = V.str _ := h
    rw [e]; rfl
  | .tup _, x, ⟨a, _, e, _⟩ => by rw [e]; rfl
  | .lst _, x, ⟨a, _, e, _⟩ => by rw [e]; rfl
  | .dic _, x, ⟨a, _, e, _⟩ => by rw [e]; rfl
  | .ins _ _, x, ⟨a, _, _, _, e, _⟩ => by rw [e]; rfl
  | .scr _, x, ⟨a, e, _⟩ => by rw [e]; rfl
  | .ty _, x, h => by
    have e : x = V.ty _ := h
    rw [e]; rfl
  | .glo _, x, ⟨a, e, _⟩ => by rw [e]; rfl
theorem isNon_eq : ∀ {d : D}, d.isNon = true → d = .non
  | .non, _ => rfl
theorem rIsN_inv {neg : Bool} {a b : D} {o : O} (q : rIsN neg a b = some o) : b = .non ∧ o = .val (.bl (if neg then !a.isNon else a.isNon)) := by
  unfold rIsN at q
  split at q
  · rename_i h
    cases q
    exact ⟨isNon_eq h, rfl⟩
  · cases q
theorem op2_isN : Op2 X C (compareOp .Is) (rIsN false) := Op2.ofFlat op_isN fun H Hf a b o x y l ra rb q => by
  obtain ⟨e1, e2⟩ := rIsN_inv q
  subst e1 e2
  refine ⟨_, .bl _, rfl, fun _ => rfl, fun Q k => ⟨rb, ?_⟩⟩
  rw [rs_non ra]
  exact k
theorem op2_notN : Op2 X C (compareOp .IsNot) (rIsN true) := Op2.ofFlat op_notN fun H Hf a b o x y l ra rb q => by
  obtain ⟨e1, e2⟩ := rIsN_inv q
  subst e1 e2
  refine ⟨_, .bl _, rfl, fun _ => rfl, fun Q k => ⟨rb, ?_⟩⟩
  rw [rs_non ra]
  exact k
end
end Pd
/-! Pd8: and, or, not, if, chains, items, slices, displays. -/
namespace Pd
open PySem L2 PyProof.Rows
section
variable {X : Cx} {C : Str → Option Addr}
/-! ### values -/
def evAnd (f k : Ev) : Ev := fun d => (evB f d).bind fun p => if p.1 = true then k p.2 else some (.val (.bl false), p.2)
def evOr (f k : Ev) : Ev := fun d => (evB f d).bind fun p => if p.1 = true then some (.val (.bl true), p.2) else k p.2
def evNot (f : Ev) : Ev := fun d => (evB f d).bind fun p => some (.val (.bl !p.1), p.2)
def evIf (c : EvB) (f k : Ev) : Ev := fun d => (c d).bind fun p => if p.1 = true then f p.2 else k p.2
/-- behind an evaluation whose value is a bool: the state without it -/
theorem Den.bool {e : Expr} {f : Ev} (h : Den X C e f) {pins : List (Addr × Obj)} {s : Shared} {g : L2.St} {H Hf : Hp} {d d1 : PEnv} {t : Tmp} {F : Fps} {b : Bool} (I : Inv X pins g H s) (S : ST X.K X.w C H Hf d g t F) (q : evB f d = some (b, d1)) :
    wpAny (model X.prog X.w) X.A (eval e X.env) (fun u s' => u = .bool b ∧ ∃ H' Hf' F', Inv X pins g H' s' ∧ ST X.K X.w C H' Hf' d1 g t F' ∧ Go H Hf F H' Hf' F') X.xe s :=
  thn (h.run pins s g H Hf d t F _ d1 I S (evB_inv q)) fun u s' k => k.bool
theorem Post.after {pins : List (Addr × Obj)} {g : L2.St} {H Hf H1 Hf1 : Hp} {F F1 : Fps} {t : Tmp} {o : O} {d' : PEnv} {u : Value} {s : Shared} (g1 : Go H Hf F H1 Hf1 F1) (h : Post X C pins g H1 Hf1 F1 t o d' u s) : Post X C pins g H Hf F t o d' u s := by
  obtain ⟨v, H', Hf', F', I', r, S', g'⟩ := h
  exact ⟨v, H', Hf', F', I', r, S', g1.trans g'⟩
theorem Post.ofC {pins : List (Addr × Obj)} {g : L2.St} {H Hf H1 Hf1 : Hp} {F F1 : Fps} {t : Tmp} {x : D} {v : V} {d' : PEnv} {u : Value} {s : Shared} (I : Inv X pins g H1 s) (S : ST X.K X.w C H1 Hf1 d' g t F1) (g1 : Go H Hf F H1 Hf1 F1) (r : RelV v u) (hx : Rp X.K X.w C Hf1 x v) : Post X C pins g H Hf F t (.val x) d' u s := by
  obtain ⟨S2, g2⟩ := S.pushV hx
  exact ⟨v, H1, Hf1, _, I, r, S2, g1.trans g2⟩
theorem den_one {op : BoolOp} {a : Expr} {f : Ev} {pos : Pos} (h : Den X C a f) : Den X C (.BoolOp op [a] pos) f := ⟨fun pins s g H Hf d t F o d' I S q => BoolOp_one (h.run pins s g H Hf d t F o d' I S q)⟩
theorem den_and {a b : Expr} {rest : List Expr} {f k : Ev} {pos : Pos} (ha : Den X C a f) (hb : Den X C (.BoolOp .And (b :: rest) pos) k) : Den X C (.BoolOp .And (a :: b :: rest) pos) (evAnd f k) := by
  refine ⟨fun pins s g H Hf d t F o d' I S q => ?_⟩
  obtain ⟨⟨c, d1⟩, q1, q2⟩ := Option.bind_eq_some_iff.mp q
  refine BoolOp_and (thn (ha.bool I S q1) fun v s1 ⟨e, H1, Hf1, F1, I1, S1, g1⟩ => ?_)
  subst e
  refine wpAny_truthy_bool ?_
  cases c with
  | true => exact thn (hb.run pins s1 g H1 Hf1 d1 t F1 o d' I1 S1 q2) fun u s' z => z.after g1
  | false =>
    cases q2
    exact Post.ofC I1 S1 g1 (show RelV (.bl false) _ from rfl) rfl
theorem den_or {a b : Expr} {rest : List Expr} {f k : Ev} {pos : Pos} (ha : Den X C a f) (hb : Den X C (.BoolOp .Or (b :: rest) pos) k) : Den X C (.BoolOp .Or (a :: b :: rest) pos) (evOr f k) := by
  refine ⟨fun pins s g H Hf d t F o d' I S q => ?_⟩
  obtain ⟨⟨c, d1⟩, q1, q2⟩ := Option.bind_eq_some_iff.mp q
  refine BoolOp_or (thn (ha.bool I S q1) fun v s1 ⟨e, H1, Hf1, F1, I1, S1, g1⟩ => ?_)
  subst e
  refine wpAny_truthy_bool ?_
  cases c with
  | false => exact thn (hb.run pins s1 g H1 Hf1 d1 t F1 o d' I1 S1 q2) fun u s' z => z.after g1
  | true =>
    cases q2
    exact Post.ofC I1 S1 g1 (show RelV (.bl true) _ from rfl) rfl
theorem den_not {a : Expr} {f : Ev} {pos : Pos} (ha : Den X C a f) : Den X C (.UnaryOp .Not a pos) (evNot f) := by
  refine ⟨fun pins s g H Hf d t F o d' I S q => ?_⟩
  obtain ⟨⟨c, d1⟩, q1, q2⟩ := Option.bind_eq_some_iff.mp q
  cases q2
  refine UnaryOp_ (thn (ha.bool I S q1) fun v s1 ⟨e, H1, Hf1, F1, I1, S1, g1⟩ => ?_)
  subst e
  exact not_of (wpAny_truthy_bool (Post.ofC I1 S1 g1 (show RelV (.bl !c) _ from rfl) rfl))
theorem den_if {c a b : Expr} {fc : EvB} {f k : Ev} {pos : Pos} (hc : DenT X C c fc) (ha : Den X C a f) (hb : Den X C b k) : Den X C (.IfExp c a b pos) (evIf fc f k) := by
  refine ⟨fun pins s g H Hf d t F o d' I S q => ?_⟩
  obtain ⟨⟨z, d1⟩, q1, q2⟩ := Option.bind_eq_some_iff.mp q
  refine wpAny_IfExp (thn (hc.run pins s g H Hf d t F z d1 I S q1) fun y s1 ⟨e, H1, Hf1, F1, I1, S1, g1⟩ => ?_)
  subst e
  cases y with
  | true => exact thn (ha.run pins s1 g H1 Hf1 d1 t F1 o d' I1 S1 q2) fun u s' z => z.after g1
  | false => exact thn (hb.run pins s1 g H1 Hf1 d1 t F1 o d' I1 S1 q2) fun u s' z => z.after g1

/-! ### tests -/
def tbAnd (f k : EvB) : EvB := fun d => (f d).bind fun p => if p.1 = true then k p.2 else some (false, p.2)
def tbOr (f k : EvB) : EvB := fun d => (f d).bind fun p => if p.1 = true then some (true, p.2) else k p.2
def tbNot (f : EvB) : EvB := fun d => (f d).bind fun p => some (!p.1, p.2)
/-- a test whatever its whole is -/
structure DenW (X : Cx) (C : Str → Option Addr) (e : Expr) (f : EvB) : Prop where
  run : ∀ (whole : Sem Value) (pins : List (Addr × Obj)) (s : Shared) (g : L2.St) (H Hf : Hp) (d : PEnv) (t : Tmp) (F : Fps) (b : Bool) (d' : PEnv), Inv X pins g H s → ST X.K X.w C H Hf d g t F → f d = some (b, d') →
    wpAny (model X.prog X.w) X.A (isTrue e X.env whole) (PostT X C pins g H Hf F t b d') X.xe s
theorem DenW.t {e : Expr} {f : EvB} (h : DenW X C e f) : DenT X C e f := ⟨h.run _⟩
theorem PostT.after {pins : List (Addr × Obj)} {g : L2.St} {H Hf H1 Hf1 : Hp} {F F1 : Fps} {t : Tmp} {b c : Bool} {d' : PEnv} {s : Shared} (g1 : Go H Hf F H1 Hf1 F1) (h : PostT X C pins g H1 Hf1 F1 t b d' c s) : PostT X C pins g H Hf F t b d' c s := by
  obtain ⟨e, H', Hf', F', I', S', g'⟩ := h
  exact ⟨e, H', Hf', F', I', S', g1.trans g'⟩
theorem denW_and1 {a : Expr} {f : EvB} {pos : Pos} (ha : DenT X C a f) : DenW X C (.BoolOp .And [a] pos) f := by
  refine ⟨fun wh pins s g H Hf d t F b d' I S q => ?_⟩
  refine isTrue_and (thn (ha.run pins s g H Hf d t F b d' I S q) fun c s1 e => ?_)
  cases c with
  | true => exact isTrue_and_nil e
  | false => exact e
theorem denW_or1 {a : Expr} {f : EvB} {pos : Pos} (ha : DenT X C a f) : DenW X C (.BoolOp .Or [a] pos) f := by
  refine ⟨fun wh pins s g H Hf d t F b d' I S q => ?_⟩
  refine isTrue_or (thn (ha.run pins s g H Hf d t F b d' I S q) fun c s1 e => ?_)
  cases c with
  | false => exact isTrue_or_nil e
  | true => exact e
theorem denW_and {a b : Expr} {rest : List Expr} {f k : EvB} {pos : Pos} (ha : DenT X C a f) (hb : DenW X C (.BoolOp .And (b :: rest) pos) k) : DenW X C (.BoolOp .And (a :: b :: rest) pos) (tbAnd f k) := by
  refine ⟨fun wh pins s g H Hf d t F z d' I S q => ?_⟩
  obtain ⟨⟨c, d1⟩, q1, q2⟩ := Option.bind_eq_some_iff.mp q
  refine isTrue_and (thn (ha.run pins s g H Hf d t F c d1 I S q1) fun y s1 ⟨e, H1, Hf1, F1, I1, S1, g1⟩ => ?_)
  subst e
  cases y with
  | true => exact thn (hb.run wh pins s1 g H1 Hf1 d1 t F1 z d' I1 S1 q2) fun u s' k => k.after g1
  | false =>
    cases q2
    exact ⟨rfl, H1, Hf1, F1, I1, S1, g1⟩
theorem denW_or {a b : Expr} {rest : List Expr} {f k : EvB} {pos : Pos} (ha : DenT X C a f) (hb : DenW X C (.BoolOp .Or (b :: rest) pos) k) : DenW X C (.BoolOp .Or (a :: b :: rest) pos) (tbOr f k) := by
  refine ⟨fun wh pins s g H Hf d t F z d' I S q => ?_⟩
  obtain ⟨⟨c, d1⟩, q1, q2⟩ := Option.bind_eq_some_iff.mp q
  refine isTrue_or (thn (ha.run pins s g H Hf d t F c d1 I S q1) fun y s1 ⟨e, H1, Hf1, F1, I1, S1, g1⟩ => ?_)
  subst e
  cases y with
  | false => exact thn (hb.run wh pins s1 g H1 Hf1 d1 t F1 z d' I1 S1 q2) fun u s' k => k.after g1
  | true =>
    cases q2
    exact ⟨rfl, H1, Hf1, F1, I1, S1, g1⟩
theorem denT_not {a : Expr} {f : EvB} {pos : Pos} (ha : DenT X C a f) : DenT X C (.UnaryOp .Not a pos) (tbNot f) := by
  refine ⟨fun pins s g H Hf d t F b d' I S q => ?_⟩
  obtain ⟨⟨c, d1⟩, q1, q2⟩ := Option.bind_eq_some_iff.mp q
  cases q2
  refine isTrue_not (thn (ha.run pins s g H Hf d t F c d1 I S q1) fun y s1 ⟨e, z⟩ => ?_)
  subst e
  exact ⟨rfl, z⟩

/-! ### chains: a op b op' c, b an int or a text -/
def D.flatB : D → Bool
  | .int _ => true
  | .str _ => true
  | _ => false
def chainGo (r : D → D → Option O) : List D → Option (Bool × D)
  | [a, b] => if b.flatB = true then (r a b).bind fun o => match o with
    | .val (.bl k) => some (k, b)
    | _ => none
    else none
  | _ => none
def evChain (pa pb pc : Opn) (r r' : D → D → Option O) : Ev := fun d => (goL [pa, pb] d).bind fun a => (lookL [pa, pb] a.2 a.1).bind fun os => (O.shs os).bind fun xs => (chainGo r xs).bind fun k =>
  if k.1 = true then (goL [pc] a.2).bind fun a2 => (lookL [pc] a2.2 a2.1).bind fun os2 => (O.shs os2).bind fun ys => (r1 (fun y => r' k.2 y) ys).bind fun o => some (o, a2.2) else some (.val (.bl false), a.2)
theorem chainGo_inv {r : D → D → Option O} {xs : List D} {k : Bool} {b : D} (h : chainGo r xs = some (k, b)) : ∃ a, xs = [a, b] ∧ b.flatB = true ∧ r a b = some (.val (.bl k)) := by
  unfold chainGo at h
  split at h
  · rename_i a b'
    split at h
    · rename_i hb
      obtain ⟨o, h1, h2⟩ := Option.bind_eq_some_iff.mp h
      split at h2
      · cases h2
        exact ⟨a, rfl, hb, h1⟩
      · cases h2
    · cases h
  · cases h
theorem flat_rs {K : PySem.W.Frag} {w : World} {H Hf H' Hf' : Hp} : ∀ {b : D} {x : V}, b.flatB = true → Rs K w C H Hf b x → Rs K w C H' Hf' b x
  | .int _, _, _, h => h
  | .str _, _, _, h => h
/-- the middle of a chain: the first two are compared; then either it is decided, or the third is asked -/
theorem chain_mid {pins : List (Addr × Obj)} {s : Shared} {g : L2.St} {H Hf : Hp} {F : Fps} {t : Tmp} {ps : List Opn} {ta os : List O} {a b : D} {k : Bool} {d1 : PEnv} {v u : Value} {m : Value → Value → Sem Value} {r : D → D → Option O} (hm : Op2 X C m r)
    (h : PostA X C pins g H Hf F t ps ta d1 [v, u] s) (hl : lookL ps d1 ta = some os) (hx : O.shs os = some [a, b]) (hb : b.flatB = true) (hr : r a b = some (.val (.bl k))) :
    wpAny (model X.prog X.w) X.A (m v u) (fun c s' => c = .bool k ∧ ∃ y H' Hf' F', Inv X pins g H' s' ∧ RelV y u ∧ (∀ G G', Rs X.K X.w C G G' b y) ∧ ST X.K X.w C H' Hf' d1 g t F' ∧ Go H Hf F H' Hf' F') X.xe s := by
  obtain ⟨vs, H2, Hf2, F2, tv, I2, rv, S2, g2, _, _, _, an⟩ := h
  obtain ⟨x, _, e1, k1, y, _, e2, k2, e3⟩ := OrA.shs S2.le hx (an os hl)
  subst e3 e2 e1
  obtain ⟨F3, S3, g3⟩ := ST.popAll _ S2
  cases rv with
  | cons q1 q2 =>
    cases q2 with
    | cons q2 q3 =>
      refine thn (hm pins s g H2 Hf2 x y v u a b _ I2 S2.le q1 q2 k1 k2 hr) fun c s' ⟨z, H', Hf', f, I', r', al, ro⟩ => ?_
      obtain ⟨S4, g4⟩ := S3.push al.lH al.lF al.nw al.l' al.fr al.nd al.fz ro
      obtain ⟨S5, g5⟩ := S4.pop
      obtain ⟨ez, er⟩ := ro
      have er' : z = .bl k := er
      subst er'
      exact ⟨r', y, H', Hf', _, I', q2, fun G G' => flat_rs hb k2, S5, (((g2.trans g3).trans g4).trans g5)⟩
theorem chain_end {pins : List (Addr × Obj)} {s : Shared} {g : L2.St} {H Hf : Hp} {F : Fps} {t : Tmp} {p : Opn} {ta os : List O} {ys : List D} {b : D} {y : V} {d1 : PEnv} {v u : Value} {o : O} {m : Value → Value → Sem Value} {r : D → D → Option O} (hm : Op2 X C m r)
    (h : PostA X C pins g H Hf F t [p] ta d1 [u] s) (hl : lookL [p] d1 ta = some os) (hx : O.shs os = some ys) (ry : RelV y v) (hb : ∀ G G', Rs X.K X.w C G G' b y) (hr : r1 (fun z => r b z) ys = some o) :
    wpAny (model X.prog X.w) X.A (m v u) (Post X C pins g H Hf F t o d1) X.xe s := by
  refine fin_op h hl hx fun vs H2 Hf2 I2 l2 rv ra => ?_
  match ys, hr, ra with
  | [c], hr, ⟨x, _, e1, k1, e3⟩ =>
    subst e3 e1
    cases rv with
    | cons q1 q2 => exact hm pins s g H2 Hf2 y x v u b c o I2 l2 ry q1 (hb _ _) k1 hr
theorem den_chain {op op' : CmpOp} {r r' : D → D → Option O} {ea eb ec : Expr} {pa pb pc : Opn} {pos : Pos} (ho : Op2 X C (compareOp op) r) (ho' : Op2 X C (compareOp op') r') (ha : DenP X C ea pa) (hb : DenP X C eb pb) (hc : DenP X C ec pc)
    (hm : lastMarks [op, op'] [eb, ec] = false) : Den X C (.Compare ea [op, op'] [eb, ec] pos) (evChain pa pb pc r r') := by
  refine ⟨fun pins s g H Hf d t F o d' I S q => ?_⟩
  obtain ⟨⟨ta, d1⟩, h1, q⟩ := Option.bind_eq_some_iff.mp q
  obtain ⟨os, h2, q⟩ := Option.bind_eq_some_iff.mp q
  obtain ⟨xs, h3, q⟩ := Option.bind_eq_some_iff.mp q
  obtain ⟨⟨k, b⟩, h4, q⟩ := Option.bind_eq_some_iff.mp q
  obtain ⟨a, e1, hfl, hr⟩ := chainGo_inv h4
  subst e1
  refine Compare_chain (thn (two ha hb I S h1) fun v s1 k1 => chain_link (thn k1 fun u s2 k2 => thn (chain_mid ho k2 h2 h3 hfl hr) fun c s3 ⟨ec, y, H3, Hf3, F3, I3, ry, hy, S3, g3⟩ => ?_)) hm
  subst ec
  refine wpAny_truthy_bool ?_
  cases k with
  | false =>
    cases q
    exact ite_ff (Post.ofC I3 S3 g3 (show RelV (.bl false) _ from rfl) rfl)
  | true =>
    obtain ⟨⟨tc, d3⟩, h5, q⟩ := Option.bind_eq_some_iff.mp q
    obtain ⟨os2, h6, q⟩ := Option.bind_eq_some_iff.mp q
    obtain ⟨ys, h7, q⟩ := Option.bind_eq_some_iff.mp q
    obtain ⟨o2, h8, q⟩ := Option.bind_eq_some_iff.mp q
    cases q
    exact ite_tt (chain_last (thn (one hc I3 S3 h5) fun w' s4 k4 => thn (chain_end ho' k4 h6 h7 ry hy h8) fun c s5 z => z.after g3))
theorem denT_chain {op op' : CmpOp} {r r' : D → D → Option O} {ea eb ec : Expr} {pa pb pc : Opn} {pos : Pos} (ho : Op2 X C (compareOp op) r) (ho' : Op2 X C (compareOp op') r') (ha : DenP X C ea pa) (hb : DenP X C eb pb) (hc : DenP X C ec pc)
    (hm : lastMarks [op, op'] [eb, ec] = false) : DenT X C (.Compare ea [op, op'] [eb, ec] pos) (evB (evChain pa pb pc r r')) := by
  refine ⟨fun pins s g H Hf d t F o d' I S q => ?_⟩
  have q := evB_inv q
  obtain ⟨⟨ta, d1⟩, h1, q⟩ := Option.bind_eq_some_iff.mp q
  obtain ⟨os, h2, q⟩ := Option.bind_eq_some_iff.mp q
  obtain ⟨xs, h3, q⟩ := Option.bind_eq_some_iff.mp q
  obtain ⟨⟨k, b⟩, h4, q⟩ := Option.bind_eq_some_iff.mp q
  obtain ⟨a, e1, hfl, hr⟩ := chainGo_inv h4
  subst e1
  refine isTrue_chain (thn (two ha hb I S h1) fun v s1 k1 => test_link (thn k1 fun u s2 k2 => thn (chain_mid ho k2 h2 h3 hfl hr) fun c s3 ⟨ec, y, H3, Hf3, F3, I3, ry, hy, S3, g3⟩ => ?_)) hm
  subst ec
  refine wpAny_truthy_bool ?_
  cases k with
  | false =>
    cases q
    exact ite_ff ⟨rfl, H3, Hf3, F3, I3, S3, g3⟩
  | true =>
    obtain ⟨⟨tc, d3⟩, h5, q⟩ := Option.bind_eq_some_iff.mp q
    obtain ⟨os2, h6, q⟩ := Option.bind_eq_some_iff.mp q
    obtain ⟨ys, h7, q⟩ := Option.bind_eq_some_iff.mp q
    obtain ⟨o2, h8, q⟩ := Option.bind_eq_some_iff.mp q
    cases q
    refine ite_tt (test_last (thn (one hc I3 S3 h5) fun w' s4 k4 => thn (chain_end ho' k4 h6 h7 ry hy h8) fun c s5 z => ?_))
    obtain ⟨e9, z9⟩ := Post.bool (z.after g3)
    subst e9
    exact wpAny_truthy_bool ⟨rfl, z9⟩
end
end Pd
/-! Pd9: items, slices, signs, tuples and lists written out. -/
namespace Pd
open PySem L2 PyProof.Rows
section
variable {X : Cx} {C : Str → Option Addr}

/-! ### items -/
def ixL (a b : D) : Option O := a.asLst.bind fun xs => b.asInt.bind fun i => (atI xs i).map O.val
def ixT (a b : D) : Option O := a.asTup.bind fun xs => b.asInt.bind fun i => (atI xs i).map O.val
def D.asScr : D → Option (List Int)
  | .scr i => some i
  | _ => none
theorem asScr_eq : ∀ {d : D} {i : List Int}, d.asScr = some i → d = .scr i
  | .scr _, _, h => by cases h; rfl
def ixC (a b : D) : Option O := a.asScr.bind fun xs => b.asInt.bind fun i => (atI xs i).map fun n => O.val (.int n)
def ixS (a b : D) : Option O := a.asStr.bind fun z => b.asInt.bind fun i => if z.length ≤ 100000 then (atI z.cps.toList i).map fun c => O.val (.str ⟨#[c]⟩) else none
theorem rpL_at {K : PySem.W.Frag} {w : World} {H : Hp} {ds : List D} {vs : List V} {i : Int} {d : D} (r : RpL K w C H ds vs) (h : atI ds i = some d) : ∃ v, atI vs i = some v ∧ Rp K w C H d v := by
  obtain ⟨j, h1, h2⟩ := Option.bind_eq_some_iff.mp h
  obtain ⟨v, e, rv⟩ := r.get h2
  refine ⟨v, ?_, rv⟩
  unfold atI
  rw [r.length, h1]
  exact e
/-- a subscript by values -/
def OpIx (X : Cx) (C : Str → Option Addr) (r : D → D → Option O) : Prop :=
  ∀ (value slice : Expr) (pins : List (Addr × Obj)) (s : Shared) (g : L2.St) (H Hf : Hp) (x y : V) (v u : Value) (a b : D) (o : O), Inv X pins g H s → Le Hf H → RelV x v → RelV y u → Rs X.K X.w C H Hf a x → Rs X.K X.w C H Hf b y → r a b = some o →
    subscripted slice false v u = operate [v, u] (getItem v u) → wpAny (model X.prog X.w) X.A (subscriptTail value slice v u) (PO X C pins g H Hf o) X.xe s
theorem OpIx.alt {r q : D → D → Option O} (h : OpIx X C r) (h' : OpIx X C q) : OpIx X C (Pd.alt r q) := by
  intro value slice pins s g H Hf x y v u a b o I l rx ry ra rb e hs
  rcases alt_inv e with e | e
  · exact h value slice pins s g H Hf x y v u a b o I l rx ry ra rb e hs
  · exact h' value slice pins s g H Hf x y v u a b o I l rx ry ra rb e hs
theorem opIx_L : OpIx X C ixL := by
  intro value slice pins s g H Hf x y v u a b o I l rx ry ra rb q hs
  obtain ⟨xs, h1, q0⟩ := Option.bind_eq_some_iff.mp q
  obtain ⟨i, h2, q1⟩ := Option.bind_eq_some_iff.mp q0
  obtain ⟨d, h3, q2⟩ := Option.map_eq_some_iff.mp q1
  have z1 := asLst_eq h1
  have z2 := asInt_eq h2
  subst z1 z2 q2
  obtain ⟨p, vs, e1, hh, rs⟩ := ra
  have ey : y = .int i := rb
  obtain ⟨z, hz, rz⟩ := rpL_at rs h3
  refine thn (ix_list value slice pins s g H x y v u (fun z' H' => z' = z ∧ H' = H) I rx ry ⟨p, vs, i, z, e1, ey, SqL.of hh, hz, rfl, rfl⟩ hs) fun c s' ⟨z', H', I', rz', e2, e3⟩ => ?_
  subst e2 e3
  exact PO.flat I' l rz' rz
theorem opIx_T : OpIx X C ixT := by
  intro value slice pins s g H Hf x y v u a b o I l rx ry ra rb q hs
  obtain ⟨xs, h1, q0⟩ := Option.bind_eq_some_iff.mp q
  obtain ⟨i, h2, q1⟩ := Option.bind_eq_some_iff.mp q0
  obtain ⟨d, h3, q2⟩ := Option.map_eq_some_iff.mp q1
  have z1 := asTup_eq h1
  have z2 := asInt_eq h2
  subst z1 z2 q2
  obtain ⟨p, vs, e1, hh, rs⟩ := ra
  have ey : y = .int i := rb
  obtain ⟨z, hz, rz⟩ := rpL_at rs h3
  refine thn (ix_tup value slice pins s g H x y v u (fun z' H' => z' = z ∧ H' = H) I rx ry ⟨p, vs, i, z, e1, ey, l.sqT hh, hz, rfl, rfl⟩ hs) fun c s' ⟨z', H', I', rz', e2, e3⟩ => ?_
  subst e2 e3
  exact PO.flat I' l rz' rz
theorem atI_map {α β : Type} (f : α → β) (xs : List α) (i : Int) : atI (xs.map f) i = (atI xs i).map f := by
  unfold atI
  rw [List.length_map]
  cases ixN xs.length i with
  | none => rfl
  | some j => simp
theorem opIx_C : OpIx X C ixC := by
  intro value slice pins s g H Hf x y v u a b o I l rx ry ra rb q hs
  obtain ⟨xs, h1, q0⟩ := Option.bind_eq_some_iff.mp q
  obtain ⟨i, h2, q1⟩ := Option.bind_eq_some_iff.mp q0
  obtain ⟨d, h3, q2⟩ := Option.map_eq_some_iff.mp q1
  have z1 := asScr_eq h1
  have z2 := asInt_eq h2
  subst z1 z2 q2
  obtain ⟨p, e1, hh⟩ := ra
  have ey : y = .int i := rb
  refine thn (ix_list value slice pins s g H x y v u (fun z' H' => z' = .int d ∧ H' = H) I rx ry ⟨p, _, i, .int d, e1, ey, hh, by rw [atI_map, h3]; rfl, rfl, rfl⟩ hs) fun c s' ⟨z', H', I', rz', e2, e3⟩ => ?_
  subst e2 e3
  exact PO.flat I' l rz' rfl
theorem opIx_S : OpIx X C ixS := by
  intro value slice pins s g H Hf x y v u a b o I l rx ry ra rb q hs
  obtain ⟨xs, h1, q0⟩ := Option.bind_eq_some_iff.mp q
  obtain ⟨i, h2, q1⟩ := Option.bind_eq_some_iff.mp q0
  split at q1
  · rename_i hz
    obtain ⟨c, h3, q2⟩ := Option.map_eq_some_iff.mp q1
    have z1 := asStr_eq h1
    have z2 := asInt_eq h2
    subst z1 z2 q2
    have ex : x = .str xs := ra
    have ey : y = .int i := rb
    refine thn (ix_str value slice pins s g H x y v u (fun z' H' => z' = .str ⟨#[c]⟩ ∧ H' = H) I rx ry ⟨xs, i, c, ex, ey, sz5 hz, h3, rfl, rfl⟩ hs) fun c s' ⟨z', H', I', rz', e2, e3⟩ => ?_
    subst e2 e3
    exact PO.flat I' l rz' rfl
  · cases q1
theorem den_ix {r : D → D → Option O} {ea eb : Expr} {pa pb : Opn} {pos : Pos} (ho : OpIx X C r) (ha : DenP X C ea pa) (hb : DenP X C eb pb) (hs : PlainIx eb) : Den X C (.Subscript ea eb pos) (evN [pa, pb] (r2 r)) := by
  refine ⟨fun pins s g H Hf d t F o d' I S q => ?_⟩
  obtain ⟨ta, os, xs, h1, h2, h3, h4⟩ := evN_inv q
  refine Subscript_ (thn (two ha hb I S h1) fun v s1 k1 => thn k1 fun u s2 k2 => fin_op k2 h2 h3 fun vs H2 Hf2 I2 l2 rv ra => ?_)
  match xs, h4, ra with
  | [a, b], h4, ⟨x, _, e1, k1, y, _, e2, k2, e3⟩ =>
    subst e3 e2 e1
    cases rv with
    | cons q1 q2 =>
      cases q2 with
      | cons q2 q3 => exact ho ea eb pins s2 g H2 Hf2 x y v u a b o I2 l2 q1 q2 k1 k2 h4 (hs _ _)

/-! ### slices -/
def cutA {α : Type} (xs : List α) (lo hi : Option Int) : List α := (xs.drop (HT.sIx xs.length 0 lo)).take (HT.sIx xs.length xs.length hi - HT.sIx xs.length 0 lo)
def sliceD (x : D) (lo hi : Option Int) : Option O := match x with
  | .lst xs => some (O.ofL (cutA xs lo hi))
  | .tup xs => some (.val (.tup (cutA xs lo hi)))
  | .str z => if z.length ≤ 100000 then some (.val (.str (cutS z lo hi))) else none
  | _ => none
theorem rpL_cut {K : PySem.W.Frag} {w : World} {H : Hp} {ds : List D} {vs : List V} (lo hi : Option Int) (r : RpL K w C H ds vs) : RpL K w C H (cutA ds lo hi) (cutV vs lo hi) := by
  unfold cutA cutV
  rw [r.length]
  exact (r.drop _).take _
/-- a slice by values -/
theorem slice_ok {pins : List (Addr × Obj)} {s : Shared} {g : L2.St} {H Hf : Hp} {x : V} {v vl vu : Value} {a : D} {lo hi : Option Int} {sl : Addr} {o : O} (I : Inv X pins g H s) (l : Le Hf H) (rx : RelV x v) (hs : s.heap.IsSliceOf sl vl vu .none) (pl : IsPart vl lo) (pu : IsPart vu hi)
    (ra : Rs X.K X.w C H Hf a x) (q : sliceD a lo hi = some o) : ∃ T id, typeLookup (.type T) "__getitem__" = pure (some (.builtin id)) ∧ s.TypeIs v T ∧ wpAny (model X.prog X.w) X.A (getItem v (.ref sl)) (PO X C pins g H Hf o) X.xe s := by
  unfold sliceD at q
  split at q
  · rename_i xs
    cases q
    obtain ⟨p, vs, e1, hh, rs⟩ := ra
    obtain ⟨T, id, h1, h2, h3⟩ := sl_list pins s g H x v vl vu lo hi sl (fun z H' => ∃ p, z = .ref p ∧ H p = none ∧ H' = upd H p (.lst (cutV vs lo hi))) I rx hs pl pu ⟨p, vs, e1, SqL.of hh, fun p hp => ⟨p, rfl, hp, rfl⟩⟩
    refine ⟨T, id, h1, h2, thn h3 fun c s' ⟨z, H', I', rz, p, e3, hp, e4⟩ => ?_⟩
    subst e3 e4
    exact PO.newL l hp I' rz (rpL_cut lo hi rs)
  · rename_i xs
    cases q
    have ra0 : Rp X.K X.w C Hf (.tup xs) x := ra
    obtain ⟨p, vs, e1, hh, rs⟩ := ra
    obtain ⟨T, id, h1, h2, h3⟩ := sl_tupA pins s g H x v vl vu lo hi sl (fun z H' => (z = .ref p ∧ H' = H ∧ cutV vs lo hi = vs) ∨ ∃ p, z = .ref p ∧ H p = none ∧ H' = upd H p (.tup (cutV vs lo hi))) I rx hs pl pu
      ⟨p, vs, e1, l.sqT hh, fun h => .inl ⟨rfl, rfl, by unfold cutV; rw [h.1, h.2]; simp⟩, fun _ p hp => .inr ⟨p, rfl, hp, rfl⟩⟩
    refine ⟨T, id, h1, h2, thn h3 fun c s' ⟨z, H', I', rz, k⟩ => ?_⟩
    rcases k with ⟨e3, e4, e5⟩ | ⟨p', e3, hp, e4⟩
    · subst e3 e4
      refine PO.flat I' l rz ?_
      have r2 := rpL_cut lo hi rs
      rw [e5] at r2
      exact ⟨p, vs, rfl, hh, r2⟩
    · subst e3 e4
      exact PO.newT l hp I' rz (rpL_cut lo hi rs)
  · rename_i z
    split at q
    · rename_i hz
      cases q
      have ex : x = .str z := ra
      obtain ⟨T, id, h1, h2, h3⟩ := sl_str pins s g H x v vl vu lo hi sl (fun z' H' => z' = .str (cutS z lo hi) ∧ H' = H) I rx hs pl pu ⟨z, ex, sz5 hz, rfl, rfl⟩
      refine ⟨T, id, h1, h2, thn h3 fun c s' ⟨z', H', I', rz, e3, e4⟩ => ?_⟩
      subst e3 e4
      exact PO.flat I' l rz rfl
    · cases q
  · cases q
def DenO (X : Cx) (C : Str → Option Addr) : Option Expr → Option Opn → Prop
  | none, none => True
  | some e, some p => DenP X C e p
  | _, _ => False
def rSlice : Bool → Bool → List D → Option O
  | false, false, [x] => sliceD x none none
  | true, false, [x, lo] => lo.asInt.bind fun i => sliceD x (some i) none
  | false, true, [x, hi] => hi.asInt.bind fun j => sliceD x none (some j)
  | true, true, [x, lo, hi] => lo.asInt.bind fun i => hi.asInt.bind fun j => sliceD x (some i) (some j)
  | _, _, _ => none
def optL : Option Opn → List Opn
  | none => []
  | some p => [p]
def evSlice (pv : Opn) (pl ph : Option Opn) : Ev := evN (pv :: (optL pl ++ optL ph)) (rSlice pl.isSome ph.isSome)
theorem slice_end {e : Expr} {lo hi : Option Expr} {p2 : Pos} {pins : List (Addr × Obj)} {s : Shared} {g : L2.St} {H Hf : Hp} {x : V} {v vl vu : Value} {a : D} {l u : Option Int} {o : O} (I : Inv X pins g H s) (le : Le Hf H) (rx : RelV x v) (pl : IsPart vl l) (pu : IsPart vu u)
    (ra : Rs X.K X.w C H Hf a x) (q : sliceD a l u = some o) : wpAny (model X.prog X.w) X.A (subscriptTail e (.Slice lo hi none p2) v (.ref s.heap.objs.size)) (PO X C pins g H Hf o) X.xe { s with heap := s.heap.push { cls := .type "slice", data := .fields #[vl, vu, .none] } } := by
  have I4 : Inv X pins g H { s with heap := s.heap.push { cls := .type "slice", data := .fields #[vl, vu, .none] } } := I.kept (t' := s.toks) fun b ob q => Heap.get?_push_of_some _ q
  obtain ⟨T, id, hT, ht, hg⟩ := slice_ok I4 le rx (Heap.IsSliceOf.new ..) pl pu ra q
  exact tail_any (ops := [.ref s.heap.objs.size, v]) ht hT hg (by with_unfolding_all rfl)
theorem rs_int {K : PySem.W.Frag} {w : World} {H Hf : Hp} {i : Int} {y : V} {u : Value} (r : RelV y u) (h : Rs K w C H Hf (.int i) y) : IsPart u (some i) := by
  have e : y = .int i := h
  subst e
  obtain ⟨t, e⟩ := r
  rw [e]
  exact .int i t
theorem fin_op' {pins : List (Addr × Obj)} {s s' : Shared} {g : L2.St} {H Hf : Hp} {F : Fps} {t : Tmp} {ps : List Opn} {ta os : List O} {xs : List D} {d' : PEnv} {us : List Value} {o : O} {m : Sem Value} (h : PostA X C pins g H Hf F t ps ta d' us s)
    (hl : lookL ps d' ta = some os) (hx : O.shs os = some xs)
    (k : ∀ vs H2 Hf2, Inv X pins g H2 s → Le Hf2 H2 → Vals vs us → RsA X.K X.w C H2 Hf2 xs vs → wpAny (model X.prog X.w) X.A m (PO X C pins g H2 Hf2 o) X.xe s') :
    wpAny (model X.prog X.w) X.A m (Post X C pins g H Hf F t o d') X.xe s' := by
  obtain ⟨vs, H2, Hf2, F2, tv, I2, r2, S2, g2, _, _, _, an⟩ := h
  have ra := OrA.shs S2.le hx (an os hl)
  obtain ⟨F3, S3, g3⟩ := ST.popAll _ S2
  refine thn (k vs H2 Hf2 I2 S2.le r2 ra) fun u s' ⟨v, H', Hf', f, I', r, al, ro⟩ => ?_
  obtain ⟨S4, g4⟩ := S3.push al.lH al.lF al.nw al.l' al.fr al.nd al.fz ro
  exact ⟨v, H', Hf', _, I', r, S4, (g2.trans g3).trans g4⟩
theorem den_slice {e : Expr} {lo hi : Option Expr} {p2 pos : Pos} {pv : Opn} {pl ph : Option Opn} (he : DenP X C e pv) (hl : DenO X C lo pl) (hh : DenO X C hi ph) : Den X C (.Subscript e (.Slice lo hi none p2) pos) (evSlice pv pl ph) := by
  refine ⟨fun pins s g H Hf d t F o d' I S q => ?_⟩
  obtain ⟨ta, os, xs, h1, h2, h3, h4⟩ := evN_inv q
  match lo, pl, hl, hi, ph, hh with
  | none, none, _, none, none, _ =>
    refine Subscript_ (thn (one he I S h1) fun v s1 k1 => wpAny_Slice ?_)
    rw [evalPart_none]
    refine wpAny_pure (wpAny_pure (wpAny_pure ?_))
    refine (fin_op' k1 h2 h3 fun vs H2 Hf2 I2 l2 rv ra => ?_)
    match xs, h4, ra with
    | [a], h4, ⟨x, _, e1, k1, e3⟩ =>
      subst e3 e1
      cases rv with
      | cons q1 q2 => exact slice_end I2 l2 q1 .none .none k1 h4
  | some lo, some pl, hl, none, none, _ =>
    refine Subscript_ (thn (two he hl I S h1) fun v s1 k1 => wpAny_Slice ?_)
    rw [evalPart_some]
    refine thn k1 fun ul s2 k2 => ?_
    rw [evalPart_none]
    refine wpAny_pure (wpAny_pure ?_)
    refine (fin_op' k2 h2 h3 fun vs H2 Hf2 I2 l2 rv ra => ?_)
    match xs, h4, ra with
    | [a, b], h4, ⟨x, _, e1, k1, y, _, e2, k2, e3⟩ =>
      obtain ⟨i, hi, h4⟩ := Option.bind_eq_some_iff.mp h4
      have z := asInt_eq hi
      subst z e3 e2 e1
      cases rv with
      | cons q1 q2 =>
        cases q2 with
        | cons q2 q3 => exact slice_end I2 l2 q1 (rs_int q2 k2) .none k1 h4
  | none, none, _, some hi, some ph, hh =>
    refine Subscript_ (thn (two he hh I S h1) fun v s1 k1 => wpAny_Slice ?_)
    rw [evalPart_none]
    refine wpAny_pure ?_
    rw [evalPart_some]
    refine thn k1 fun ul s2 k2 => ?_
    refine wpAny_pure (fin_op' k2 h2 h3 fun vs H2 Hf2 I2 l2 rv ra => ?_)
    match xs, h4, ra with
    | [a, b], h4, ⟨x, _, e1, k1, y, _, e2, k2, e3⟩ =>
      obtain ⟨i, hi, h4⟩ := Option.bind_eq_some_iff.mp h4
      have z := asInt_eq hi
      subst z e3 e2 e1
      cases rv with
      | cons q1 q2 =>
        cases q2 with
        | cons q2 q3 => exact slice_end I2 l2 q1 .none (rs_int q2 k2) k1 h4
  | some lo, some pl, hl, some hi, some ph, hh =>
    obtain ⟨⟨t1, d1⟩, q1, h1⟩ := Option.bind_eq_some_iff.mp h1
    obtain ⟨⟨t2, d2⟩, q2, h1⟩ := Option.bind_eq_some_iff.mp h1
    cases h1
    refine Subscript_ (thn (he.run pins s g H Hf d t F t1 d1 I S q1) fun v s1 ⟨x, H1, Hf1, F1, I1, r1, S1, g1, sl1⟩ => wpAny_Slice ?_)
    rw [evalPart_some]
    refine thn (two hl hh I1 S1 q2) fun ul s2 k1 => ?_
    rw [evalPart_some]
    refine thn k1 fun uh s3 k2 => ?_
    rw [evalPart_none]
    refine wpAny_pure (fin_op' (postA_cons q1 r1 S1 g1 sl1 k2) h2 h3 fun vs H2 Hf2 I2 l2 rv ra => ?_)
    match xs, h4, ra with
    | [a, b, c], h4, ⟨x, _, e1, k1, y, _, e2, k2, z, _, e3, k3, e4⟩ =>
      obtain ⟨i, hi, h4⟩ := Option.bind_eq_some_iff.mp h4
      obtain ⟨j, hj, h4⟩ := Option.bind_eq_some_iff.mp h4
      have z1 := asInt_eq hi
      have z2 := asInt_eq hj
      subst z1 z2 e4 e3 e2 e1
      cases rv with
      | cons q1 q2 =>
        cases q2 with
        | cons q2 q3 =>
          cases q3 with
          | cons q3 q4 => exact slice_end I2 l2 q1 (rs_int q2 k2) (rs_int q3 k3) k1 h4

/-! ### signs -/
def rNeg (a : D) : Option O := a.asInt.map fun i => .val (.int (-i))
theorem den_neg {e : Expr} {p : Opn} {pos : Pos} (he : DenP X C e p) : Den X C (.UnaryOp .USub e pos) (evN [p] (r1 rNeg)) := by
  refine ⟨fun pins s g H Hf d t F o d' I S q => ?_⟩
  obtain ⟨ta, os, xs, h1, h2, h3, h4⟩ := evN_inv q
  refine UnaryOp_ (thn (one he I S h1) fun v s1 k1 => fin_op k1 h2 h3 fun vs H2 Hf2 I2 l2 rv ra => ?_)
  match xs, h4, ra with
  | [a], h4, ⟨x, _, e1, k1, e3⟩ =>
    obtain ⟨i, h5, h6⟩ := Option.map_eq_some_iff.mp h4
    have z := asInt_eq h5
    subst z h6 e3 e1
    have ex : x = .int i := k1
    cases rv with
    | cons q1 q2 =>
      refine thn (un_neg pins s1 g H2 x v (fun z' H' => z' = .int (-i) ∧ H' = H2) I2 q1 ⟨i, ex, rfl, rfl⟩) fun c s' ⟨z', H', I', rz, e3, e4⟩ => ?_
      subst e3 e4
      exact PO.flat I' l2 rz rfl

/-! ### tuples and lists written out -/
def rTup (xs : List D) : Option O := if xs.length ≤ 100000 then some (.val (.tup xs)) else none
def rLst (xs : List D) : Option O := if xs.length ≤ 100000 then some (O.ofL xs) else none
theorem rsA_rpL {K : PySem.W.Frag} {w : World} {H : Hp} : ∀ {ds : List D} {vs : List V}, RsA K w C H H ds vs → RpL K w C H ds vs
  | [], _, h => h
  | d :: ds, _, ⟨v, us, e, r, rs⟩ => ⟨v, us, e, r.rp Le.rfl, rsA_rpL rs⟩
/-- operands that are no slots are frozen -/
def allEx : List Opn → Bool
  | [] => true
  | .ex _ :: r => allEx r
  | .slot _ :: _ => false
theorem look_ex : ∀ {ps : List Opn} {d d0 : PEnv} {ta os : List O}, allEx ps = true → goL ps d0 = some (ta, d) → lookL ps d ta = some os → os = ta
  | [], d, d0, ta, os, _, h1, h2 => by
    cases h1
    cases h2
    rfl
  | .ex f :: ps, d, d0, ta, os, h, h1, h2 => by
    obtain ⟨⟨t1, d1⟩, q1, h1⟩ := Option.bind_eq_some_iff.mp h1
    obtain ⟨⟨t2, d2⟩, q2, h1⟩ := Option.bind_eq_some_iff.mp h1
    cases h1
    obtain ⟨p, y1, y⟩ := Option.bind_eq_some_iff.mp q1
    cases y
    obtain ⟨⟨o, l⟩, e1, h2⟩ := Option.bind_eq_some_iff.mp h2
    obtain ⟨os', e2, h2⟩ := Option.bind_eq_some_iff.mp h2
    cases h2
    cases e1
    rw [look_ex (ps := ps) h q2 e2]
    rfl
theorem vals_go : ∀ {ps : List Opn} {d d0 : PEnv} {ta : List O}, allEx ps = true → goL ps d0 = some (ta, d) → ∃ ds : List D, ta = ds.map O.val
  | [], d, d0, ta, _, h1 => by
    cases h1
    exact ⟨[], rfl⟩
  | .ex f :: ps, d, d0, ta, h, h1 => by
    obtain ⟨⟨t1, d1⟩, q1, h1⟩ := Option.bind_eq_some_iff.mp h1
    obtain ⟨⟨t2, d2⟩, q2, h1⟩ := Option.bind_eq_some_iff.mp h1
    cases h1
    obtain ⟨p, y1, y⟩ := Option.bind_eq_some_iff.mp q1
    cases y
    obtain ⟨ds, e⟩ := vals_go (ps := ps) h q2
    exact ⟨p.1.d :: ds, by rw [e]; rfl⟩
theorem orA_vals {K : PySem.W.Frag} {w : World} {H Hf : Hp} : ∀ {ds : List D} {vs : List V}, OrA K w C H Hf (ds.map O.val) vs → RpL K w C Hf ds vs
  | [], _, h => h
  | d :: ds, _, ⟨v, us, e, ⟨f, _, r⟩, rs⟩ => ⟨v, us, e, r, orA_vals rs⟩
/-- operands that are values: frozen data, whatever the operation -/
def evV (ps : List Opn) (r : List D → Option O) : Ev := fun d => (goL ps d).bind fun a => (r (O.ds a.1)).bind fun o => some (o, a.2)
theorem ds_vals : ∀ ds : List D, O.ds (ds.map O.val) = ds
  | [] => rfl
  | d :: ds => by
    show d :: O.ds (ds.map O.val) = d :: ds
    rw [ds_vals ds]
theorem look_vals : ∀ {ps : List Opn} {d d0 : PEnv} {ta : List O}, allEx ps = true → goL ps d0 = some (ta, d) → lookL ps d ta = some ta
  | [], d, d0, ta, _, h1 => by
    cases h1
    rfl
  | .ex f :: ps, d, d0, ta, h, h1 => by
    obtain ⟨⟨t1, d1⟩, q1, h1⟩ := Option.bind_eq_some_iff.mp h1
    obtain ⟨⟨t2, d2⟩, q2, h1⟩ := Option.bind_eq_some_iff.mp h1
    cases h1
    obtain ⟨p, y1, y⟩ := Option.bind_eq_some_iff.mp q1
    cases y
    show (lookL ps d2 t2).bind (fun os => some (O.val p.1.d :: os)) = some (O.val p.1.d :: t2)
    rw [look_vals (ps := ps) h q2]
    rfl
/-- behind operands that are values: their data, the state without them -/
theorem drop_val {pins : List (Addr × Obj)} {s : Shared} {g : L2.St} {H Hf : Hp} {F : Fps} {t : Tmp} {ps : List Opn} {ta : List O} {d d' : PEnv} {us : List Value} (hp : allEx ps = true) (hg : goL ps d = some (ta, d')) (h : PostA X C pins g H Hf F t ps ta d' us s) :
    ∃ vs H2 Hf2 F2, Inv X pins g H2 s ∧ Vals vs us ∧ RpL X.K X.w C Hf2 (O.ds ta) vs ∧ ST X.K X.w C H2 Hf2 d' g t F2 ∧ Go H Hf F H2 Hf2 F2 := by
  obtain ⟨vs, H2, Hf2, F2, tv, I2, r2, S2, g2, _, _, _, an⟩ := h
  obtain ⟨ds, e⟩ := vals_go hp hg
  have ra := an ta (look_vals hp hg)
  rw [e] at ra
  have rp := orA_vals ra
  obtain ⟨F3, S3, g3⟩ := ST.popAll _ S2
  exact ⟨vs, H2, Hf2, F3, I2, r2, by rw [e, ds_vals]; exact rp, S3, g2.trans g3⟩
theorem Post.al {pins : List (Addr × Obj)} {s : Shared} {g : L2.St} {H Hf H2 Hf2 : Hp} {F F2 : Fps} {t : Tmp} {o : O} {d' : PEnv} {u : Value} (S : ST X.K X.w C H2 Hf2 d' g t F2) (g2 : Go H Hf F H2 Hf2 F2) (h : PO X C pins g H2 Hf2 o u s) : Post X C pins g H Hf F t o d' u s := by
  obtain ⟨v, H', Hf', f, I', r, al, ro⟩ := h
  obtain ⟨S4, g4⟩ := S.push al.lH al.lF al.nw al.l' al.fr al.nd al.fz ro
  exact ⟨v, H', Hf', _, I', r, S4, g2.trans g4⟩
theorem den_tup {es : List Expr} {ps : List Opn} {x1 : Nat} {pos : Pos} (hp : allEx ps = true) (h : DenA X C es ps) : Den X C (.Tuple es x1 pos) (evV ps rTup) := by
  refine ⟨fun pins s g H Hf d t F o d' I S q => ?_⟩
  obtain ⟨⟨ta, d1⟩, h1, q⟩ := Option.bind_eq_some_iff.mp q
  obtain ⟨o', h2, q⟩ := Option.bind_eq_some_iff.mp q
  cases q
  unfold rTup at h2
  split at h2
  · rename_i hl
    cases h2
    refine wpAny_Tuple_spliced (thn (h.run pos pins s g H Hf d t F ta d1 I S h1) fun us s1 k => ?_)
    obtain ⟨vs, H2, Hf2, F2, I2, rv, rp, S2, g2⟩ := drop_val hp h1 k
    have hz : vs.length ≤ sizeLine := sz5 (by rw [rp.length]; exact hl)
    have hf : H2 s1.heap.objs.size = none := I2.hok.fresh (Nat.le_refl _)
    refine ⟨by rw [← rv.length]; exact hz, Post.al S2 g2 (PO.newT S2.le hf (I2.laid (t' := s1.toks) (fun b u e => Heap.get?_push_of_some _ e) (Nat.le_refl _) ?_) rfl rp)⟩
    exact ⟨hz, us, rv, ⟨_, Heap.get?_push_size _ rfl, rfl, _, rfl⟩⟩
  · cases h2
theorem den_lst {es : List Expr} {ps : List Opn} {pos : Pos} (hp : allEx ps = true) (h : DenA X C es ps) : Den X C (.List es pos) (evV ps rLst) := by
  refine ⟨fun pins s g H Hf d t F o d' I S q => ?_⟩
  obtain ⟨⟨ta, d1⟩, h1, q⟩ := Option.bind_eq_some_iff.mp q
  obtain ⟨o', h2, q⟩ := Option.bind_eq_some_iff.mp q
  cases q
  unfold rLst at h2
  split at h2
  · rename_i hl
    cases h2
    refine wpAny_List_spliced (thn (h.run pos pins s g H Hf d t F ta d1 I S h1) fun us s1 k => ?_)
    obtain ⟨vs, H2, Hf2, F2, I2, rv, rp, S2, g2⟩ := drop_val hp h1 k
    have hz : vs.length ≤ sizeLine := sz5 (by rw [rp.length]; exact hl)
    have hf : H2 s1.heap.objs.size = none := I2.hok.fresh (Nat.le_refl _)
    refine ⟨by rw [← rv.length]; exact hz, Post.al S2 g2 (PO.newL S2.le hf (I2.laid (t' := s1.toks) (fun b u e => Heap.get?_push_of_some _ e) (Nat.le_refl _) ?_) rfl rp)⟩
    exact ⟨hz, us, 0, rv, Heap.get?_push_size _ rfl⟩
  · cases h2
end
end Pd
/-! Pd10: what is owned is changed. -/
namespace Pd
open PySem L2

/-- the items of a state: slots, then temporaries -/
def itm (d : PEnv) (g : St) (t : Tmp) (i : Nat) : Option (O × V) :=
  if i < d.length then (d.getD i none).bind fun o => (g.getD i none).map fun v => (o, v) else t[i - d.length]?
section
variable (K : PySem.W.Frag) (w : World) (C : Str → Option Addr)
structure SI (H Hf : Hp) (P : Nat → Option (O × V)) (F : Fps) : Prop where
  at_ : ∀ i o v, P i = some (o, v) → Or K w C H Hf o v (F i)
  emp : ∀ i, P i = none → F i = []
  nd : ∀ i, (F i).Nodup
  dj : ∀ i j a, i ≠ j → a ∈ F i → a ∉ F j
  fz : ∀ i a, a ∈ F i → Hf a = none
  le : Le Hf H
end
section
variable {K : PySem.W.Frag} {w : World} {C : Str → Option Addr} {H H' Hf Hf' : Hp} {d d' : PEnv} {g g' : St} {t t' : Tmp} {F : Fps} {P P' : Nat → Option (O × V)}
theorem getD_of {α : Type} {l : List (Option α)} {i : Nat} {o : α} (h : l[i]? = some (some o)) : l.getD i none = some o := by
  rw [List.getD_eq_getElem?_getD, h]; rfl
theorem getD_back {α : Type} {l : List (Option α)} {i : Nat} {o : α} (h : l.getD i none = some o) : l[i]? = some (some o) := by
  rw [List.getD_eq_getElem?_getD] at h
  cases e : l[i]? with
  | none => rw [e] at h; cases h
  | some x => rw [e] at h; exact congrArg some h
theorem getD_set_ne {α : Type} {l : List (Option α)} {i k : Nat} {x : Option α} (h : i ≠ k) : (l.set k x).getD i none = l.getD i none := by
  rw [List.getD_eq_getElem?_getD, List.getD_eq_getElem?_getD, List.getElem?_set_ne (Ne.symm h)]
theorem app_ne {α : Type} {l : List α} {x : α} {j : Nat} (h : j ≠ l.length) : (l ++ [x])[j]? = l[j]? := by
  rcases Nat.lt_or_ge j l.length with q | q
  · exact List.getElem?_append_left q
  · rw [List.getElem?_eq_none_iff.mpr (by simp; omega), List.getElem?_eq_none_iff.mpr q]
theorem app_at {α : Type} {l : List α} {x : α} {j : Nat} (h : j = l.length) : (l ++ [x])[j]? = some x := by
  subst h; simp
theorem ST.si (S : ST K w C H Hf d g t F) : SI K w C H Hf (itm d g t) F := by
  refine ⟨fun i o v e => ?_, fun i e => ?_, S.nd, S.dj, S.fz, S.le⟩
  · unfold itm at e
    by_cases hi : i < d.length
    · rw [if_pos hi] at e
      obtain ⟨o', e1, e⟩ := Option.bind_eq_some_iff.mp e
      obtain ⟨v', e2, e⟩ := Option.map_eq_some_iff.mp e
      cases e
      obtain ⟨v2, h1, h2⟩ := S.env i o (getD_back e1)
      rw [getD_back e2] at h1
      cases h1
      exact h2
    · rw [if_neg hi] at e
      have q := S.tmp _ o v e
      have z : d.length + (i - d.length) = i := by omega
      rw [z] at q
      exact q
  · refine S.emp i (fun o q => ?_) fun j q => ?_
    · obtain ⟨v, h1, h2⟩ := S.env i o q
      unfold itm at e
      rw [if_pos (List.getElem?_eq_some_iff.mp q).1, getD_of q, getD_of h1] at e
      cases e
    · unfold itm at e
      rw [if_neg (by omega), q] at e
      have z : d.length + j - d.length = j := by omega
      rw [z] at e
      exact List.getElem?_eq_none_iff.mp e
theorem SI.st (S : SI K w C H Hf P F) (hl : g.length = d.length) (he : ∀ (i : Nat) (o : O), d[i]? = some (some o) → ∃ v, g[i]? = some (some v)) (hp : ∀ i, P i = itm d g t i) : ST K w C H Hf d g t F := by
  refine ⟨hl, fun i o e => ?_, fun j o v e => ?_, fun i h1 h2 => ?_, S.nd, S.dj, S.fz, S.le⟩
  · obtain ⟨v, hv⟩ := he i o e
    refine ⟨v, hv, S.at_ i o v ?_⟩
    rw [hp]
    unfold itm
    rw [if_pos (List.getElem?_eq_some_iff.mp e).1, getD_of e, getD_of hv]
    rfl
  · refine S.at_ _ o v ?_
    rw [hp]
    unfold itm
    rw [if_neg (by omega)]
    have z : d.length + j - d.length = j := by omega
    rw [z]
    exact e
  · refine S.emp i ?_
    rw [hp]
    unfold itm
    by_cases hi : i < d.length
    · rw [if_pos hi]
      cases q : d.getD i none with
      | none => rfl
      | some o => exact absurd (getD_back q) (h1 o)
    · rw [if_neg hi]
      exact List.getElem?_eq_none_iff.mpr (h2 _ (by omega))
theorem SI.there (S : SI K w C H Hf P F) {i : Nat} {a : Addr} (h : a ∈ F i) : ∃ u, H a = some u := by
  cases e : P i with
  | none => rw [S.emp i e] at h; cases h
  | some p => exact Or.there p.1 p.2 _ (S.at_ i p.1 p.2 e) a h
/-- the k-th item is changed; it may take what the n-th owned, and new objects -/
theorem SI.mut (S : SI K w C H Hf P F) {k n : Nat} {o' : O} {v' : V} {f' : List Addr} (kp : ∀ a u, H a = some u → a ∉ F k → H' a = some u) (nd : f'.Nodup) (sub : ∀ a, a ∈ f' → a ∈ F k ∨ a ∈ F n ∨ H a = none) (r : Or K w C H' Hf o' v' f') :
    SI K w C H' Hf (fun i => if i = k then some (o', v') else if i = n then none else P i) (fun i => if i = k then f' else if i = n then [] else F i) ∧
      Go H Hf F H' Hf (fun i => if i = k then f' else if i = n then [] else F i) := by
  have old : ∀ i, i ≠ k → ∀ a, a ∈ F i → H' a = H a := fun i hi a ha => by
    obtain ⟨u, hu⟩ := S.there ha
    rw [hu]
    exact kp a u hu (S.dj i k a hi ha)
  refine ⟨⟨fun i o v e => ?_, fun i e => ?_, fun i => ?_, fun i j a hij ha hb => ?_, fun i a ha => ?_, fun a u e => ?_⟩, ⟨fun a u h n => kp a u h (n k), Le.rfl, fun _ _ h => .inl h, fun i a ha => ?_⟩⟩
  · try dsimp only at e ⊢
    by_cases h1 : i = k
    · rw [if_pos h1] at e ⊢
      cases e
      exact r
    · rw [if_neg h1] at e ⊢
      by_cases h2 : i = n
      · rw [if_pos h2] at e; cases e
      · rw [if_neg h2] at e ⊢
        exact Or.mono Le.rfl o v _ (old i h1) (S.at_ i o v e)
  · try dsimp only at e ⊢
    by_cases h1 : i = k
    · rw [if_pos h1] at e; cases e
    · rw [if_neg h1] at e ⊢
      by_cases h2 : i = n
      · rw [if_pos h2]
      · rw [if_neg h2] at e ⊢
        exact S.emp i e
  · try dsimp only
    split
    · exact nd
    · split
      · exact List.nodup_nil
      · exact S.nd i
  · try dsimp only at ha hb
    by_cases h1 : i = k
    · rw [if_pos h1] at ha
      rw [if_neg (fun e => hij (by rw [h1, e]))] at hb
      by_cases h2 : j = n
      · rw [if_pos h2] at hb; cases hb
      · rw [if_neg h2] at hb
        rcases sub a ha with z | z | z
        · exact S.dj k j a (fun e => hij (by rw [h1, e])) z hb
        · exact S.dj n j a (Ne.symm h2) z hb
        · obtain ⟨u, hu⟩ := S.there hb
          rw [z] at hu; cases hu
    · rw [if_neg h1] at ha
      by_cases h2 : i = n
      · rw [if_pos h2] at ha; cases ha
      · rw [if_neg h2] at ha
        by_cases h3 : j = k
        · rw [if_pos h3] at hb
          rcases sub a hb with z | z | z
          · exact S.dj i k a h1 ha z
          · exact S.dj i n a h2 ha z
          · obtain ⟨u, hu⟩ := S.there ha
            rw [z] at hu; cases hu
        · rw [if_neg h3] at hb
          by_cases h4 : j = n
          · rw [if_pos h4] at hb; cases hb
          · rw [if_neg h4] at hb
            exact S.dj i j a hij ha hb
  · try dsimp only at ha
    by_cases h1 : i = k
    · rw [if_pos h1] at ha
      rcases sub a ha with z | z | z
      · exact S.fz k a z
      · exact S.fz n a z
      · cases q : Hf a with
        | none => rfl
        | some u => rw [S.le a u q] at z; cases z
    · rw [if_neg h1] at ha
      split at ha
      · cases ha
      · exact S.fz i a ha
  · refine kp a u (S.le a u e) fun z => ?_
    rw [S.fz k a z] at e; cases e
  · try dsimp only at ha
    by_cases h1 : i = k
    · rw [if_pos h1] at ha
      rcases sub a ha with z | z | z
      · exact .inl ⟨k, z⟩
      · exact .inl ⟨n, z⟩
      · exact .inr z
    · rw [if_neg h1] at ha
      split at ha
      · cases ha
      · exact .inl ⟨i, ha⟩

/-- a slot is changed, taking the top value -/
theorem ST.mutSlot {o o' : O} {v v' : V} {x : O × V} {k : Nat} {f' : List Addr} (S : ST K w C H Hf d g (t ++ [x]) F) (hk : d[k]? = some (some o)) (hv : g[k]? = some (some v)) (kp : ∀ a u, H a = some u → a ∉ F k → H' a = some u) (nd : f'.Nodup)
    (sub : ∀ a, a ∈ f' → a ∈ F k ∨ a ∈ F (d.length + t.length) ∨ H a = none) (r : Or K w C H' Hf o' v f') : ∃ F', ST K w C H' Hf (d.set k (some o')) g t F' ∧ Go H Hf F H' Hf F' := by
  obtain ⟨S1, g1⟩ := S.si.mut (k := k) (n := d.length + t.length) kp nd sub r
  have hkl := (List.getElem?_eq_some_iff.mp hk).1
  refine ⟨_, S1.st (d := d.set k (some o')) (g := g) (t := t) (by rw [List.length_set]; exact S.len) (fun i q e => ?_) fun i => ?_, g1⟩
  · by_cases hi : i = k
    · rw [hi]; exact ⟨v, hv⟩
    · rw [List.getElem?_set_ne (Ne.symm hi)] at e
      obtain ⟨v2, h1, _⟩ := S.env i q e
      exact ⟨v2, h1⟩
  · try dsimp only
    unfold itm
    rw [List.length_set]
    by_cases hi : i = k
    · subst hi
      rw [if_pos rfl, if_pos hkl, getD_of (List.getElem?_set_self hkl), getD_of hv]
      rfl
    · rw [if_neg hi]
      by_cases h1 : i < d.length
      · rw [if_neg (by omega), if_pos h1, if_pos h1, getD_set_ne hi]
      · rw [if_neg h1]
        by_cases h2 : i = d.length + t.length
        · rw [if_pos h2, if_neg h1]
          have z : t[i - d.length]? = none := List.getElem?_eq_none_iff.mpr (by omega)
          exact z.symm
        · rw [if_neg h2, if_neg h1]
          exact app_ne (by omega)
/-- a slot is changed, taking the top value; its footprint -/
theorem ST.mutSlot' {o o' : O} {v : V} {x : O × V} {k : Nat} {f' : List Addr} (S : ST K w C H Hf d g (t ++ [x]) F) (hk : d[k]? = some (some o)) (hv : g[k]? = some (some v)) (kp : ∀ a u, H a = some u → a ∉ F k → H' a = some u) (nd : f'.Nodup)
    (sub : ∀ a, a ∈ f' → a ∈ F k ∨ a ∈ F (d.length + t.length) ∨ H a = none) (r : Or K w C H' Hf o' v f') : ∃ F', ST K w C H' Hf (d.set k (some o')) g t F' ∧ Go H Hf F H' Hf F' ∧ F' k = f' := by
  obtain ⟨S1, g1⟩ := S.si.mut (v' := v) (k := k) (n := d.length + t.length) kp nd sub r
  have hkl := (List.getElem?_eq_some_iff.mp hk).1
  refine ⟨_, S1.st (d := d.set k (some o')) (g := g) (t := t) (by rw [List.length_set]; exact S.len) (fun i q e => ?_) fun i => ?_, g1, if_pos rfl⟩
  · by_cases hi : i = k
    · rw [hi]; exact ⟨v, hv⟩
    · rw [List.getElem?_set_ne (Ne.symm hi)] at e
      obtain ⟨v2, h1, _⟩ := S.env i q e
      exact ⟨v2, h1⟩
  · try dsimp only
    unfold itm
    rw [List.length_set]
    by_cases hi : i = k
    · subst hi
      rw [if_pos rfl, if_pos hkl, getD_of (List.getElem?_set_self hkl), getD_of hv]
      rfl
    · rw [if_neg hi]
      by_cases h1 : i < d.length
      · rw [if_neg (by omega), if_pos h1, if_pos h1, getD_set_ne hi]
      · rw [if_neg h1]
        by_cases h2 : i = d.length + t.length
        · rw [if_pos h2, if_neg h1]
          have z : t[i - d.length]? = none := List.getElem?_eq_none_iff.mpr (by omega)
          exact z.symm
        · rw [if_neg h2, if_neg h1]
          exact app_ne (by omega)
/-- .. taking nothing -/
theorem ST.mutSlot0 {o o' : O} {v : V} {k : Nat} {f' : List Addr} (S : ST K w C H Hf d g t F) (hk : d[k]? = some (some o)) (hv : g[k]? = some (some v)) (kp : ∀ a u, H a = some u → a ∉ F k → H' a = some u) (nd : f'.Nodup)
    (sub : ∀ a, a ∈ f' → a ∈ F k ∨ H a = none) (r : Or K w C H' Hf o' v f') : ∃ F', ST K w C H' Hf (d.set k (some o')) g t F' ∧ Go H Hf F H' Hf F' := by
  obtain ⟨S1, g1⟩ := S.si.mut (k := k) (n := d.length + t.length) kp nd (fun a ha => (sub a ha).imp id .inr) r
  have hkl := (List.getElem?_eq_some_iff.mp hk).1
  refine ⟨_, S1.st (d := d.set k (some o')) (g := g) (t := t) (by rw [List.length_set]; exact S.len) (fun i q e => ?_) fun i => ?_, g1⟩
  · by_cases hi : i = k
    · rw [hi]; exact ⟨v, hv⟩
    · rw [List.getElem?_set_ne (Ne.symm hi)] at e
      obtain ⟨v2, h1, _⟩ := S.env i q e
      exact ⟨v2, h1⟩
  · try dsimp only
    unfold itm
    rw [List.length_set]
    by_cases hi : i = k
    · subst hi
      rw [if_pos rfl, if_pos hkl, getD_of (List.getElem?_set_self hkl), getD_of hv]
      rfl
    · rw [if_neg hi]
      by_cases h1 : i < d.length
      · rw [if_neg (by omega), if_pos h1, if_pos h1, getD_set_ne hi]
      · rw [if_neg h1]
        by_cases h2 : i = d.length + t.length
        · rw [if_pos h2, if_neg h1]
          have z : t[i - d.length]? = none := List.getElem?_eq_none_iff.mpr (by omega)
          exact z.symm
        · rw [if_neg h2, if_neg h1]
/-- the value below the top is changed, taking the top one -/
theorem ST.mutTop {o o' : O} {v : V} {x : O × V} {f' : List Addr} (S : ST K w C H Hf d g (t ++ [(o, v)] ++ [x]) F) (kp : ∀ a u, H a = some u → a ∉ F (d.length + t.length) → H' a = some u) (nd : f'.Nodup)
    (sub : ∀ a, a ∈ f' → a ∈ F (d.length + t.length) ∨ a ∈ F (d.length + t.length + 1) ∨ H a = none) (r : Or K w C H' Hf o' v f') : ∃ F', ST K w C H' Hf d g (t ++ [(o', v)]) F' ∧ Go H Hf F H' Hf F' := by
  obtain ⟨S1, g1⟩ := S.si.mut (k := d.length + t.length) (n := d.length + t.length + 1) kp nd sub r
  refine ⟨_, S1.st (d := d) (g := g) (t := t ++ [(o', v)]) S.len (fun i q e => ?_) fun i => ?_, g1⟩
  · obtain ⟨v2, h1, _⟩ := S.env i q e
    exact ⟨v2, h1⟩
  · try dsimp only
    unfold itm
    by_cases hi : i < d.length
    · rw [if_neg (by omega), if_neg (by omega), if_pos hi, if_pos hi]
    · rw [if_neg hi]
      by_cases h1 : i = d.length + t.length
      · rw [if_pos h1, if_neg hi]
        exact (app_at (by omega)).symm
      · rw [if_neg h1]
        by_cases h2 : i = d.length + t.length + 1
        · rw [if_pos h2, if_neg hi]
          have z : (t ++ [(o', v)])[i - d.length]? = none := List.getElem?_eq_none_iff.mpr (by simp; omega)
          exact z.symm
        · rw [if_neg h2, if_neg hi]
          rw [app_ne (by simp; omega), app_ne (by omega), app_ne (by omega)]
end
end Pd
/-! Pd11: statements: blocks, if, return, assignments to names, expressions dropped. -/
namespace Pd
open PySem L2 PyProof.Rows

/-- how a statement ends -/
inductive Fl where
  | nx
  | ret (o : O)
abbrev Ex := PEnv → Option (Fl × PEnv)

section
variable {K : PySem.W.Frag} {w : World} {C : Str → Option Addr} {H Hf : Hp} {d : PEnv} {g : L2.St} {t : Tmp} {F : Fps}
/-- a slot's value is moved to the top -/
theorem ST.move (S : ST K w C H Hf d g t F) {k : Nat} {o : O} (hk : d[k]? = some (some o)) : ∃ v F', g[k]? = some (some v) ∧ ST K w C H Hf (d.set k none) g (t ++ [(o, v)]) F' ∧ Go H Hf F H Hf F' := by
  obtain ⟨v, hv, r⟩ := S.env k o hk
  have hkl := (List.getElem?_eq_some_iff.mp hk).1
  obtain ⟨S1, g1⟩ := S.si.mut (H' := H) (k := d.length + t.length) (n := k) (o' := o) (v' := v) (f' := F k) (fun a u h _ => h) (S.nd k) (fun a ha => .inr (.inl ha)) r
  refine ⟨v, _, hv, S1.st (d := d.set k none) (g := g) (t := t ++ [(o, v)]) (by rw [List.length_set]; exact S.len) (fun i q e => ?_) fun i => ?_, g1⟩
  · by_cases hi : i = k
    · rw [hi, List.getElem?_set_self hkl] at e; cases e
    · rw [List.getElem?_set_ne (Ne.symm hi)] at e
      obtain ⟨v2, h1, _⟩ := S.env i q e
      exact ⟨v2, h1⟩
  · try dsimp only
    unfold itm
    rw [List.length_set]
    by_cases hn : i = d.length + t.length
    · rw [if_pos hn, if_neg (by omega)]
      exact (app_at (by omega)).symm
    · rw [if_neg hn]
      by_cases hi : i = k
      · rw [if_pos hi, if_pos (by omega), hi, List.getD_eq_getElem?_getD, List.getElem?_set_self hkl]
        rfl
      · rw [if_neg hi]
        by_cases h1 : i < d.length
        · rw [if_pos h1, if_pos h1, getD_set_ne hi]
        · rw [if_neg h1, if_neg h1]
          exact (app_ne (by omega)).symm
end

/-! ### targets of values: a name, a tuple of names -/
inductive Tg where
  | name (i : Nat)
  | tup (is : List Nat)
def Tg.is : Tg → List Nat
  | .name i => [i]
  | .tup is => is
/-- slots other than those stand -/
def Same (is : List Nat) (g g' : L2.St) : Prop := g'.length = g.length ∧ ∀ (i : Nat), i ∉ is → g'[i]? = g[i]?
theorem Same.rfl {is : List Nat} {g : L2.St} : Same is g g := ⟨Eq.refl _, fun _ _ => Eq.refl _⟩
theorem Same.set {i : Nat} {g : L2.St} {v : Option V} : Same [i] g (g.set i v) := ⟨List.length_set .., fun j hj => List.getElem?_set_ne (fun e => hj (by rw [e]; exact List.mem_singleton.mpr (Eq.refl _)))⟩
theorem Same.setm {i : Nat} {is : List Nat} {g : L2.St} {v : Option V} (h : i ∈ is) : Same is g (g.set i v) := ⟨List.length_set .., fun j hj => List.getElem?_set_ne (fun e => hj (by rw [← e]; exact h))⟩
theorem Same.trans {is : List Nat} {g g1 g2 : L2.St} (a : Same is g g1) (b : Same is g1 g2) : Same is g g2 := ⟨b.1.trans a.1, fun j hj => (b.2 j hj).trans (a.2 j hj)⟩
theorem Same.sub {is js : List Nat} {g g1 : L2.St} (a : Same is g g1) (h : ∀ i, i ∈ is → i ∈ js) : Same js g g1 := ⟨a.1, fun j hj => a.2 j fun z => hj (h j z)⟩
theorem Same.cons {i : Nat} {is : List Nat} {g g1 g2 : L2.St} (a : Same [i] g g1) (b : Same is g1 g2) : Same (i :: is) g g2 :=
  ⟨b.1.trans a.1, fun j hj => (b.2 j fun h => hj (List.mem_cons_of_mem _ h)).trans (a.2 j fun h => hj (by rw [List.mem_singleton.mp h]; exact List.mem_cons_self))⟩
section
variable (X : Cx) (C : Str → Option Addr)
def PostF (is : List Nat) (pins : List (Addr × Obj)) (g : L2.St) (H Hf : Hp) (F : Fps) (t : Tmp) (r : Fl) (d' : PEnv) : Flow → Shared → Prop := fun f s' => match r, f with
  | .nx, .next => ∃ g' H' Hf' F', Inv X pins g' H' s' ∧ ST X.K X.w C H' Hf' d' g' t F' ∧ Go H Hf F H' Hf' F' ∧ Same is g g'
  | .ret o, .ret u => ∃ v g0 g' H' Hf' F', Inv X pins g0 H' s' ∧ RelV v u ∧ ST X.K X.w C H' Hf' d' g' (t ++ [(o, v)]) F' ∧ Go H Hf F H' Hf' F' ∧ Same is g g'
  | _, _ => False
structure DenS (is : List Nat) (st : Stmt) (f : Ex) : Prop where
  run : ∀ (pins : List (Addr × Obj)) (s : Shared) (g : L2.St) (H Hf : Hp) (d : PEnv) (t : Tmp) (F : Fps) (r : Fl) (d' : PEnv), Inv X pins g H s → ST X.K X.w C H Hf d g t F → f d = some (r, d') →
    wpAny (model X.prog X.w) X.A (exec st X.env) (PostF X C is pins g H Hf F t r d') X.xe s
structure DenB (is : List Nat) (st : List Stmt) (f : Ex) : Prop where
  run : ∀ (pins : List (Addr × Obj)) (s : Shared) (g : L2.St) (H Hf : Hp) (d : PEnv) (t : Tmp) (F : Fps) (r : Fl) (d' : PEnv), Inv X pins g H s → ST X.K X.w C H Hf d g t F → f d = some (r, d') →
    wpAny (model X.prog X.w) X.A (execs st X.env) (PostF X C is pins g H Hf F t r d') X.xe s
end

def xSeq (f k : Ex) : Ex := fun d => (f d).bind fun p => match p.1 with
  | .nx => k p.2
  | .ret o => some (.ret o, p.2)
def xNil : Ex := fun d => some (.nx, d)
def xIf (c : EvB) (f k : Ex) : Ex := fun d => (c d).bind fun p => if p.1 = true then f p.2 else k p.2
def xRet (f : Ev) : Ex := fun d => (f d).bind fun p => some (.ret p.1, p.2)
def xRetN : Ex := fun d => some (.ret (.val .non), d)
def xDrop (f : Ev) : Ex := fun d => (f d).bind fun p => some (.nx, p.2)
def xSet (i : Nat) (f : Ev) : Ex := fun d => (f d).bind fun p => if i < p.2.length then some (.nx, p.2.set i (some p.1)) else none
def evMove (i : Nat) : Ev := fun d => (d.getD i none).bind fun o => some (o, d.set i none)

section
variable {X : Cx} {C : Str → Option Addr} {is : List Nat}
theorem PostF.after {is : List Nat} {pins : List (Addr × Obj)} {g g1 : L2.St} {H Hf H1 Hf1 : Hp} {F F1 : Fps} {t : Tmp} {r : Fl} {d' : PEnv} {f : Flow} {s : Shared} (go1 : Go H Hf F H1 Hf1 F1) (sm : Same is g g1) (h : PostF X C is pins g1 H1 Hf1 F1 t r d' f s) : PostF X C is pins g H Hf F t r d' f s := by
  cases r with
  | nx =>
    cases f with
    | next =>
      obtain ⟨g', H', Hf', F', I', S', g2, sm2⟩ := h
      exact ⟨g', H', Hf', F', I', S', go1.trans g2, sm.trans sm2⟩
    | _ => exact h.elim
  | ret o =>
    cases f with
    | ret u =>
      obtain ⟨v, g0, g', H', Hf', F', I', r', S', g2, sm2⟩ := h
      exact ⟨v, g0, g', H', Hf', F', I', r', S', go1.trans g2, sm.trans sm2⟩
    | _ => exact h.elim
theorem denB_nil : DenB X C is [] xNil := ⟨fun pins s g H Hf d t F r d' I S q => by
  cases q
  exact wpAny_execs_nil ⟨g, H, Hf, F, I, S, Go.refl, Same.rfl⟩⟩
theorem denB_cons {st : Stmt} {rest : List Stmt} {f k : Ex} (h1 : DenS X C is st f) (h2 : DenB X C is rest k) : DenB X C is (st :: rest) (xSeq f k) := by
  refine ⟨fun pins s g H Hf d t F r d' I S q => ?_⟩
  obtain ⟨⟨r1, d1⟩, q1, q2⟩ := Option.bind_eq_some_iff.mp q
  refine wpAny_execs_cons (thn (h1.run pins s g H Hf d t F r1 d1 I S q1) fun f s1 z => ?_)
  cases r1 with
  | nx =>
    cases f with
    | next =>
      obtain ⟨g', H', Hf', F', I', S', g2, sm⟩ := z
      exact thn (h2.run pins s1 g' H' Hf' d1 t F' r d' I' S' q2) fun f s2 z2 => z2.after g2 sm
    | _ => exact z.elim
  | ret o =>
    cases q2
    cases f with
    | ret u => exact z
    | _ => exact z.elim
theorem denS_if {c : Expr} {a b : List Stmt} {fc : EvB} {f k : Ex} {pos : Pos} (hc : DenT X C c fc) (ha : DenB X C is a f) (hb : DenB X C is b k) : DenS X C is (.If c a b pos) (xIf fc f k) := by
  refine ⟨fun pins s g H Hf d t F r d' I S q => ?_⟩
  obtain ⟨⟨z, d1⟩, q1, q2⟩ := Option.bind_eq_some_iff.mp q
  refine wpAny_If (thn (hc.run pins s g H Hf d t F z d1 I S q1) fun y s1 ⟨e, H1, Hf1, F1, I1, S1, g1⟩ => ?_)
  subst e
  cases y with
  | true => exact thn (ha.run pins s1 g H1 Hf1 d1 t F1 r d' I1 S1 q2) fun u s' z => z.after g1 Same.rfl
  | false => exact thn (hb.run pins s1 g H1 Hf1 d1 t F1 r d' I1 S1 q2) fun u s' z => z.after g1 Same.rfl
theorem denS_ret {e : Expr} {f : Ev} {pos : Pos} (he : Den X C e f) : DenS X C is (.Return (some e) pos) (xRet f) := by
  refine ⟨fun pins s g H Hf d t F r d' I S q => ?_⟩
  obtain ⟨⟨o, d1⟩, q1, q2⟩ := Option.bind_eq_some_iff.mp q
  cases q2
  exact wpAny_Return_some (thn (he.run pins s g H Hf d t F o d1 I S q1) fun u s1 ⟨v, H1, Hf1, F1, I1, r1, S1, g1⟩ => ⟨v, g, g, H1, Hf1, F1, I1, r1, S1, g1, Same.rfl⟩)
theorem denS_retN {pos : Pos} : DenS X C is (.Return none pos) xRetN := by
  refine ⟨fun pins s g H Hf d t F r d' I S q => ?_⟩
  cases q
  obtain ⟨S2, g2⟩ := S.pushV (x := .non) (v := .non) rfl
  exact wpAny_Return_none ⟨.non, g, g, H, Hf, _, I, rfl, S2, g2, Same.rfl⟩
theorem denS_pass {pos : Pos} : DenS X C is (.Pass pos) xNil := ⟨fun pins s g H Hf d t F r d' I S q => by
  cases q
  exact wpAny_Pass ⟨g, H, Hf, F, I, S, Go.refl, Same.rfl⟩⟩
theorem denS_doc {x j pos pos'} : DenS X C is (.Expr (.Constant (.str x) j pos) pos') xNil := ⟨fun pins s g H Hf d t F r d' I S q => by
  cases q
  exact wpAny_Expr (Calls.Constant_str (show PostF X C is pins g H Hf F t .nx d .next { s with toks := s.toks + 1 } from ⟨g, H, Hf, F, I.tok _, S, Go.refl, Same.rfl⟩)) I.quiet⟩
theorem denS_drop {e : Expr} {f : Ev} {pos : Pos} (he : Den X C e f) (hs : swapsWith e none pos.line X.env = pure false) : DenS X C is (.Expr e pos) (xDrop f) := by
  refine ⟨fun pins s g H Hf d t F r d' I S q => ?_⟩
  obtain ⟨⟨o, d1⟩, q1, q2⟩ := Option.bind_eq_some_iff.mp q
  cases q2
  refine wpAny_Expr_any (thn (he.run pins s g H Hf d t F o d1 I S q1) fun u s1 ⟨v, H1, Hf1, F1, I1, r1, S1, g1⟩ => ?_) I.quiet hs
  obtain ⟨S2, g2⟩ := S1.pop
  exact ⟨g, H1, Hf1, _, I1, S2, g1.trans g2, Same.rfl⟩
/-- name = value -/
theorem denS_set {i : Nat} {x : Str} {e : Expr} {f : Ev} {pos' pos : Pos} (hN : X.N.Nodup) (hi : X.N[i]? = some x) (hx : Loc X.env.scope x) (he : Den X C e f) (hs : swapsWith e (some (.Name x pos')) pos.line X.env = pure false) (hf : X.fn x = true ∨ X.env.scope.names.lookup x = some .local) (hw : i ∈ is) :
    DenS X C is (.Assign [.Name x pos'] e pos) (xSet i f) := by
  refine ⟨fun pins s g H Hf d t F r d' I S q => ?_⟩
  obtain ⟨⟨o, d1⟩, q1, q2⟩ := Option.bind_eq_some_iff.mp q
  split at q2
  · rename_i hl
    cases q2
    refine wpAny_Assign_Name (thn (he.run pins s g H Hf d t F o d1 I S q1) fun u s1 ⟨v, H1, Hf1, F1, I1, r1, S1, g1⟩ => ?_) hs
    obtain ⟨S2, g2⟩ := S1.store hl
    exact store_ok I1 hN hi hx r1 (fun s2 I2 => ⟨_, H1, Hf1, _, I2, S2, g1.trans g2, Same.setm hw⟩) hf
  · cases q2
theorem den_move {i : Nat} {x : Str} {pos : Pos} (hN : X.N[i]? = some x) (hv : Vis X.env.scope x) (hd : (x == ("__debug__" : Str)) = false) (hcd : (x == ("__classdict__" : Str)) = false) : Den X C (.Name x pos) (evMove i) := by
  refine ⟨fun pins s g H Hf d t F o d' I S q => ?_⟩
  obtain ⟨o1, e1, q⟩ := Option.bind_eq_some_iff.mp q
  cases q
  obtain ⟨v, F', hv', S', go⟩ := S.move (getD_some e1)
  refine thn ((pe_var (X := X) hN hv hd hcd (pos := pos)).run pins s g H (fun z H' => z = v ∧ H' = H) I ⟨v, hv', rfl, rfl⟩) fun u s' ⟨z, H', I', rv, ez, eH⟩ => ?_
  subst ez eH
  exact ⟨z, _, Hf, F', I', rv, S', go⟩

def setAll : List Nat → List D → PEnv → Option PEnv
  | [], [], d => some d
  | i :: is, x :: xs, d => if i < d.length then setAll is xs (d.set i (some (.val x))) else none
  | _, _, _ => none
def bindT : Tg → D → PEnv → Option PEnv
  | .name i, x, d => setAll [i] [x] d
  | .tup is, x, d => x.asTup.bind fun xs => setAll is xs d
/-- a value is stored -/
structure DenG (X : Cx) (C : Str → Option Addr) (tg : Expr) (k : Tg) : Prop where
  run : ∀ (pins : List (Addr × Obj)) (s : Shared) (g : L2.St) (H Hf : Hp) (d d' : PEnv) (t : Tmp) (F : Fps) (x : D) (v : V) (u : Value), Inv X pins g H s → ST X.K X.w C H Hf d g t F → Rp X.K X.w C Hf x v → RelV v u → bindT k x d = some d' →
    wpAny (model X.prog X.w) X.A (assign tg X.env u) (fun _ s' => ∃ g' H' F', Inv X pins g' H' s' ∧ H' = H ∧ ST X.K X.w C H Hf d' g' t F' ∧ Go H Hf F H Hf F' ∧ Same k.is g g') X.xe s
theorem setV {pins : List (Addr × Obj)} {s : Shared} {g : L2.St} {H Hf : Hp} {d : PEnv} {t : Tmp} {F : Fps} {x : D} {v : V} {u : Value} {i : Nat} {n : Str} {pos : Pos} (hN : X.N.Nodup) (hi : X.N[i]? = some n) (hx : Loc X.env.scope n) (hf : X.fn n = true ∨ X.env.scope.names.lookup n = some .local)
    (I : Inv X pins g H s) (S : ST X.K X.w C H Hf d g t F) (r : Rp X.K X.w C Hf x v) (rv : RelV v u) (hl : i < d.length) {Q : Unit → Shared → Prop}
    (k : ∀ s' F', Inv X pins (g.set i (some v)) H s' → ST X.K X.w C H Hf (d.set i (some (.val x))) (g.set i (some v)) t F' → Go H Hf F H Hf F' → Q () s') : wpAny (model X.prog X.w) X.A (assign (.Name n pos) X.env u) Q X.xe s := by
  obtain ⟨S1, g1⟩ := S.pushV r
  obtain ⟨S2, g2⟩ := S1.store hl
  exact wpAny_assign_Name (store_ok I hN hi hx rv (fun s2 I2 => k s2 _ I2 S2 (g1.trans g2)) hf)
theorem denG_name {i : Nat} {n : Str} {pos : Pos} (hN : X.N.Nodup) (hi : X.N[i]? = some n) (hx : Loc X.env.scope n) (hf : X.fn n = true ∨ X.env.scope.names.lookup n = some .local) : DenG X C (.Name n pos) (.name i) := by
  refine ⟨fun pins s g H Hf d d' t F x v u I S r rv q => ?_⟩
  have q : (if i < d.length then some (d.set i (some (.val x))) else none) = some d' := q
  split at q
  · rename_i hl
    cases q
    exact setV hN hi hx hf I S r rv hl fun s' F' I' S' go => ⟨_, H, F', I', rfl, S', go, Same.set⟩
  · cases q
/-- the names of a tuple target -/
inductive NmL (X : Cx) : List Expr → List Nat → Prop
  | nil : NmL X [] []
  | cons {i : Nat} {n : Str} {pos : Pos} {es : List Expr} {is : List Nat} (hi : X.N[i]? = some n) (hx : Loc X.env.scope n) (hf : X.fn n = true ∨ X.env.scope.names.lookup n = some .local) (h : NmL X es is) : NmL X (.Name n pos :: es) (i :: is)
theorem nmL_each {es : List Expr} {is : List Nat} (h : NmL X es is) : (assignEach es X.env).length = is.length ∧ (assignEach es X.env).findIdx? (·.1) = none := by
  induction h with
  | nil => exact ⟨rfl, rfl⟩
  | @cons i n pos es is _ _ _ _ ih =>
    have e : assignEach (.Name n pos :: es) X.env = (false, assign (.Name n pos) X.env) :: assignEach es X.env := rfl
    refine ⟨by rw [e, List.length_cons, List.length_cons, ih.1], ?_⟩
    rw [e, List.findIdx?_cons, if_neg Bool.false_ne_true, ih.2]
    rfl
theorem nmL_run (hN : X.N.Nodup) {es : List Expr} {is : List Nat} (h : NmL X es is) : ∀ {pins : List (Addr × Obj)} {s : Shared} {g : L2.St} {H Hf : Hp} {d d' : PEnv} {t : Tmp} {F : Fps} {xs : List D} {vs : List V} {us : List Value}, Inv X pins g H s → ST X.K X.w C H Hf d g t F → RpL X.K X.w C Hf xs vs → Vals vs us →
    setAll is xs d = some d' → wpAny (model X.prog X.w) X.A (assignInOrder ((assignEach es X.env).map (·.2)) us) (fun _ s' => ∃ g' H' F', Inv X pins g' H' s' ∧ H' = H ∧ ST X.K X.w C H Hf d' g' t F' ∧ Go H Hf F H Hf F' ∧ Same is g g') X.xe s := by
  induction h with
  | nil =>
    intro pins s g H Hf d d' t F xs vs us I S r rv q
    match xs, q, r with
    | [], q, r =>
      cases q
      have e : vs = [] := r
      subst e
      cases rv
      exact assignInOrder_nil ⟨g, H, F, I, rfl, S, Go.refl, Same.rfl⟩
    | x :: xs, q, r => cases q
  | @cons i n pos es is hi hx hf h ih =>
    intro pins s g H Hf d d' t F xs vs us I S r rv q
    match xs, q, r with
    | [], q, r => cases q
    | x :: xs, q, ⟨v, vs', e, r1, r2⟩ =>
      subst e
      have q : (if i < d.length then setAll is xs (d.set i (some (.val x))) else none) = some d' := q
      split at q
      · rename_i hl
        cases rv with
        | cons rv1 rv2 =>
          show wpAny (model X.prog X.w) X.A (assignInOrder (assign (.Name n pos) X.env :: (assignEach es X.env).map (·.2)) _) _ X.xe s
          refine assignInOrder_cons (setV hN hi hx hf I S r1 rv1 hl fun s' F' I' S' go => ?_)
          refine thn (ih I' S' r2 rv2 q) fun _ s2 ⟨g2, H2, F2, I2, e2, S2, go2, sm⟩ => ⟨g2, H2, F2, I2, e2, S2, go.trans go2, Same.set.cons sm⟩
      · cases q
theorem denG_tup {es : List Expr} {is : List Nat} {k : Nat} {pos : Pos} (hc : X.calm = true) (hN : X.N.Nodup) (h : NmL X es is) : DenG X C (.Tuple es k pos) (.tup is) := by
  refine ⟨fun pins s g H Hf d d' t F x v u I S r rv q => ?_⟩
  obtain ⟨xs, h1, q⟩ := Option.bind_eq_some_iff.mp q
  have z := asTup_eq h1
  subst z
  obtain ⟨a, vs, e, hs, rs⟩ := r
  subst e
  cases rv
  have hlen : ∀ {is : List Nat} {xs : List D} {d : PEnv}, setAll is xs d = some d' → is.length = xs.length := by
    intro is
    induction is with
    | nil =>
      intro xs d q
      match xs, q with
      | [], _ => rfl
      | _ :: _, q => cases q
    | cons i is ih =>
      intro xs d q
      match xs, q with
      | [], q => cases q
      | x :: xs, q =>
        have q : (if i < d.length then setAll is xs (d.set i (some (.val x))) else none) = some d' := q
        split at q
        · rw [List.length_cons, List.length_cons, ih q]
        · cases q
  obtain ⟨its, rvs, ht, hz⟩ := I.tuple (S.le.sqT hs)
  obtain ⟨n1, n2⟩ := nmL_each h
  refine assign_Tuple_tuple (I.ok.hd hc) ht (by simp [n1, hlen q, ← rs.length, rvs.length]) n2 fun h' hx => ?_
  have I1 : Inv X pins g H { s with heap := h' } := I.kept (t' := s.toks) fun b o e => hx b o (Nat.ne_of_lt (Heap.lt_size e)) e
  exact nmL_run hN h I1 S rs (by simpa using rvs) q
/-- a, b = value (a tuple) -/
def xSetT (k : Tg) (f : Ev) : Ex := fun d => (f d).bind fun p => (bindT k p.1.d p.2).bind fun d2 => some (.nx, d2)
theorem denS_setT {tg e : Expr} {k : Tg} {f : Ev} {pos : Pos} (hg : DenG X C tg k) (he : Den X C e f) (hs : swapsWithSole [tg] e pos.line X.env = pure false) (hw : swappedStores [tg] e X.env = pure none) (h1 : (assignEach [tg] X.env).map (·.2) = [assign tg X.env]) (hwr : ∀ i, i ∈ k.is → i ∈ is) :
    DenS X C is (.Assign [tg] e pos) (xSetT k f) := by
  refine ⟨fun pins s g H Hf d t F r d' I S q => ?_⟩
  obtain ⟨⟨o, d1⟩, q1, q2⟩ := Option.bind_eq_some_iff.mp q
  obtain ⟨d2, q3, q4⟩ := Option.bind_eq_some_iff.mp q2
  cases q4
  refine wpAny_Assign_stores (thn (he.run pins s g H Hf d t F o d1 I S q1) fun u s1 ⟨v, H1, Hf1, F1, I1, r1, S1, g1⟩ => ?_) hs hw
  rw [h1]
  obtain ⟨Hf2, S2, g2, rp⟩ := S1.freezeTop
  obtain ⟨S3, g3⟩ := S2.pop
  refine thn (hg.run pins s1 g H1 Hf2 d1 _ t _ _ v u I1 S3 rp r1 q3) fun _ s2 ⟨g', H', F', I', eH, S', go, sm⟩ => ?_
  subst eH
  exact ⟨g', _, Hf2, F', I', S', (((g1.trans g2).trans g3).trans go), sm.sub hwr⟩
end
end Pd
set_option maxHeartbeats 1000000
/-! Pd12: several values kept as they are; a, b = x, y; calls of defs. -/
namespace Pd
open PySem L2 PyProof.Rows

def goE : List Ev → PEnv → Option (List O × PEnv)
  | [], d => some ([], d)
  | f :: fs, d => (f d).bind fun p => (goE fs p.2).bind fun q => some (p.1 :: q.1, q.2)
section
variable (X : Cx) (C : Str → Option Addr)
def PostL (pins : List (Addr × Obj)) (g : L2.St) (H Hf : Hp) (F : Fps) (t : Tmp) (os : List O) (d' : PEnv) : List Value → Shared → Prop := fun us s' =>
  ∃ vs H' Hf' F', Inv X pins g H' s' ∧ Vals vs us ∧ vs.length = os.length ∧ ST X.K X.w C H' Hf' d' g (t ++ os.zip vs) F' ∧ Go H Hf F H' Hf' F'
structure DenL (es : List Expr) (fs : List Ev) : Prop where
  run : ∀ (pos : Pos) (pins : List (Addr × Obj)) (s : Shared) (g : L2.St) (H Hf : Hp) (d : PEnv) (t : Tmp) (F : Fps) (os : List O) (d' : PEnv), Inv X pins g H s → ST X.K X.w C H Hf d g t F → goE fs d = some (os, d') →
    wpAny (model X.prog X.w) X.A (spliced (backTo pos (starEach es X.env))) (PostL X C pins g H Hf F t os d') X.xe s
end
section
variable {X : Cx} {C : Str → Option Addr}
theorem denL_nil : DenL X C [] [] := by
  refine ⟨fun pos pins s g H Hf d t F ta d' I S q => ?_⟩
  cases q
  exact Calls.spliced_nil ⟨[], H, Hf, F, I, .nil, rfl, by simpa using S, Go.refl⟩
theorem denL_cons {e : Expr} {es : List Expr} {f : Ev} {fs : List Ev} (ha : Den X C e f) (hr : DenL X C es fs) (hs : starEach (e :: es) X.env = (false, eval e X.env) :: starEach es X.env) : DenL X C (e :: es) (f :: fs) := by
  refine ⟨fun pos pins s g H Hf d t F os d' I S q => ?_⟩
  rw [hs]
  obtain ⟨⟨o1, d1⟩, q1, q⟩ := Option.bind_eq_some_iff.mp q
  obtain ⟨⟨o2, d2⟩, q2, q⟩ := Option.bind_eq_some_iff.mp q
  cases q
  show wpAny _ _ (spliced ((false, eval e X.env) :: backTo pos (starEach es X.env))) _ _ s
  refine Calls.spliced_cons (thn (ha.run pins s g H Hf d t F o1 d1 I S q1) fun u s1 ⟨v, H1, Hf1, F1, I1, r1, S1, g1⟩ => ?_)
  refine thn (hr.run pos pins s1 g H1 Hf1 d1 _ F1 o2 d2 I1 S1 q2) fun us s2 ⟨vs, H2, Hf2, F2, I2, r2, l2, S2, g2⟩ => ?_
  exact ⟨v :: vs, H2, Hf2, F2, I2, .cons r1 r2, by simp [l2], by simpa using S2, g1.trans g2⟩

theorem vals_2 {vs : List V} {us : List Value} (r : Vals vs us) (h : vs.length = 2) : ∃ v1 v2 u1 u2, vs = [v1, v2] ∧ us = [u1, u2] ∧ RelV v1 u1 ∧ RelV v2 u2 := by
  cases r with
  | nil => cases h
  | cons r1 r =>
    cases r with
    | nil => cases h
    | cons r2 r =>
      cases r with
      | nil => exact ⟨_, _, _, _, rfl, rfl, r1, r2⟩
      | cons r3 r => exact absurd h (by simp)
theorem vals_3 {vs : List V} {us : List Value} (r : Vals vs us) (h : vs.length = 3) : ∃ v1 v2 v3 u1 u2 u3, vs = [v1, v2, v3] ∧ us = [u1, u2, u3] ∧ RelV v1 u1 ∧ RelV v2 u2 ∧ RelV v3 u3 := by
  cases r with
  | nil => cases h
  | cons r1 r =>
    obtain ⟨v1, v2, u1, u2, e1, e2, r2, r3⟩ := vals_2 r (by simpa using h)
    exact ⟨_, v1, v2, _, u1, u2, by rw [e1], by rw [e2], r1, r2, r3⟩
def xPar2 (i j : Nat) (fs : List Ev) : Ex := fun d => (goE fs d).bind fun p => match p.1 with
  | [a, b] => if i < p.2.length ∧ j < p.2.length then some (.nx, (p.2.set j (some b)).set i (some a)) else none
  | _ => none
def xPar3 (i j l : Nat) (fs : List Ev) : Ex := fun d => (goE fs d).bind fun p => match p.1 with
  | [a, b, c] => if i < p.2.length ∧ j < p.2.length ∧ l < p.2.length then some (.nx, ((p.2.set l (some c)).set j (some b)).set i (some a)) else none
  | _ => none
theorem denS_par2 {is : List Nat} {i j : Nat} {x y : Str} {a b : Expr} {fs : List Ev} {px py pt pos : Pos} {kt k2 pt2} (hc : X.calm = true) (hN : X.N.Nodup) (hi : X.N[i]? = some x) (hj : X.N[j]? = some y)
    (hx : X.env.scope.names.lookup x = some .local) (hy : X.env.scope.names.lookup y = some .local) (ha : DenL X C [a, b] fs)
    (hw : swappedStores [.Tuple [.Name x px, .Name y py] kt pt] (.Tuple [a, b] k2 pt2) X.env = pure (some [x, y]))
    (hwi : i ∈ is) (hwj : j ∈ is) (hs : swapsWithSole [.Tuple [.Name x px, .Name y py] kt pt] (.Tuple [a, b] k2 pt2) pos.line X.env = pure false) : DenS X C is (.Assign [.Tuple [.Name x px, .Name y py] kt pt] (.Tuple [a, b] k2 pt2) pos) (xPar2 i j fs) := by
  refine ⟨fun pins s g H Hf d t F r d' I S q => ?_⟩
  obtain ⟨⟨os, d1⟩, q1, q2⟩ := Option.bind_eq_some_iff.mp q
  match os, q1, q2 with
  | [o1, o2], q1, q2 =>
    have q2 : (if i < d1.length ∧ j < d1.length then some (Fl.nx, (d1.set j (some o2)).set i (some o1)) else none) = some (r, d') := q2
    split at q2
    · rename_i hl
      cases q2
      rw [exec_Assign_arm]
      refine wpAny_bind (wpAny_standAt ?_)
      rw [hs]
      refine wpAny_bind (wpAny_pure ?_)
      rw [if_neg (by decide)]
      refine wpAny_bind (Tuple_ (thn (ha.run _ pins s g H Hf d t F _ d1 I S q1) fun us s1 ⟨vs, H1, Hf1, F1, I1, rv, lv, S1, g1⟩ => ?_))
      obtain ⟨v1, v2, u1, u2, e1, e2, r1, r2⟩ := vals_2 rv lv
      subst e1 e2
      · refine wpAny_newObj_type ?_ (by show 2 ≤ sizeLine; decide)
        have I2 : Inv X pins g H1 { s1 with heap := s1.heap.push { cls := .type "tuple", data := .seq [u1, u2].toArray } } := I1.kept (t' := s1.toks) fun b o e => Heap.get?_push_of_some _ e
        rw [hw]
        refine wpAny_bind (wpAny_pure ?_)
        show wpAny (model X.prog X.w) X.A (do rule "assign.swapped-stores"; let items ← unpackItems (.ref s1.heap.objs.size) 2 none; assignInOrder [fun v => bindName X.env y v, fun v => bindName X.env x v] items.reverse; pure Flow.next) _ _ _
        refine wpAny_bind (wpAny_rule (wpAny_bind (unpackItems_tuple (items := #[u1, u2]) (I.ok.hd hc) (IsTup.new s1.heap _) fun h' hx' => ?_)))
        have I3 := I2.kept (h' := h') (t' := s1.toks) fun b o e => hx' b o (Nat.ne_of_lt (Heap.lt_size e)) e
        have S1 : ST X.K X.w C H1 Hf1 d1 g (t ++ [(o1, v1)] ++ [(o2, v2)]) F1 := by simpa using S1
        obtain ⟨S2, g2⟩ := S1.store hl.2
        obtain ⟨S3, g3⟩ := S2.store (k := i) (by rw [List.length_set]; exact hl.1)
        show wpAny _ _ (assignInOrder [fun v => bindName X.env y v, fun v => bindName X.env x v] [u2, u1] >>= fun _ => pure Flow.next) _ _ _
        refine wpAny_bind (assignInOrder_cons (wpAny_bindName (store_ok I3 hN hj (.inl hy) r2 (fun s2 I4 => ?_) (.inr hy))))
        refine assignInOrder_cons (wpAny_bindName (store_ok I4 hN hi (.inl hx) r1 (fun s3 I5 => assignInOrder_nil (wpAny_pure ?_)) (.inr hx)))
        exact ⟨_, H1, Hf1, _, I5, S3, (g1.trans g2).trans g3, (Same.setm hwj).trans (Same.setm hwi)⟩
    · cases q2
  | [], _, q2 => cases q2
  | [_], _, q2 => cases q2
  | _ :: _ :: _ :: _, _, q2 => cases q2
theorem denS_par3 {is : List Nat} {i j l : Nat} {x y z : Str} {a b c : Expr} {fs : List Ev} {px py pz pt pos : Pos} {kt k2 pt2} (hc : X.calm = true) (hN : X.N.Nodup) (hi : X.N[i]? = some x) (hj : X.N[j]? = some y) (hl : X.N[l]? = some z)
    (hx : X.env.scope.names.lookup x = some .local) (hy : X.env.scope.names.lookup y = some .local) (hz : X.env.scope.names.lookup z = some .local) (ha : DenL X C [a, b, c] fs)
    (hw : swappedStores [.Tuple [.Name x px, .Name y py, .Name z pz] kt pt] (.Tuple [a, b, c] k2 pt2) X.env = pure (some [x, y, z]))
    (hwi : i ∈ is) (hwj : j ∈ is) (hwl : l ∈ is) (hs : swapsWithSole [.Tuple [.Name x px, .Name y py, .Name z pz] kt pt] (.Tuple [a, b, c] k2 pt2) pos.line X.env = pure false) : DenS X C is (.Assign [.Tuple [.Name x px, .Name y py, .Name z pz] kt pt] (.Tuple [a, b, c] k2 pt2) pos) (xPar3 i j l fs) := by
  refine ⟨fun pins s g H Hf d t F r d' I S q => ?_⟩
  obtain ⟨⟨os, d1⟩, q1, q2⟩ := Option.bind_eq_some_iff.mp q
  match os, q1, q2 with
  | [o1, o2, o3], q1, q2 =>
    have q2 : (if i < d1.length ∧ j < d1.length ∧ l < d1.length then some (Fl.nx, ((d1.set l (some o3)).set j (some o2)).set i (some o1)) else none) = some (r, d') := q2
    split at q2
    · rename_i hle
      cases q2
      rw [exec_Assign_arm]
      refine wpAny_bind (wpAny_standAt ?_)
      rw [hs]
      refine wpAny_bind (wpAny_pure ?_)
      rw [if_neg (by decide)]
      refine wpAny_bind (Tuple_ (thn (ha.run _ pins s g H Hf d t F _ d1 I S q1) fun us s1 ⟨vs, H1, Hf1, F1, I1, rv, lv, S1, g1⟩ => ?_))
      obtain ⟨v1, v2, v3, u1, u2, u3, e1, e2, r1, r2, r3⟩ := vals_3 rv lv
      subst e1 e2
      · refine wpAny_newObj_type ?_ (by show 3 ≤ sizeLine; decide)
        have I2 : Inv X pins g H1 { s1 with heap := s1.heap.push { cls := .type "tuple", data := .seq [u1, u2, u3].toArray } } := I1.kept (t' := s1.toks) fun b o e => Heap.get?_push_of_some _ e
        rw [hw]
        refine wpAny_bind (wpAny_pure ?_)
        show wpAny (model X.prog X.w) X.A (do rule "assign.swapped-stores"; let items ← unpackItems (.ref s1.heap.objs.size) 3 none; assignInOrder [fun v => bindName X.env z v, fun v => bindName X.env y v, fun v => bindName X.env x v] items.reverse; pure Flow.next) _ _ _
        refine wpAny_bind (wpAny_rule (wpAny_bind (unpackItems_tuple (items := #[u1, u2, u3]) (I.ok.hd hc) (IsTup.new s1.heap _) fun h' hx' => ?_)))
        have I3 := I2.kept (h' := h') (t' := s1.toks) fun b o e => hx' b o (Nat.ne_of_lt (Heap.lt_size e)) e
        have S1 : ST X.K X.w C H1 Hf1 d1 g (t ++ [(o1, v1)] ++ [(o2, v2)] ++ [(o3, v3)]) F1 := by simpa using S1
        obtain ⟨S2, g2⟩ := S1.store hle.2.2
        obtain ⟨S3, g3⟩ := S2.store (k := j) (by rw [List.length_set]; exact hle.2.1)
        obtain ⟨S4, g4⟩ := S3.store (k := i) (by rw [List.length_set, List.length_set]; exact hle.1)
        show wpAny _ _ (assignInOrder [fun v => bindName X.env z v, fun v => bindName X.env y v, fun v => bindName X.env x v] [u3, u2, u1] >>= fun _ => pure Flow.next) _ _ _
        refine wpAny_bind (assignInOrder_cons (wpAny_bindName (store_ok I3 hN hl (.inl hz) r3 (fun s2 I4 => ?_) (.inr hz))))
        refine assignInOrder_cons (wpAny_bindName (store_ok I4 hN hj (.inl hy) r2 (fun s3 I5 => ?_) (.inr hy)))
        refine assignInOrder_cons (wpAny_bindName (store_ok I5 hN hi (.inl hx) r1 (fun s4 I6 => assignInOrder_nil (wpAny_pure ?_)) (.inr hx)))
        exact ⟨_, H1, Hf1, _, I6, S4, ((g1.trans g2).trans g3).trans g4, ((Same.setm hwl).trans (Same.setm hwj)).trans (Same.setm hwi)⟩
    · cases q2
  | [], _, q2 => cases q2
  | [_], _, q2 => cases q2
  | [_, _], _, q2 => cases q2
  | _ :: _ :: _ :: _ :: _, _, q2 => cases q2

/-! ### calls of defs: the arguments by value, what comes back is new -/
/-- a def's promise: it is fn on data -/
def spV (K : PySem.W.Frag) (w : World) (C : Str → Option Addr) (n : Nat) (fn : List D → Option O) : Sp := fun vs H Q _ => ∃ Hf ds r, Le Hf H ∧ RpL K w C Hf ds vs ∧ ds.length = n ∧ fn ds = some r ∧
  ∀ v H' Hf' f, Al H Hf H' Hf' f → Or K w C H' Hf' r v f → Q v H'
/-- a function of the table: its name, how many arguments, its data -/
structure Fe where
  name : Str
  n : Nat
  lvl : Nat
  fn : List D → Option O
/-- such a def stands behind the name -/
def FeOk (X : Cx) (C : Str → Option Addr) (e : Fe) : Prop :=
  ∃ (f : Addr) (fd : FuncData) (ps : List Str), X.mg e.name = some (.ref f) ∧ PySem.W.keepIn X.K (.ref f) = true ∧ Binds X.K fd ps [] ∧ (e.name == ("__debug__" : Str)) = false ∧
    FnOk X.prog X.w X.K X.mg X.base CX0 e.lvl f fd ps (spV X.K X.w C e.n e.fn) ∧ Room e.lvl X.A
def evCall (ps : List Opn) (n : Nat) (fn : List D → Option O) : Ev := evV ps fun xs => if xs.length = n then fn xs else none
theorem evCall_inv {ps : List Opn} {n : Nat} {fn : List D → Option O} {d d' : PEnv} {o : O} (q : evCall ps n fn d = some (o, d')) : ∃ ta, goL ps d = some (ta, d') ∧ (O.ds ta).length = n ∧ fn (O.ds ta) = some o := by
  unfold evCall evV at q
  obtain ⟨⟨ta, d1⟩, h1, q⟩ := Option.bind_eq_some_iff.mp q
  obtain ⟨r, h2, q⟩ := Option.bind_eq_some_iff.mp q
  cases q
  have h2 : (if (O.ds ta).length = n then fn (O.ds ta) else none) = some o := h2
  split at h2
  · rename_i hn
    exact ⟨ta, h1, hn, h2⟩
  · cases h2
/-- a def is called with data -/
theorem run_spV {CX : CXT} {k : Nat} {f : Addr} {fd : FuncData} {ps : List Str} {n : Nat} {fn : List D → Option O} {E : XK} {pins : List (Addr × Obj)} {g : L2.St} {s : Shared} {H Hf : Hp} {us : List Value} {vs : List V} {ds : List D} {r : O}
    (F : FnOk X.prog X.w X.K X.mg X.base CX k f fd ps (spV X.K X.w C n fn)) (hr : Room k X.A) (hb : Binds X.K fd ps []) (hx : Passes CX X E) (I : Inv X pins g H s) (l : Le Hf H) (rv : Vals vs us) (rp : RpL X.K X.w C Hf ds vs) (hn : ds.length = n) (hf : fn ds = some r) :
    wpAny (model X.prog X.w) X.A (call (.ref f) us) (PO X C pins g H Hf r) X.xe s :=
  thn (run_fn (dvs := []) (ds := []) (Q := fun v H' => ∃ Hf' f, Al H Hf H' Hf' f ∧ Or X.K X.w C H' Hf' r v f) F hr hb .nil hx I rv (by
    rw [List.append_nil]
    exact ⟨Hf, ds, r, l, rp, hn, hf, fun v H' Hf' f a o => ⟨Hf', f, a, o⟩⟩)) fun u s' ⟨v, H', I', r', Hf', f, a, o⟩ => ⟨v, H', Hf', f, I', r', a, o⟩
theorem den_call {fe : Fe} {e : Expr} {es : List Expr} {ps : List Opn} {p pos : Pos} (hg : Gl X fe.name) (hF : FeOk X C fe) (hp : allEx ps = true) (ha : DenA X C (e :: es) ps)
    (he : starEach (e :: es) X.env = (false, eval e X.env) :: starEach es X.env) (hpl : (backTo pos (starEach es X.env)).any (·.1) = false) : Den X C (.Call (.Name fe.name p) (e :: es) [] pos) (evCall ps fe.n fe.fn) := by
  refine ⟨fun pins s g H Hf d t F o d' I S q => ?_⟩
  obtain ⟨ta, h1, hn, h2⟩ := evCall_inv q
  obtain ⟨f, fd, pn, hm, hk, hb, hdb, FO, hr⟩ := hF
  refine wpAny_Call_Name_kw (ld_glob I hg hm ?_ hdb)
  refine PySem.W.callWith_K (h₀ := X.base) I.ok.mod.kin hk (thn (ha.run pos pins s g H Hf d t F ta d' I S h1) fun us s1 k => ?_) he hpl
  obtain ⟨vs, H2, Hf2, F2, I2, rv, rp, S2, g2⟩ := drop_val hp h1 k
  exact ⟨I2.kIn, thn (run_spV FO hr hb pass0 I2 S2.le rv rp hn h2) fun u s2 z => Post.al S2 g2 z⟩
theorem den_call0 {fe : Fe} {p pos : Pos} (hg : Gl X fe.name) (hF : FeOk X C fe) : Den X C (.Call (.Name fe.name p) [] [] pos) (evCall [] fe.n fe.fn) := by
  refine ⟨fun pins s g H Hf d t F o d' I S q => ?_⟩
  obtain ⟨ta, h1, hn, h2⟩ := evCall_inv q
  cases h1
  obtain ⟨f, fd, pn, hm, hk, hb, hdb, FO, hr⟩ := hF
  refine wpAny_Call_Name_kw (ld_glob I hg hm ?_ hdb)
  exact PySem.W.callWith_K0 I.kIn hk (thn (run_spV (us := []) (vs := []) (ds := []) FO hr hb pass0 I S.le .nil rfl hn h2) fun u s2 z => Post.al S Go.refl z)
end
end Pd
set_option maxHeartbeats 1000000
/-! Pd13: from a body to the def's promise; while. -/
namespace Pd
open PySem L2 PyProof.Rows
section
variable {X : Cx} {C : Str → Option Addr} {is : List Nat}
/-- a block's reading -/
def tB (X : Cx) (C : Str → Option Addr) (is : List Nat) (bf : Ex) : TS := fun D g H => ∃ Hf d t F r d', ST X.K X.w C H Hf d g t F ∧ bf d = some (r, d') ∧
  (r = .nx → ∀ g' H' Hf' F', ST X.K X.w C H' Hf' d' g' t F' → Go H Hf F H' Hf' F' → Same is g g' → D.nx g' H') ∧
  (∀ o, r = .ret o → ∀ v g' H' Hf' F', ST X.K X.w C H' Hf' d' g' (t ++ [(o, v)]) F' → Go H Hf F H' Hf' F' → Same is g g' → D.rt v H')
theorem DenB.pss {b : List Stmt} {bf : Ex} (h : DenB X C is b bf) : PSs X b (tB X C is bf) := by
  refine ⟨fun pins s g H D I hw => ?_⟩
  obtain ⟨Hf, d, t, F, r, d', S, q, k1, k2⟩ := hw
  refine thn (h.run pins s g H Hf d t F r d' I S q) fun f s' z => ?_
  cases r with
  | nx =>
    cases f with
    | next =>
      obtain ⟨g', H', Hf', F', I', S', go, sm⟩ := z
      exact ⟨g', H', I', k1 rfl g' H' Hf' F' S' go sm⟩
    | _ => exact z.elim
  | ret o =>
    cases f with
    | ret u =>
      obtain ⟨v, g0, g', H', Hf', F', I', r', S', go, sm⟩ := z
      exact ⟨v, g0, H', I', r', k2 o rfl v g' H' Hf' F' S' go sm⟩
    | _ => exact z.elim
/-- the slots at a def's entry -/
def startE (n : Nat) (ds : List D) : PEnv := ds.map (fun x => some (.val x)) ++ List.replicate (n - ds.length) none
theorem start_st {K : PySem.W.Frag} {w : World} {H Hf : Hp} {N : List Str} {ds : List D} {vs : List V} (l : Le Hf H) (r : RpL K w C Hf ds vs) : ST K w C H Hf (startE N.length ds) (L2.start N vs) [] (fun _ => []) := by
  have hl := r.length
  refine ⟨?_, fun i o e => ?_, fun j o v e => by simp at e, fun _ _ _ => rfl, fun _ => List.nodup_nil, fun _ _ _ _ h => (by cases h), fun _ _ h => (by cases h), l⟩
  · unfold L2.start startE
    rw [List.length_append, List.length_append, List.length_map, List.length_map, List.length_replicate, List.length_replicate, hl]
  · unfold startE at e
    rcases Nat.lt_or_ge i ds.length with hi | hi
    · rw [List.getElem?_append_left (by simpa using hi), List.getElem?_map] at e
      obtain ⟨x, h1, h2⟩ := Option.map_eq_some_iff.mp e
      cases h2
      obtain ⟨v, hv, rv⟩ := r.get h1
      refine ⟨v, ?_, rfl, rv⟩
      unfold L2.start
      rw [List.getElem?_append_left (by rw [List.length_map, hl]; exact hi), List.getElem?_map, hv]
      rfl
    · rw [List.getElem?_append_right (by simpa using hi), List.getElem?_replicate] at e
      split at e <;> cases e
theorem go_al {K : PySem.W.Frag} {w : World} {H Hf H' Hf' : Hp} {d' : PEnv} {g' : L2.St} {o : O} {v : V} {F' : Fps} (S : ST K w C H' Hf' d' g' ([] ++ [(o, v)]) F') (go : Go H Hf (fun _ => []) H' Hf' F') : Al H Hf H' Hf' (F' d'.length) ∧ Or K w C H' Hf' o v (F' d'.length) := by
  refine ⟨⟨fun a u h => go.keep a u h fun i z => (by cases z), go.grow, fun a u h => ?_, S.le, fun a h => ?_, S.nd _, fun a h => S.fz _ a h⟩, S.tmp 0 o v rfl⟩
  · rcases go.new a u h with z | ⟨i, z⟩ | z
    · exact .inl z
    · cases z
    · exact .inr z
  · rcases go.foot _ a h with ⟨j, z⟩ | z
    · cases z
    · exact z
end
section
variable {P : Program} {w : World} {K : PySem.W.Frag} {mg : Str → Option Value} {base : Heap} {C : Str → Option Addr}
/-- what a def's body stands in -/
structure In (P : Program) (w : World) (K : PySem.W.Frag) (mg : Str → Option Value) (base : Heap) (k : Nat) (N : List Str) (sc : Scope) (X : Cx) : Prop where
  prog : X.prog = P
  w_ : X.w = w
  K_ : X.K = K
  mg_ : X.mg = mg
  base_ : X.base = base
  N_ : X.N = N
  sc_ : X.env.scope = sc
  calm : X.calm = true
  fn : X.fn = fun _ => true
  room : Room k X.A
theorem in_cx {CX : CXT} {k : Nat} {N : List Str} {qual : Str} {sc : Scope} {f : Addr} {cdv : Value} {A : Around} {outer : List Env} {s : Shared} {H : Hp} {E : XK} (hr : Room k (A.deeper (envOfC qual sc s.heap.objs.size f cdv))) :
    In P w K mg base k N sc (cxOf CX P w K mg base N qual sc f cdv A outer s H E).nox := ⟨rfl, rfl, rfl, rfl, rfl, rfl, rfl, rfl, rfl, hr⟩
/-- a def whose body is bf is fn -/
theorem fn_den {is : List Nat} {x qual : Str} {st : Stmt} {f : Addr} {fd : FuncData} {N ps : List Str} {k n : Nat} {bf : Ex} {fn : List D → Option O} (F : Fun K x qual st f fd) (S : FnScope N ps (defScope st)) (hn : ps.length = n)
    (hb : ∀ X, In P w K mg base k N (defScope st) X → PassesOwn (model X.prog X.w) X.A X.env X.xe → DenB X C is (defBody st) bf)
    (hf : ∀ ds o, ds.length = n → fn ds = some o → (∃ d', bf (startE N.length ds) = some (.ret o, d')) ∨ (o = .val .non ∧ ∃ d', bf (startE N.length ds) = some (.nx, d'))) :
    FnOk P w K mg base CX0 (k + 1) f fd ps (spV K w C n fn) := by
  refine F.ok S (fun vs H Q E h => ?_) fun cdv A outer s H vs Q E hr h => ?_
  · obtain ⟨Hf, ds, r, l, rp, hl, _⟩ := h
    rw [rp.length, hl, hn]
  · obtain ⟨Hf, ds, r, l, rp, hl, hq, kk⟩ := h
    have B := hb (cxOf CX0 P w K mg base N qual (defScope st) f cdv A outer s H E).nox (in_cx hr) PassesOwn.never
    refine ⟨_, B.pss, Hf, startE N.length ds, [], fun _ => [], ?_⟩
    have S0 : ST K w C H Hf (startE N.length ds) (L2.start N vs) [] (fun _ => []) := start_st l rp
    rcases hf ds r hl hq with ⟨d', e⟩ | ⟨e0, d', e⟩
    · refine ⟨.ret r, d', S0, e, fun z => (nomatch z), fun o z v g' H' Hf' F' S' go _ => ?_⟩
      cases z
      obtain ⟨a, ro⟩ := go_al S' go
      exact kk v H' Hf' _ a ro
    · subst e0
      refine ⟨.nx, d', S0, e, fun _ g' H' Hf' F' S' go _ => ?_, fun o z => (nomatch z)⟩
      obtain ⟨S2, go2⟩ := S'.pushV (x := .non) (v := .non) rfl
      obtain ⟨a, ro⟩ := go_al S2 (go.trans go2)
      exact kk .non H' Hf' _ a ro
end

/-! ### while -/
/-- at most n turns -/
def whileN (c : EvB) (b : Ex) : Nat → Ex
  | 0, _ => none
  | n + 1, d => (c d).bind fun p => if p.1 = true then (b p.2).bind fun q => match q.1 with
    | .nx => whileN c b n q.2
    | .ret o => some (.ret o, q.2)
    else some (.nx, p.2)
section
variable {X : Cx} {C : Str → Option Addr} {is : List Nat}
theorem denS_while {c : Expr} {body : List Stmt} {fc : EvB} {fb : Ex} {n : Nat} {pos : Pos} (hp : PassesOwn (model X.prog X.w) X.A X.env X.xe) (hc : DenT X C c fc) (hb : DenB X C is body fb) : DenS X C is (.While c body [] pos) (whileN fc fb n) := by
  refine ⟨fun pins s g H Hf d t F r d' I S q => ?_⟩
  refine wpAny_While (codeAny_whileLoop (fun m s' => ∃ g' H' Hf' e F', Inv X pins g' H' s' ∧ ST X.K X.w C H' Hf' e g' t F' ∧ Go H Hf F H' Hf' F' ∧ Same is g g' ∧ whileN fc fb m e = some (r, d')) ?_ n ⟨g, H, Hf, d, F, I, S, Go.refl, Same.rfl, q⟩)
  rintro m s1 ⟨g1, H1, Hf1, e, F1, I1, S1, go1, sm1, q1⟩
  cases m with
  | zero => cases q1
  | succ m =>
    obtain ⟨⟨b, d1⟩, q2, q3⟩ := Option.bind_eq_some_iff.mp q1
    refine wpAny_passesOwn hp (thn (hc.run pins s1 g1 H1 Hf1 e t F1 b d1 I1 S1 q2) fun y s2 ⟨ey, H2, Hf2, F2, I2, S2, go2⟩ => ?_)
    subst ey
    cases y with
    | false =>
      cases q3
      rw [if_neg Bool.false_ne_true]
      exact wpAny_execs_nil ⟨g1, H2, Hf2, F2, I2, S2, go1.trans go2, sm1⟩
    | true =>
      obtain ⟨⟨r1, d2⟩, q4, q5⟩ := Option.bind_eq_some_iff.mp q3
      rw [if_pos rfl]
      refine wpAny_passesOwn hp (thn (hb.run pins s2 g1 H2 Hf2 d1 t F2 r1 d2 I2 S2 q4) fun f s3 z => ?_)
      cases r1 with
      | nx =>
        cases f with
        | next =>
          obtain ⟨g3, H3, Hf3, F3, I3, S3, go3, sm3⟩ := z
          exact ⟨m, Nat.lt_succ_self m, g3, H3, Hf3, d2, F3, I3, S3, (go1.trans go2).trans go3, sm1.trans sm3, q5⟩
        | _ => exact z.elim
      | ret o =>
        cases q5
        cases f with
        | ret u =>
          obtain ⟨v, g0, g3, H3, Hf3, F3, I3, r3, S3, go3, sm3⟩ := z
          exact ⟨v, g0, g3, H3, Hf3, F3, I3, r3, S3, (go1.trans go2).trans go3, sm1.trans sm3⟩
        | _ => exact z.elim
end
end Pd
set_option maxHeartbeats 1000000
/-! Pd14: readings of what is evaluated; what is walked; for. -/
namespace Pd
open PySem L2 PyProof.Rows

section
variable (X : Cx) (C : Str → Option Addr)
def tE (f : Ev) : TE := fun g H Q => ∃ Hf d t F o d', ST X.K X.w C H Hf d g t F ∧ f d = some (o, d') ∧ ∀ v H' Hf' F', ST X.K X.w C H' Hf' d' g (t ++ [(o, v)]) F' → Go H Hf F H' Hf' F' → Q v H'
def tT (f : EvB) : TT := fun g H Q => ∃ Hf d t F b d', ST X.K X.w C H Hf d g t F ∧ f d = some (b, d') ∧ ∀ H' Hf' F', ST X.K X.w C H' Hf' d' g t F' → Go H Hf F H' Hf' F' → Q b H'
def tG (k : Tg) : TG := fun v g H Q => ∃ Hf d t F x d', ST X.K X.w C H Hf d g t F ∧ Rp X.K X.w C Hf x v ∧ bindT k x d = some d' ∧ ∀ g' F', ST X.K X.w C H Hf d' g' t F' → Go H Hf F H Hf F' → Same k.is g g' → Q g' H
def tA (ps : List Opn) : TA := fun g H Q => ∃ Hf d t F ta d', ST X.K X.w C H Hf d g t F ∧ goL ps d = some (ta, d') ∧ ∀ vs H' Hf' F', ST X.K X.w C H' Hf' d' g t F' → Go H Hf F H' Hf' F' → RpL X.K X.w C Hf' (O.ds ta) vs → Q vs H'
end
section
variable {X : Cx} {C : Str → Option Addr}
theorem Den.pe {e : Expr} {f : Ev} (h : Den X C e f) : PE X e (tE X C f) := ⟨fun pins s g H Q I ⟨Hf, d, t, F, o, d', S, q, k⟩ => thn (h.run pins s g H Hf d t F o d' I S q) fun u s1 ⟨v, H', Hf', F', I', r, S', go⟩ => ⟨v, H', I', r, k v H' Hf' F' S' go⟩⟩
theorem DenT.pt {e : Expr} {f : EvB} (h : DenT X C e f) : PT X e (tT X C f) := ⟨fun pins s g H Q I ⟨Hf, d, t, F, b, d', S, q, k⟩ => thn (h.run pins s g H Hf d t F b d' I S q) fun u s1 ⟨e, H', Hf', F', I', S', go⟩ => ⟨H', I', by rw [e]; exact k H' Hf' F' S' go⟩⟩
theorem DenG.pg {tg : Expr} {k : Tg} (h : DenG X C tg k) : PG X tg (tG X C k) := ⟨fun pins s g H v u Q I r ⟨Hf, d, t, F, x, d', S, rp, q, kk⟩ => thn (h.run pins s g H Hf d d' t F x v u I S rp r q) fun _ s1 ⟨g', H', F', I', e, S', go, sm⟩ => ⟨g', H, by rw [← e]; exact I', kk g' F' S' go sm⟩⟩
theorem DenA.pa {es : List Expr} {ps : List Opn} (hp : allEx ps = true) (h : DenA X C es ps) : PA X es (tA X C ps) := ⟨fun pos pins s g H Q I ⟨Hf, d, t, F, ta, d', S, q, k⟩ => thn (h.run pos pins s g H Hf d t F ta d' I S q) fun us s1 z => by
  obtain ⟨vs, H2, Hf2, F2, I2, rv, rp, S2, g2⟩ := drop_val hp q z
  exact ⟨vs, H2, I2, rv, k vs H2 Hf2 F2 S2 g2 rp⟩⟩

/-! ### what is walked -/
/-- the iterator gives these data, whatever else is done meanwhile -/
structure Wks (K : PySem.W.Frag) (w : World) (C : Str → Option Addr) (J : It) (ds : List D) (H0 : Hp) : Prop where
  go : ∀ (i : Nat) (x : D) (H Hf : Hp), ds[i]? = some x → Le H0 Hf → Le Hf H → J.go i H
  yld : ∀ (i : Nat) (x : D) (H Hf : Hp) (v : V) (H' : Hp), ds[i]? = some x → Le H0 Hf → Le Hf H → J.yld i H v H' → ∃ Hf', Al H Hf H' Hf' [] ∧ Rp K w C Hf' x v
  stop : ∀ (i : Nat) (H Hf : Hp), ds.length ≤ i → Le H0 Hf → Le Hf H → J.stop i H
abbrev EvI := PEnv → Option (List D × PEnv)
structure DenI (X : Cx) (C : Str → Option Addr) (tg e : Expr) (f : EvI) : Prop where
  run : ∀ (pins : List (Addr × Obj)) (s : Shared) (g : L2.St) (H Hf : Hp) (d : PEnv) (t : Tmp) (F : Fps) (ds : List D) (d' : PEnv), Inv X pins g H s → ST X.K X.w C H Hf d g t F → f d = some (ds, d') →
    wpAny (model X.prog X.w) X.A (eval e X.env) (fun v s1 => wpAny (model X.prog X.w) X.A (pyIter v) (PIE X pins g tg fun J H' => ∃ Hf' F', ST X.K X.w C H' Hf' d' g t F' ∧ Go H Hf F H' Hf' F' ∧ Wks X.K X.w C J ds Hf') X.xe s1) X.xe s
def tI (X : Cx) (C : Str → Option Addr) (f : EvI) : TI := fun g H R => ∃ Hf d t F ds d', ST X.K X.w C H Hf d g t F ∧ f d = some (ds, d') ∧ ∀ J H' Hf' F', ST X.K X.w C H' Hf' d' g t F' → Go H Hf F H' Hf' F' → Wks X.K X.w C J ds Hf' → R J H'
theorem DenI.pi {tg e : Expr} {f : EvI} (h : DenI X C tg e f) : PI X tg e (tI X C f) := ⟨fun pins s g H R I ⟨Hf, d, t, F, ds, d', S, q, k⟩ => thn (h.run pins s g H Hf d t F ds d' I S q) fun v s1 z => thn z fun itv s2 ⟨it, fp, tn, J, H', e, I', T, st, f, Hf', F', S', go, wk⟩ =>
  ⟨it, fp, tn, J, H', e, I', T, st, f, k J H' Hf' F' S' go wk⟩⟩

section
variable {K : PySem.W.Frag} {w : World} {H0 : Hp} {a : Addr}
theorem wks_list {ds : List D} {vs : List V} (h : ∀ Hf H, Le H0 Hf → Le Hf H → SqL K H a vs) (r : RpL K w C H0 ds vs) : Wks K w C (Itl K a) ds H0 := by
  refine ⟨fun i x H Hf q l1 l2 => ?_, fun i x H Hf v H' q l1 l2 y => ?_, fun i H Hf q l1 l2 => ⟨vs, h Hf H l1 l2, by rw [r.length]; exact q⟩⟩
  · obtain ⟨v, hv, _⟩ := r.get q
    exact ⟨vs, v, h Hf H l1 l2, hv⟩
  · obtain ⟨e, y⟩ := y
    subst e
    obtain ⟨v', hv, rv⟩ := r.get q
    have z := y vs (h Hf _ l1 l2)
    rw [hv] at z
    cases z
    exact ⟨Hf, Al.rfl l2, Rp.mono l1 _ _ rv⟩
theorem wks_tup {ds : List D} {vs : List V} (h : ∀ Hf H, Le H0 Hf → Le Hf H → SqT K H a vs) (r : RpL K w C H0 ds vs) : Wks K w C (Itt K a) ds H0 := by
  refine ⟨fun i x H Hf q l1 l2 => ?_, fun i x H Hf v H' q l1 l2 y => ?_, fun i H Hf q l1 l2 => ⟨vs, h Hf H l1 l2, by rw [r.length]; exact q⟩⟩
  · obtain ⟨v, hv, _⟩ := r.get q
    exact ⟨vs, v, h Hf H l1 l2, hv⟩
  · obtain ⟨e, y⟩ := y
    subst e
    obtain ⟨v', hv, rv⟩ := r.get q
    have z := y vs (h Hf _ l1 l2)
    rw [hv] at z
    cases z
    exact ⟨Hf, Al.rfl l2, Rp.mono l1 _ _ rv⟩
def intsC (lo c : Int) (n : Nat) : List D := (List.range n).map fun k => .int (lo + (k : Nat) * c)
def intsR (lo : Int) (n : Nat) : List D := (List.range n).map fun k => .int (lo + (k : Nat))
theorem wks_rangeC {lo c : Int} {n : Nat} : Wks K w C (Itc lo c n) (intsC lo c n) H0 := by
  have hl : (intsC lo c n).length = n := by simp [intsC]
  refine ⟨fun i x H Hf q l1 l2 => ?_, fun i x H Hf v H' q l1 l2 y => ?_, fun i H Hf q l1 l2 => by rw [hl] at q; exact q⟩
  · have z := (List.getElem?_eq_some_iff.mp q).1
    rw [hl] at z
    exact z
  · obtain ⟨e, y⟩ := y
    subst e y
    have z := (List.getElem?_eq_some_iff.mp q).1
    rw [hl] at z
    unfold intsC at q
    rw [List.getElem?_map, List.getElem?_range z] at q
    cases q
    exact ⟨Hf, Al.rfl l2, rfl⟩
theorem wks_range {lo : Int} {n : Nat} : Wks K w C (Itr lo n) (intsR lo n) H0 := by
  have hl : (intsR lo n).length = n := by simp [intsR]
  refine ⟨fun i x H Hf q l1 l2 => ?_, fun i x H Hf v H' q l1 l2 y => ?_, fun i H Hf q l1 l2 => by rw [hl] at q; exact q⟩
  · have z := (List.getElem?_eq_some_iff.mp q).1
    rw [hl] at z
    exact z
  · obtain ⟨e, y⟩ := y
    subst e y
    have z := (List.getElem?_eq_some_iff.mp q).1
    rw [hl] at z
    unfold intsR at q
    rw [List.getElem?_map, List.getElem?_range z] at q
    cases q
    exact ⟨Hf, Al.rfl l2, rfl⟩
def signsOf (x : Str) : List D := x.cps.toList.map fun c => .str ⟨#[c]⟩
theorem wks_str {x : Str} : Wks K w C (Its x) (signsOf x) H0 := by
  have hl : (signsOf x).length = x.cps.size := by simp [signsOf]
  refine ⟨fun i d H Hf q l1 l2 => ?_, fun i d H Hf v H' q l1 l2 y => ?_, fun i H Hf q l1 l2 => by rw [hl] at q; exact q⟩
  · have z := (List.getElem?_eq_some_iff.mp q).1
    rw [hl] at z
    exact z
  · obtain ⟨e, c, hc, y⟩ := y
    subst e y
    unfold signsOf at q
    rw [List.getElem?_map] at q
    obtain ⟨c', h1, h2⟩ := Option.map_eq_some_iff.mp q
    rw [Array.getElem?_toList] at h1
    rw [hc] at h1
    cases h1
    cases h2
    exact ⟨Hf, Al.rfl l2, rfl⟩
def intsOf (ns : List Int) : List D := ns.map .int
theorem rpL_ints : ∀ {ns : List Int}, RpL K w C H0 (intsOf ns) (ns.map V.int)
  | [] => rfl
  | _ :: _ => ⟨_, _, rfl, rfl, rpL_ints⟩
end

/-! ### a dict's keys -/
def Itk0 (a : Addr) (e : DE) : It := ⟨fun i H => H a = some (hoDic a e) ∧ i < e.2.length, fun i H v H' => H' = H ∧ ∃ en : Ent, e.2[i]? = some en ∧ v = en.1, fun i H => H a = some (hoDic a e) ∧ e.2.length ≤ i⟩
theorem Inv.dic {pins : List (Addr × Obj)} {g : L2.St} {H : Hp} {s : Shared} {a : Addr} {e : DE} (I : Inv X pins g H s) (h : H a = some (hoDic a e)) : dicPhi a e s.heap := (I.hok a _ h).1
theorem paired_len {α β : Type} {G : α → β → Prop} {l₁ : List α} {l₂ : List β} (h : Paired G l₁ l₂) : l₁.length = l₂.length := by
  induction h with
  | nil => rfl
  | cons _ _ ih => simp [ih]
theorem paired_get' {α β : Type} {G : α → β → Prop} {l₁ : List α} {l₂ : List β} (h : Paired G l₁ l₂) : ∀ {i : Nat} {b : β}, l₂[i]? = some b → ∃ a, l₁[i]? = some a ∧ G a b := by
  induction h with
  | nil => intro i a e; simp at e
  | @cons a b l₁ l₂ r t ih =>
    intro i b' e
    cases i with
    | zero =>
      simp only [List.getElem?_cons_zero, Option.some.injEq] at e
      subst e
      exact ⟨a, rfl, r⟩
    | succ j =>
      simp only [List.getElem?_cons_succ] at e ⊢
      exact ih e
theorem turn_keys0 {P : Program} {w : World} {K : PySem.W.Frag} {tg : Expr} {a : Addr} {e : DE} {es : Array DictEntry} {ep : Nat} (it : Addr) (hd : e.1.data = .dict es ep) (he : EntsR es.toList e.2) : Turn P w K tg (Itk0 a e) [it] it (fun i h => h.IsKeyIter it a i e.2.length ep) where
  mem := by simp
  obj := fun i h st b hb => by
    have e : b = it := by simpa using hb
    subst e
    obtain ⟨oi, e, c, dd⟩ := st
    exact ⟨oi, e, fun v z => by rw [dd] at z; cases z⟩
  keep := fun i h h' st k => st.at fun oi e => k it (by simp) oi e
  item := by
    intro X hP hw hK hc i pins s σ H E I hf st hg
    subst hP hw hK
    obtain ⟨ha, hi⟩ := hg
    obtain ⟨f0, f1, f2, f3, f4, f5⟩ := hf it (by simp)
    have p := Inv.dic I ha
    have hsz : es.size = e.2.length := by rw [paired_len he, Array.length_toList]
    obtain ⟨en, hen, r⟩ := paired_get (G := fun (x : Ent) (e : DictEntry) => EntR e x.1 x.2.1 x.2.2) he (List.getElem?_eq_getElem hi)
    rw [Array.getElem?_toList] at hen
    refine next_key_item st p.1 hd hsz hen fun h' st' sb => ?_
    have I1 : Inv X pins σ H { s with heap := h' } := I.turned (t' := s.toks) (fun b ob hb e => (sb.2 b hb).trans e) f0 f1 f3 f4 f5
    obtain ⟨oi, q, c, dd⟩ := id st'
    exact ⟨en.key, rfl, go_of (s := { s with heap := h' }) q c dd (by decide) ⟨e.2[i].1, H, I1, r.key, ⟨rfl, e.2[i], List.getElem?_eq_getElem hi, rfl⟩, st', fun b hb => (hf b hb).1⟩⟩
  done := by
    intro X hP hw hK hc i pins s σ H E I hf st hg
    subst hP hw hK
    obtain ⟨ha, hi⟩ := hg
    obtain ⟨f0, f1, f2, f3, f4, f5⟩ := hf it (by simp)
    have p := Inv.dic I ha
    have hsz : es.size = e.2.length := by rw [paired_len he, Array.length_toList]
    exact next_key_end (I.ok.hd hc) st p.1 hd hsz hi fun h' eb => ⟨rfl, I.turned (t' := s.toks) (fun b ob hb e => eb b ob hb e) f0 f1 f3 f4 f5⟩
  self := fun A i s Q E st h => by
    refine wpAny_pyIter_slot st.typeIs F.slot_dict_keyiterator_iter (wpAny_call_entry F.slot_dict_keyiterator_iter st.typeIs F.entry_dict_keyiterator_iter ?_ (F.args_dict_keyiterator_iter_1 _))
    show wpAny _ _ (ret (.ref it)) _ _ s
    exact wpAny_pure ⟨_, rfl, "dict_keyiterator", _, st.typeIs, F.slot_dict_keyiterator_next.lookup, h⟩
theorem rpD_get {K : PySem.W.Frag} {w : World} {H : Hp} : ∀ {kvs : List (D × D)} {es : List Ent}, RpD K w C H kvs es → ∀ {i : Nat} {p : D × D}, kvs[i]? = some p → ∃ en : Ent, es[i]? = some en ∧ Rp K w C H p.1 en.1 ∧ Rp K w C H p.2 en.2.2 ∧ en.2.1 = p.1.hash w
  | [], _, _, i, p, h => by simp at h
  | (k, d) :: r, _, ⟨a, v, us, e, rk, rv, rs⟩, 0, p, h => by
    cases h
    exact ⟨_, by rw [e]; rfl, rk, rv, rfl⟩
  | (k, d) :: r, _, ⟨a, v, us, e, rk, rv, rs⟩, i + 1, p, h => by
    obtain ⟨en, h1, h2⟩ := rpD_get rs (i := i) (by simpa using h)
    exact ⟨en, by rw [e]; simpa using h1, h2⟩
theorem rpD_length {K : PySem.W.Frag} {w : World} {H : Hp} : ∀ {kvs : List (D × D)} {es : List Ent}, RpD K w C H kvs es → es.length = kvs.length
  | [], _, h => by
    have e : _ = ([] : List Ent) := h
    rw [e]; rfl
  | (k, d) :: r, _, ⟨a, v, us, e, rk, rv, rs⟩ => by rw [e, List.length_cons, List.length_cons, rpD_length rs]
def keysOf (kvs : List (D × D)) : List D := kvs.map (·.1)
theorem wks_keys {K : PySem.W.Frag} {w : World} {H0 : Hp} {a : Addr} {kvs : List (D × D)} {e : DE} (h : H0 a = some (hoDic a e)) (r : RpD K w C H0 kvs e.2) : Wks K w C (Itk0 a e) (keysOf kvs) H0 := by
  have hl : (keysOf kvs).length = e.2.length := by rw [rpD_length r]; simp [keysOf]
  refine ⟨fun i x H Hf q l1 l2 => ?_, fun i x H Hf v H' q l1 l2 y => ?_, fun i H Hf q l1 l2 => ⟨l2 _ _ (l1 _ _ h), by rw [hl] at q; exact q⟩⟩
  · exact ⟨l2 _ _ (l1 _ _ h), by rw [← hl]; exact (List.getElem?_eq_some_iff.mp q).1⟩
  · obtain ⟨e1, en, h1, h2⟩ := y
    subst e1 h2
    unfold keysOf at q
    rw [List.getElem?_map] at q
    obtain ⟨p, h3, h4⟩ := Option.map_eq_some_iff.mp q
    obtain ⟨en', z1, z2, _⟩ := rpD_get r h3
    rw [h1] at z1
    cases z1
    subst h4
    exact ⟨Hf, Al.rfl l2, Rp.mono l1 _ _ z2⟩

/-! ### what an expression's value gives when walked -/
def D.items : D → Option (List D)
  | .lst xs => some xs
  | .tup xs => some xs
  | .scr ns => some (intsOf ns)
  | .str x => some (signsOf x)
  | .dic kvs => some (keysOf kvs)
  | _ => none
def evIt (f : Ev) : EvI := fun d => (f d).bind fun p => p.1.d.items.bind fun ds => some (ds, p.2)
theorem den_iter {tg e : Expr} {f : Ev} (h : Den X C e f) : DenI X C tg e (evIt f) := by
  refine ⟨fun pins s g H Hf d t F ds d' I S q => ?_⟩
  obtain ⟨⟨o, d1⟩, q1, q⟩ := Option.bind_eq_some_iff.mp q
  obtain ⟨ds1, q2, q⟩ := Option.bind_eq_some_iff.mp q
  cases q
  have q2 : o.d.items = some ds := q2
  have base : ∀ {R : V → Hp → Prop}, (∀ v H' Hf' F', ST X.K X.w C H' Hf' d1 g t F' → Go H Hf F H' Hf' F' → Rp X.K X.w C Hf' o.d v → R v H') → tE X C f g H R := fun {R} k =>
    ⟨Hf, d, t, F, o, d1, S, q1, fun v H' Hf' F' S' go => by
      obtain ⟨Hf2, S2, g2, rp⟩ := S'.freezeTop
      obtain ⟨S3, g3⟩ := S2.pop
      exact k v H' Hf2 _ S3 ((go.trans g2).trans g3) rp⟩
  match ho : o.d, q2 with
  | .lst xs, q2 =>
    cases q2
    refine (pi_list h.pe).run pins s g H _ I (base fun v H' Hf' F' S' go rp => ?_)
    rw [ho] at rp
    obtain ⟨a, vs, e1, h1, r1⟩ := rp
    exact ⟨a, e1, ⟨vs, .inl (.inl (S'.le _ _ h1))⟩, Hf', F', S', go, wks_list (fun Hf H l1 l2 => .inl (.inl (l2 _ _ (l1 _ _ h1)))) r1⟩
  | .tup xs, q2 =>
    cases q2
    refine (pi_tup h.pe).run pins s g H _ I (base fun v H' Hf' F' S' go rp => ?_)
    rw [ho] at rp
    obtain ⟨a, vs, e1, h1, r1⟩ := rp
    exact ⟨a, e1, ⟨vs, S'.le.sqT h1⟩, Hf', F', S', go, wks_tup (fun Hf H l1 l2 => l2.sqT (l1.sqT h1)) r1⟩
  | .scr ns, q2 =>
    cases q2
    refine (pi_list h.pe).run pins s g H _ I (base fun v H' Hf' F' S' go rp => ?_)
    rw [ho] at rp
    obtain ⟨a, e1, h1⟩ := rp
    exact ⟨a, e1, ⟨_, S'.le.sqL h1⟩, Hf', F', S', go, wks_list (fun Hf H l1 l2 => l2.sqL (l1.sqL h1)) rpL_ints⟩
  | .str x, q2 =>
    cases q2
    refine (pi_str h.pe).run pins s g H _ I (base fun v H' Hf' F' S' go rp => ?_)
    rw [ho] at rp
    exact ⟨x, rp, Hf', F', S', go, wks_str⟩
  | .dic kvs, q2 =>
    cases q2
    refine thn (h.pe.run pins s g H _ I (base fun v H' Hf' F' S' go rp => (show (∃ Hf' F', ST X.K X.w C H' Hf' d1 g t F' ∧ Go H Hf F H' Hf' F' ∧ Rp X.K X.w C Hf' o.d v) from ⟨Hf', F', S', go, rp⟩))) fun u s1 ⟨v, H1, I1, rv, Hf', F', S', go, rp⟩ => ?_
    rw [ho] at rp
    obtain ⟨a, e, e1, ok, h1, r1⟩ := rp
    subst e1
    obtain rfl : u = Value.ref a := rv
    obtain ⟨p1, p2, p3, p4, es, ep, p5, p6⟩ := Inv.dic I1 (S'.le _ _ h1)
    refine iter_keys p2 p1 p4 p5 (pi_one (tk := s1.toks) I1 _ (turn_keys0 _ p5 p6) ⟨_, Heap.get?_push_size _ rfl, rfl, ?_⟩ ⟨Hf', F', S', go, wks_keys h1 r1⟩)
    have hsz : es.size = e.2.length := by rw [paired_len p6, Array.length_toList]
    rw [hsz] <;> rfl
end
end Pd
set_option maxHeartbeats 1000000
/-! Pd15: ranges, enumerate; for. -/
namespace Pd
open PySem L2 PyProof.Rows
section
variable {K : PySem.W.Frag} {w : World} {C : Str → Option Addr} {H H' Hf Hf' : Hp} {d : PEnv} {g : L2.St} {t : Tmp} {F : Fps}
theorem ST.grow (S : ST K w C H Hf d g t F) (al : Al H Hf H' Hf' []) : ∃ F', ST K w C H' Hf' d g t F' ∧ Go H Hf F H' Hf' F' := by
  obtain ⟨S1, g1⟩ := S.push (o := .val .non) (v := .non) al.lH al.lF al.nw al.l' al.fr al.nd al.fz ⟨rfl, rfl⟩
  obtain ⟨S2, g2⟩ := S1.pop
  exact ⟨_, S2, g1.trans g2⟩
end
section
variable {X : Cx} {C : Str → Option Addr}
/-! ### range -/
def smallI (i : Int) : Bool := decide (-(2 ^ 62) ≤ i) && decide (i < 2 ^ 62)
theorem smallI_iff {i : Int} (h : smallI i = true) : -(2 ^ 62) ≤ i ∧ i < 2 ^ 62 := by
  unfold smallI at h
  simpa using h
def rng1 : List D → Option (List D)
  | [a] => a.asInt.bind fun j => if smallI j then some (intsR 0 j.toNat) else none
  | _ => none
def rng2 : List D → Option (List D)
  | [a, b] => a.asInt.bind fun i => b.asInt.bind fun j => if smallI i && smallI j then some (intsR i (j - i).toNat) else none
  | _ => none
def rng3 : List D → Option (List D)
  | [a, b, c] => a.asInt.bind fun i => b.asInt.bind fun j => c.asInt.bind fun k => if decide (k ≠ 0) && decide (k.natAbs < 1073741824) && Builtin.Range.small i j k && decide (0 ≤ Builtin.Range.rangeSize i j k) then some (intsC i k (Builtin.Range.rangeSize i j k).toNat) else none
  | _ => none
def evSrc (r : List D → Option (List D)) (ps : List Opn) : EvI := fun d => (goL ps d).bind fun a => (r (O.ds a.1)).bind fun ds => some (ds, a.2)
theorem evSrc_inv {r : List D → Option (List D)} {ps : List Opn} {d d' : PEnv} {ds : List D} (h : evSrc r ps d = some (ds, d')) : ∃ ta, goL ps d = some (ta, d') ∧ r (O.ds ta) = some ds := by
  obtain ⟨⟨ta, d1⟩, h1, h⟩ := Option.bind_eq_some_iff.mp h
  obtain ⟨ds1, h2, h⟩ := Option.bind_eq_some_iff.mp h
  cases h
  exact ⟨ta, h1, h2⟩
theorem rp_ints {K : PySem.W.Frag} {w : World} {H : Hp} {a : D} {ds : List D} {vs : List V} {i : Int} (h : a.asInt = some i) (r : RpL K w C H (a :: ds) vs) : ∃ us, vs = .int i :: us ∧ RpL K w C H ds us := by
  have z := asInt_eq h
  subst z
  obtain ⟨v, us, e, rv, rs⟩ := r
  have e2 : v = .int i := rv
  exact ⟨us, by rw [e, e2], rs⟩
theorem rp_nil {K : PySem.W.Frag} {w : World} {H : Hp} {vs : List V} (r : RpL K w C H [] vs) : vs = [] := r
theorem den_range1 {tg a : Expr} {ps : List Opn} {p pos : Pos} (hg : Gl X "range") (hm : X.mg "range" = none) (hp : allEx ps = true) (ha : DenA X C [a] ps) (hs : starEach [a] X.env = [(false, eval a X.env)]) : DenI X C tg (.Call (.Name "range" p) [a] [] pos) (evSrc rng1 ps) := by
  refine ⟨fun pins s g H Hf d t F ds d' I S q => ?_⟩
  obtain ⟨ta, h1, h2⟩ := evSrc_inv q
  refine (pi_range1 (ta := tA X C ps) hg hm (ha.pa hp) hs).run pins s g H _ I ⟨Hf, d, t, F, ta, d', S, h1, fun vs H' Hf' F' S' go rp => ?_⟩
  match O.ds ta, h2, rp with
  | [x], h2, rp =>
    obtain ⟨j, hj, h2⟩ := Option.bind_eq_some_iff.mp h2
    split at h2
    · rename_i hz
      cases h2
      obtain ⟨z1, z2⟩ := smallI_iff hz
      obtain ⟨us, e, r⟩ := rp_ints hj rp
      exact ⟨j, by rw [e, rp_nil r], z1, z2, Hf', F', S', go, wks_range⟩
    · cases h2
theorem den_range2 {tg a b : Expr} {ps : List Opn} {p pos : Pos} (hg : Gl X "range") (hm : X.mg "range" = none) (hp : allEx ps = true) (ha : DenA X C [a, b] ps) (hs : starEach [a, b] X.env = [(false, eval a X.env), (false, eval b X.env)]) (hs2 : starEach [b] X.env = [(false, eval b X.env)]) :
    DenI X C tg (.Call (.Name "range" p) [a, b] [] pos) (evSrc rng2 ps) := by
  refine ⟨fun pins s g H Hf d t F ds d' I S q => ?_⟩
  obtain ⟨ta, h1, h2⟩ := evSrc_inv q
  refine (pi_range2 (ta := tA X C ps) hg hm (ha.pa hp) hs hs2).run pins s g H _ I ⟨Hf, d, t, F, ta, d', S, h1, fun vs H' Hf' F' S' go rp => ?_⟩
  match O.ds ta, h2, rp with
  | [x, y], h2, rp =>
    obtain ⟨i, hi, h2⟩ := Option.bind_eq_some_iff.mp h2
    obtain ⟨j, hj, h2⟩ := Option.bind_eq_some_iff.mp h2
    split at h2
    · rename_i hz
      cases h2
      rw [Bool.and_eq_true] at hz
      obtain ⟨z1, z2⟩ := smallI_iff hz.1
      obtain ⟨z3, z4⟩ := smallI_iff hz.2
      obtain ⟨us, e, r⟩ := rp_ints hi rp
      obtain ⟨us2, e2, r2⟩ := rp_ints hj r
      exact ⟨i, j, by rw [e, e2, rp_nil r2], ⟨z1, z2, z3, z4⟩, Hf', F', S', go, wks_range⟩
    · cases h2
theorem den_range3 {tg a b c : Expr} {ps : List Opn} {p pos : Pos} (hg : Gl X "range") (hm : X.mg "range" = none) (hp : allEx ps = true) (ha : DenA X C [a, b, c] ps)
    (hs : starEach [a, b, c] X.env = (false, eval a X.env) :: starEach [b, c] X.env) (hpl : (backTo pos (starEach [b, c] X.env)).any (·.1) = false) :
    DenI X C tg (.Call (.Name "range" p) [a, b, c] [] pos) (evSrc rng3 ps) := by
  refine ⟨fun pins s g H Hf d t F ds d' I S q => ?_⟩
  obtain ⟨ta, h1, h2⟩ := evSrc_inv q
  refine (pi_range3 (ta := tA X C ps) hg hm (ha.pa hp) hs hpl).run pins s g H _ I ⟨Hf, d, t, F, ta, d', S, h1, fun vs H' Hf' F' S' go rp => ?_⟩
  match O.ds ta, h2, rp with
  | [x, y, z], h2, rp =>
    obtain ⟨i, hi, h2⟩ := Option.bind_eq_some_iff.mp h2
    obtain ⟨j, hj, h2⟩ := Option.bind_eq_some_iff.mp h2
    obtain ⟨k, hk, h2⟩ := Option.bind_eq_some_iff.mp h2
    split at h2
    · rename_i hz
      cases h2
      simp only [Bool.and_eq_true, decide_eq_true_eq] at hz
      obtain ⟨⟨⟨z1, z2⟩, z3⟩, z4⟩ := hz
      obtain ⟨us, e, r⟩ := rp_ints hi rp
      obtain ⟨us2, e2, r2⟩ := rp_ints hj r
      obtain ⟨us3, e3, r3⟩ := rp_ints hk r2
      exact ⟨i, j, k, _, by rw [e, e2, e3, rp_nil r3], ⟨z1, z2, z3, (Int.toNat_of_nonneg z4).symm⟩, Hf', F', S', go, wks_rangeC⟩
    · cases h2

/-! ### enumerate -/
def pairsOf (i : Nat) : List D → List D
  | [] => []
  | x :: xs => .tup [.int (i : Nat), x] :: pairsOf (i + 1) xs
theorem pairs_get : ∀ {xs : List D} {n i : Nat}, (pairsOf n xs)[i]? = (xs[i]?).map fun x => D.tup [.int ((n + i : Nat) : Nat), x]
  | [], _, _ => rfl
  | x :: xs, n, 0 => rfl
  | x :: xs, n, i + 1 => by
    have e := pairs_get (xs := xs) (n := n + 1) (i := i)
    have e2 : n + 1 + i = n + (i + 1) := by omega
    rw [e2] at e
    simpa [pairsOf] using e
theorem pairs_length : ∀ {xs : List D} {n : Nat}, (pairsOf n xs).length = xs.length
  | [], _ => rfl
  | x :: xs, n => by
    show (pairsOf (n + 1) xs).length + 1 = _
    rw [pairs_length, List.length_cons]
def enumOf : List D → Option (List D)
  | [a] => a.asLst.bind fun xs => some (pairsOf 0 xs)
  | _ => none
theorem wks_enum {K : PySem.W.Frag} {w : World} {H0 : Hp} {a : Addr} {xs : List D} {vs : List V} (h : ∀ Hf H, Le H0 Hf → Le Hf H → SqL K H a vs) (r : RpL K w C H0 xs vs) : Wks K w C (Ite K a) (pairsOf 0 xs) H0 := by
  refine ⟨fun i x H Hf q l1 l2 => ?_, fun i x H Hf v H' q l1 l2 y => ?_, fun i H Hf q l1 l2 => ⟨vs, h Hf H l1 l2, by rw [r.length]; rw [pairs_length] at q; exact q⟩⟩
  · rw [pairs_get] at q
    obtain ⟨x', hx, _⟩ := Option.map_eq_some_iff.mp q
    obtain ⟨v, hv, _⟩ := r.get hx
    exact ⟨vs, v, h Hf H l1 l2, hv⟩
  · obtain ⟨T, z, e1, e2, e3, y⟩ := y
    subst e1 e3
    rw [pairs_get] at q
    obtain ⟨x', hx, e4⟩ := Option.map_eq_some_iff.mp q
    subst e4
    obtain ⟨v, hv, rv⟩ := r.get hx
    have z1 := y vs (h Hf H l1 l2)
    rw [hv] at z1
    cases z1
    have al : Al H Hf (upd H T (.tup [.int (i : Nat), z])) (upd Hf T (.tup [.int (i : Nat), z])) [] := Al.frz l2 e2
    refine ⟨_, al, T, [.int (i : Nat), z], rfl, .inl (.inl upd_same), .int (i : Nat), [z], rfl, ?_, z, [], rfl, Rp.mono (l1.trans al.lF) _ _ rv, rfl⟩
    show V.int _ = V.int _
    simp
theorem den_enum {a : Expr} {ps : List Opn} {elts : List Expr} {kk : Nat} {tpos p pos : Pos} (hg : Gl X "enumerate") (hm : X.mg "enumerate" = none) (hp : allEx ps = true) (ha : DenA X C [a] ps) (hs : starEach [a] X.env = [(false, eval a X.env)]) :
    DenI X C (.Tuple elts kk tpos) (.Call (.Name "enumerate" p) [a] [] pos) (evSrc enumOf ps) := by
  refine ⟨fun pins s g H Hf d t F ds d' I S q => ?_⟩
  obtain ⟨ta, h1, h2⟩ := evSrc_inv q
  refine (pi_enum (ta := tA X C ps) hg hm (ha.pa hp) hs).run pins s g H _ I ⟨Hf, d, t, F, ta, d', S, h1, fun vs H' Hf' F' S' go rp => ?_⟩
  match O.ds ta, h2, rp with
  | [x], h2, rp =>
    obtain ⟨xs, hx, h2⟩ := Option.bind_eq_some_iff.mp h2
    cases h2
    have z := asLst_eq hx
    subst z
    obtain ⟨v, us, e, ⟨a, vs', e1, e2, rv⟩, rs⟩ := rp
    have e0 : us = [] := rs
    exact ⟨a, vs', by rw [e, e0, e1], .inl (.inl (S'.le _ _ e2)), Hf', F', S', go, wks_enum (fun Hf H l1 l2 => .inl (.inl (l2 _ _ (l1 _ _ e2)))) rv⟩

/-! ### for -/
def forL (k : Tg) (b : Ex) : List D → Ex
  | [], d => some (.nx, d)
  | x :: xs, d => (bindT k x d).bind fun d1 => (b d1).bind fun p => match p.1 with
    | .nx => forL k b xs p.2
    | .ret o => some (.ret o, p.2)
def xFor (f : EvI) (k : Tg) (b : Ex) : Ex := fun d => (f d).bind fun p => forL k b p.1 p.2
theorem denS_for {is : List Nat} {tg iter : Expr} {body : List Stmt} {f : EvI} {k : Tg} {fb : Ex} {pos : Pos} (hp : PassesOwn (model X.prog X.w) X.A X.env X.xe) (hc : X.calm = true) (hi : DenI X C tg iter f) (hg : DenG X C tg k) (hb : DenB X C is body fb)
    (hs : ∀ x, foldedSetIterable iter X.env x = pure x) (hwr : ∀ i, i ∈ k.is → i ∈ is) : DenS X C is (.For tg iter body [] pos) (xFor f k fb) := by
  refine ⟨fun pins s g H Hf d t F r d' I S q => ?_⟩
  obtain ⟨⟨ds, d1⟩, q1, q2⟩ := Option.bind_eq_some_iff.mp q
  let E : Ends := { nx := fun g' H' => r = .nx ∧ ∃ Hf' F', ST X.K X.w C H' Hf' d' g' t F' ∧ Go H Hf F H' Hf' F' ∧ Same is g g', rt := fun v H' => ∃ o, r = .ret o ∧ ∃ g' Hf' F', ST X.K X.w C H' Hf' d' g' (t ++ [(o, v)]) F' ∧ Go H Hf F H' Hf' F' ∧ Same is g g', bk := fun _ _ => False, ct := fun _ _ => False }
  refine thn ((ps_for (pos := pos) hp hc hi.pi hg.pg hb.pss hs).run pins s g H E I ⟨Hf, d, t, F, ds, d1, S, q1, fun J H1 Hf1 F1 S1 go1 wk => ?_⟩) fun f s' z => ?_
  · refine ⟨fun i m g2 H2 => ∃ Hf2 d2 F2, ST X.K X.w C H2 Hf2 d2 g2 t F2 ∧ Go H Hf F H2 Hf2 F2 ∧ Same is g g2 ∧ Le Hf1 Hf2 ∧ m = ds.length - i ∧ forL k fb (ds.drop i) d2 = some (r, d'), ⟨ds.length, Hf1, d1, F1, S1, go1, Same.rfl, Le.rfl, by simp, q2⟩, ?_⟩
    rintro i m g2 H2 ⟨Hf2, d2, F2, S2, go2, sm2, l2, em, q3⟩
    by_cases hi : i < ds.length
    · have hx : ds[i]? = some ds[i] := List.getElem?_eq_getElem hi
      rw [List.drop_eq_getElem_cons hi] at q3
      obtain ⟨d3, q4, q5⟩ := Option.bind_eq_some_iff.mp q3
      obtain ⟨⟨r1, d4⟩, q6, q7⟩ := Option.bind_eq_some_iff.mp q5
      refine .inr ⟨wk.go i _ H2 Hf2 hx l2 S2.le, fun g' H' => r1 = .nx ∧ ∃ Hf2 F2, ST X.K X.w C H' Hf2 d4 g' t F2 ∧ Go H Hf F H' Hf2 F2 ∧ Same is g g' ∧ Le Hf1 Hf2, fun g' H' ⟨e, Hf5, F5, S5, go5, sm5, l5⟩ => ?_, fun v H3 y => ?_⟩
      · subst e
        exact ⟨ds.length - (i + 1), by omega, Hf5, d4, F5, S5, go5, sm5, l5, rfl, q7⟩
      · obtain ⟨Hf3, al, rp⟩ := wk.yld i _ H2 Hf2 v H3 hx l2 S2.le y
        obtain ⟨F3, S3, go3⟩ := S2.grow al
        refine ⟨Hf3, d2, t, F3, ds[i], d3, S3, rp, q4, fun g4 F4 S4 go4 sm => ?_⟩
        have go24 := (go2.trans go3).trans go4
        have sm4 := sm2.trans (sm.sub hwr)
        refine ⟨Hf3, d3, t, F4, r1, d4, S4, q6, fun e g5 H5 Hf5 F5 S5 go5 sm5 => ⟨e, Hf5, F5, S5, go24.trans go5, sm4.trans sm5, l2.trans (al.lF.trans go5.grow)⟩, fun o e v5 g5 H5 Hf5 F5 S5 go5 sm5 => ?_⟩
        subst e
        cases q7
        exact ⟨o, rfl, g5, Hf5, F5, S5, go24.trans go5, sm4.trans sm5⟩
    · rw [List.drop_eq_nil_of_le (by omega)] at q3
      cases q3
      exact .inl ⟨wk.stop i H2 Hf2 (by omega) l2 S2.le, rfl, Hf2, F2, S2, go2, sm2⟩
  · cases f with
    | next =>
      obtain ⟨g', H', I', e, Hf', F', S', go, sm⟩ := z
      subst e
      exact ⟨g', H', Hf', F', I', S', go, sm⟩
    | ret u =>
      obtain ⟨v, g0, H', I', rv, o, e, g', Hf', F', S', go, sm⟩ := z
      subst e
      exact ⟨v, g0, g', H', Hf', F', I', rv, S', go, sm⟩
    | brk =>
      obtain ⟨_, _, _, z⟩ := z
      exact z.elim
    | cont =>
      obtain ⟨_, _, _, z⟩ := z
      exact z.elim
end
end Pd
set_option maxHeartbeats 1000000
/-! Pd16: list comprehensions. -/
namespace Pd
open PySem L2 PyProof.Rows

/-- d with what d0 has at vs -/
def over {α : Type} (d0 : List (Option α)) : List Nat → List (Option α) → List (Option α)
  | [], d => d
  | v :: vs, d => (over d0 vs d).set v (d0.getD v none)
theorem over_length {α : Type} {d0 d : List (Option α)} : ∀ {vs : List Nat}, (over d0 vs d).length = d.length
  | [] => rfl
  | v :: vs => by
    show ((over d0 vs d).set v _).length = _
    rw [List.length_set, over_length]
theorem over_out {α : Type} {d0 d : List (Option α)} {i : Nat} : ∀ {vs : List Nat}, i ∉ vs → (over d0 vs d)[i]? = d[i]?
  | [], _ => rfl
  | v :: vs, h => by
    show ((over d0 vs d).set v _)[i]? = _
    rw [List.getElem?_set_ne fun e => h (by rw [e]; exact List.mem_cons_self)]
    exact over_out fun z => h (List.mem_cons_of_mem _ z)
theorem over_in {α : Type} {d0 d : List (Option α)} {i : Nat} : ∀ {vs : List Nat}, i ∈ vs → i < d.length → (over d0 vs d)[i]? = some (d0.getD i none)
  | v :: vs, h, hl => by
    show ((over d0 vs d).set v _)[i]? = _
    by_cases e : v = i
    · subst e
      rw [List.getElem?_set_self (by rw [over_length]; exact hl)]
    · rw [List.getElem?_set_ne e]
      rcases List.mem_cons.mp h with z | z
      · exact absurd z.symm e
      · exact over_in z hl
theorem wipe_in {σ : L2.St} {i : Nat} : ∀ {vs : List Nat}, i ∈ vs → i < σ.length → (wipe σ vs)[i]? = some none
  | v :: vs, h, hl => by
    show ((wipe σ vs).set v none)[i]? = _
    by_cases e : v = i
    · subst e
      rw [List.getElem?_set_self (by rw [wipe_length]; exact hl)]
    · rw [List.getElem?_set_ne e]
      rcases List.mem_cons.mp h with z | z
      · exact absurd z.symm e
      · exact wipe_in z hl
theorem same_wipe {σ τ : L2.St} {vs is : List Nat} (h : Same is (wipe σ vs) τ) (hv : ∀ i, i ∈ is → i ∈ vs) : wipe τ vs = wipe σ vs := by
  have hl : τ.length = σ.length := h.1.trans (wipe_length _ _)
  refine List.ext_getElem? fun i => ?_
  by_cases hi : i ∈ vs
  · by_cases hl' : i < σ.length
    · rw [wipe_in hi hl', wipe_in hi (by omega)]
    · rw [List.getElem?_eq_none (by rw [wipe_length]; omega), List.getElem?_eq_none (by rw [wipe_length]; omega)]
  · rw [wipe_out hi, h.2 i fun z => hi (hv i z)]

section
variable {K : PySem.W.Frag} {w : World} {C : Str → Option Addr} {H H' Hf Hf' : Hp} {d d2 : PEnv} {g g2 : L2.St} {t : Tmp} {F : Fps}
/-- slots at vs get other values (data), or none -/
theorem ST.reslot (S : ST K w C H Hf d g t F) (vs : List Nat) (hl : d2.length = d.length) (hg : g2.length = g.length) (same : ∀ (i : Nat), i ∉ vs → d2[i]? = d[i]? ∧ g2[i]? = g[i]?)
    (own : ∀ (i : Nat) (o : O), i ∈ vs → d2[i]? = some (some o) → ∃ x v, o = .val x ∧ g2[i]? = some (some v) ∧ Rp K w C Hf x v) : ∃ F', ST K w C H Hf d2 g2 t F' ∧ Go H Hf F H Hf F' := by
  have look : ∀ i a, a ∈ (if i < d.length ∧ i ∈ vs then [] else F i) → a ∈ F i ∧ ¬(i < d.length ∧ i ∈ vs) := fun i a h => by
    split at h
    · cases h
    · rename_i z
      exact ⟨h, z⟩
  refine ⟨fun i => if i < d.length ∧ i ∈ vs then [] else F i, ⟨by rw [hg, hl]; exact S.len, fun i o e => ?_, fun j o v e => ?_, fun i h1 h2 => ?_, fun i => ?_, fun i j a hij ha hb => ?_, fun i a ha => ?_, S.le⟩, Go.sub fun i a h => ⟨i, (look i a h).1⟩⟩
  · have hi : i < d.length := by
      have z := (List.getElem?_eq_some_iff.mp e).1
      omega
    by_cases hv : i ∈ vs
    · obtain ⟨x, v, e1, e2, r⟩ := own i o hv e
      subst e1
      refine ⟨v, e2, ?_⟩
      try dsimp only
      rw [if_pos ⟨hi, hv⟩]
      exact ⟨rfl, r⟩
    · obtain ⟨q1, q2⟩ := same i hv
      rw [q1] at e
      obtain ⟨v, h1, h2⟩ := S.env i o e
      refine ⟨v, by rw [q2]; exact h1, ?_⟩
      try dsimp only
      rw [if_neg fun z => hv z.2]
      exact h2
  · try dsimp only
    rw [hl, if_neg fun z => by omega]
    exact S.tmp j o v e
  · try dsimp only
    split
    · rfl
    · rename_i z
      refine S.emp i (fun o q => ?_) fun j e => h2 j (by rw [hl]; exact e)
      have hi := (List.getElem?_eq_some_iff.mp q).1
      have hv : i ∉ vs := fun y => z ⟨hi, y⟩
      exact h1 o (by rw [(same i hv).1]; exact q)
  · try dsimp only
    split
    · exact List.nodup_nil
    · exact S.nd i
  · exact S.dj i j a hij (look i a ha).1 (look j a hb).1
  · exact S.fz i a (look i a ha).1
theorem ST.wiped (S : ST K w C H Hf d g t F) (vs : List Nat) : ∃ F', ST K w C H Hf (over [] vs d) (wipe g vs) t F' ∧ Go H Hf F H Hf F' := by
  refine S.reslot vs over_length (wipe_length _ _) (fun i hi => ⟨over_out hi, wipe_out hi⟩) fun i o hi e => ?_
  have hl := (List.getElem?_eq_some_iff.mp e).1
  rw [over_length] at hl
  rw [over_in hi hl] at e
  cases e
/-- the slots at vs are data or nothing -/
def saved (d : PEnv) (vs : List Nat) : Bool := vs.all fun i => match d.getD i none with
  | none => true
  | some (.val _) => true
  | _ => false
theorem saved_at {d : PEnv} {vs : List Nat} (h : saved d vs = true) {i : Nat} {o : O} (hi : i ∈ vs) (e : d.getD i none = some o) : ∃ x, o = .val x := by
  have z := List.all_eq_true.mp h i hi
  rw [e] at z
  cases o with
  | val x => exact ⟨x, rfl⟩
  | lst => cases z
  | dic => cases z
  | ins => cases z
theorem ST.restore {H0 Hf0 : Hp} {d0 : PEnv} {t0 : Tmp} {F0 : Fps} {vs : List Nat} (S0 : ST K w C H0 Hf0 d0 g t0 F0) (sv : saved d0 vs = true) (l : Le Hf0 Hf) (S : ST K w C H Hf d (wipe g vs) t F) : ∃ F', ST K w C H Hf (over d0 vs d) g t F' ∧ Go H Hf F H Hf F' := by
  refine S.reslot vs over_length (wipe_length _ _).symm (fun i hi => ⟨over_out hi, (wipe_out hi).symm⟩) fun i o hi e => ?_
  have hl := (List.getElem?_eq_some_iff.mp e).1
  rw [over_length] at hl
  rw [over_in hi hl] at e
  have e : d0.getD i none = some o := Option.some.inj e
  obtain ⟨x, e1⟩ := saved_at sv hi e
  subst e1
  obtain ⟨v, hv, _, r⟩ := S0.env i _ (getD_some e)
  exact ⟨x, v, rfl, hv, Rp.mono l _ _ r⟩
theorem vals_map : ∀ l : List D, O.vals (l.map O.val) = some l
  | [] => rfl
  | x :: l => by
    show (O.vals (l.map O.val)).bind _ = _
    rw [vals_map l]
    rfl
/-- the list that is being made -/
theorem ST.acc {ds : List D} {p : Addr} (S : ST K w C H Hf d g (t ++ [(O.ofL ds, .ref p)]) F) : ∃ vs, H p = some (.lst vs) ∧ RpL K w C Hf ds vs ∧ F (d.length + t.length) = [p] := by
  have r : Or K w C H Hf (O.ofL ds) (.ref p) (F (d.length + t.length)) := S.tmp t.length _ _ (by simp)
  obtain ⟨a, vs, f, e, e2, h, r⟩ := r
  cases e
  obtain ⟨z1, z2⟩ := OrL.vals (vals_map ds) r
  exact ⟨vs, h, z2, by rw [e2, z1]⟩
/-- .. one more -/
theorem ST.accOne {ds : List D} {p : Addr} {vs : List V} {o : O} {v : V} (S : ST K w C H Hf d g (t ++ [(O.ofL ds, .ref p)] ++ [(o, v)]) F) (hD : H p = some (.lst vs)) :
    ∃ Hf' F', ST K w C (upd H p (.lst (vs ++ [v]))) Hf' d g (t ++ [(O.ofL (ds ++ [o.d]), .ref p)]) F' ∧ Go H Hf F (upd H p (.lst (vs ++ [v]))) Hf' F' := by
  obtain ⟨Hf2, S2, g2, rp⟩ := S.freezeTop
  obtain ⟨S3, _⟩ := S2.pop
  obtain ⟨vs', h1, h2, h3⟩ := ST.acc S3
  rw [hD] at h1
  cases h1
  rw [uf_ne (by simp)] at h3
  obtain ⟨F4, S4, g4⟩ := S2.mutTop (H' := upd H p (.lst (vs ++ [v]))) (o' := O.ofL (ds ++ [o.d])) (f' := [p]) (fun a u q n => by
    rw [h3] at n
    rw [upd_ne (by simpa using n)]
    exact q) (by simp) (fun a ha => .inl (by rw [h3]; exact ha)) ⟨p, vs ++ [v], [], rfl, rfl, upd_same, orL_vals (h2.append ⟨v, [], rfl, rp, rfl⟩)⟩
  exact ⟨Hf2, F4, S4, g2.trans g4⟩
end

/-! ### [elt for target in iter if ..] -/
def cYes : EvB := fun d => some (true, d)
def compL (vs : List Nat) (k : Tg) (c : EvB) (e : Ev) : List D → PEnv → Option (List D × PEnv)
  | [], d => some ([], d)
  | x :: xs, d => (bindT k x d).bind fun d1 => (c d1).bind fun p => if p.1 = true then (e p.2).bind fun q => (compL vs k c e xs (over [] vs q.2)).bind fun z => some (q.1.d :: z.1, z.2) else compL vs k c e xs (over [] vs p.2)
def evLc (vs : List Nat) (f : EvI) (k : Tg) (c : EvB) (e : Ev) : Ev := fun d => (f d).bind fun p => if saved p.2 vs && decide (p.1.length ≤ 100000) then (compL vs k c e p.1 (over [] vs p.2)).bind fun z => some (O.ofL z.1, over p.2 vs z.2) else none
section
variable {X : Cx} {C : Str → Option Addr}
theorem pts_yes : PTs X [] (tT X C cYes) := ⟨fun pins s g H Q I ⟨Hf, d, t, F, b, d', S, q, k⟩ => wpAny_tests_nil (by
  cases q
  exact ⟨H, I, k H Hf F S Go.refl⟩)⟩
theorem tlc_ok {vs : List Nat} {f : EvI} {k : Tg} {c : EvB} {e : Ev} {g : L2.St} {H Hf : Hp} {d d1 de : PEnv} {t : Tmp} {F : Fps} {ds rs : List D} {Q : VK} (hk : ∀ i, i ∈ k.is → i ∈ vs) (S : ST X.K X.w C H Hf d g t F) (q1 : f d = some (ds, d1)) (sv : saved d1 vs = true) (hn : ds.length ≤ 100000)
    (q3 : compL vs k c e ds (over [] vs d1) = some (rs, de)) (kQ : ∀ v H' Hf' F', ST X.K X.w C H' Hf' (over d1 vs de) g (t ++ [(O.ofL rs, v)]) F' → Go H Hf F H' Hf' F' → Q v H') : tLc (tI X C f) (tG X C k) (tT X C c) (tE X C e) vs g H Q := by
  refine ⟨Hf, d, t, F, ds, d1, S, q1, fun J H1 Hf1 F1 S1 go1 wk => ?_⟩
  intro D hD
  refine ⟨fun i m H2 => ∃ Hf2 d2 F2 acc rest, ST X.K X.w C H2 Hf2 d2 (wipe g vs) (t ++ [(O.ofL acc, .ref D)]) F2 ∧ Go H Hf F H2 Hf2 F2 ∧ Le Hf1 Hf2 ∧ m = ds.length - i ∧ acc.length ≤ i ∧ compL vs k c e (ds.drop i) d2 = some (rest, de) ∧ acc ++ rest = rs, ?_, ?_⟩
  · obtain ⟨F2, S2, go2⟩ := S1.wiped vs
    have al : Al H1 Hf1 (upd H1 D (.lst [])) Hf1 [D] := Al.own S1.le hD
    obtain ⟨S3, go3⟩ := S2.push (o := O.ofL []) (v := .ref D) al.lH al.lF al.nw al.l' al.fr al.nd al.fz ⟨D, [], [], rfl, rfl, upd_same, rfl, rfl⟩
    exact ⟨ds.length, Hf1, _, _, [], rs, S3, (go1.trans go2).trans go3, Le.rfl, rfl, Nat.zero_le _, q3, rfl⟩
  · rintro i m H2 ⟨Hf2, d2, F2, acc, rest, S2, go2, l2, em, ha, q5, er⟩
    by_cases hi : i < ds.length
    · have hx : ds[i]? = some ds[i] := List.getElem?_eq_getElem hi
      rw [List.drop_eq_getElem_cons hi] at q5
      obtain ⟨d3, q6, q7⟩ := Option.bind_eq_some_iff.mp q5
      obtain ⟨⟨b, d4⟩, q8, q9⟩ := Option.bind_eq_some_iff.mp q7
      refine .inr ⟨wk.go i _ H2 Hf2 hx l2 S2.le, fun H' => ∃ Hf2 d2 F2 acc rest, ST X.K X.w C H' Hf2 d2 (wipe g vs) (t ++ [(O.ofL acc, .ref D)]) F2 ∧ Go H Hf F H' Hf2 F2 ∧ Le Hf1 Hf2 ∧ acc.length ≤ i + 1 ∧ compL vs k c e (ds.drop (i + 1)) d2 = some (rest, de) ∧ acc ++ rest = rs,
        fun H' ⟨Hf5, d5, F5, acc5, rest5, S5, go5, l5, ha5, q55, er5⟩ => ⟨ds.length - (i + 1), by omega, Hf5, d5, F5, acc5, rest5, S5, go5, l5, rfl, ha5, q55, er5⟩, fun v H3 y => ?_⟩
      obtain ⟨Hf3, al, rp⟩ := wk.yld i _ H2 Hf2 v H3 hx l2 S2.le y
      obtain ⟨F3, S3, go3⟩ := S2.grow al
      refine ⟨Hf3, d2, _, F3, ds[i], d3, S3, rp, q6, fun g4 F4 S4 go4 sm => ?_⟩
      have hw : wipe g4 vs = wipe g vs := same_wipe sm hk
      refine ⟨hw, Hf3, d3, _, F4, b, d4, S4, q8, fun H5 Hf5 F5 S5 go5 => ?_⟩
      have l5 : Le Hf1 Hf5 := l2.trans (al.lF.trans go5.grow)
      have go25 := ((go2.trans go3).trans go4).trans go5
      cases b with
      | false =>
        try dsimp only
        rw [if_neg Bool.false_ne_true]
        have q9 : compL vs k c e (ds.drop (i + 1)) (over [] vs d4) = some (rest, de) := q9
        obtain ⟨F6, S6, go6⟩ := S5.wiped vs
        rw [hw] at S6
        exact ⟨Hf5, _, F6, acc, rest, S6, go25.trans go6, l5, by omega, q9, er⟩
      | true =>
        try dsimp only
        rw [if_pos rfl]
        obtain ⟨⟨o6, d6⟩, q10, q11⟩ := Option.bind_eq_some_iff.mp q9
        obtain ⟨⟨rest', de'⟩, q12, q13⟩ := Option.bind_eq_some_iff.mp q11
        cases q13
        refine ⟨Hf5, d4, _, F5, o6, d6, S5, q10, fun v6 H6 Hf6 F6 S6 go6 => ?_⟩
        have hac : ∃ av, H6 D = some (.lst av) ∧ av.length = acc.length := by
          obtain ⟨Sp, _⟩ := S6.pop
          obtain ⟨av, h1, h2, _⟩ := ST.acc Sp
          exact ⟨av, h1, h2.length⟩
        obtain ⟨av, h1, h2⟩ := hac
        obtain ⟨Hf7, F7, S7, go7⟩ := S6.accOne h1
        obtain ⟨F8, S8, go8⟩ := S7.wiped vs
        rw [hw] at S8
        have e1 : (acc ++ [o6.d]) ++ rest' = rs := by rw [List.append_assoc]; exact er
        exact ⟨av, h1, by rw [h2]; exact Nat.lt_of_lt_of_le (Nat.lt_of_le_of_lt ha hi) (Nat.le_trans hn (by decide)), Hf7, _, F8, acc ++ [o6.d], rest', S8, ((go25.trans go6).trans go7).trans go8, (l5.trans go6.grow).trans go7.grow, by simp; omega, q12, e1⟩
    · rw [List.drop_eq_nil_of_le (by omega)] at q5
      cases q5
      have e1 : acc = rs := by simpa using er
      subst e1
      obtain ⟨F3, S3, go3⟩ := S1.restore sv l2 S2
      exact .inl ⟨wk.stop i H2 Hf2 (by omega) l2 S2.le, kQ _ H2 Hf2 F3 S3 (go2.trans go3)⟩
theorem evLc_inv {vs : List Nat} {f : EvI} {k : Tg} {c : EvB} {e : Ev} {d d' : PEnv} {o : O} (q : evLc vs f k c e d = some (o, d')) : ∃ ds d1 rs de, f d = some (ds, d1) ∧ saved d1 vs = true ∧ ds.length ≤ 100000 ∧ compL vs k c e ds (over [] vs d1) = some (rs, de) ∧ o = O.ofL rs ∧ d' = over d1 vs de := by
  obtain ⟨⟨ds, d1⟩, q1, q2⟩ := Option.bind_eq_some_iff.mp q
  split at q2
  · rename_i hz
    rw [Bool.and_eq_true, decide_eq_true_eq] at hz
    obtain ⟨⟨rs, de⟩, q3, q4⟩ := Option.bind_eq_some_iff.mp q2
    cases q4
    exact ⟨ds, d1, rs, de, q1, hz.1, hz.2, q3, rfl, rfl⟩
  · cases q2
theorem den_lc {elt tg iter : Expr} {ifs : List Expr} {scope : Scope} {own : List (Str × Nat)} {pos : Pos} {f : EvI} {k : Tg} {c : EvB} {e : Ev} (hc : X.calm = true) (hN : X.N.Nodup) (hi : DenI X C tg iter f) (ok : BlkOk X.N X.env.scope scope own)
    (hg : ∀ (s : Shared) (H : Hp) (a : Addr) (cl : List (Str × Addr)) (fp : List Addr), DenG (X.blk s H scope (compEnvC scope cl a X.env) fp) C tg k) (ht : ∀ (s : Shared) (H : Hp) (a : Addr) (cl : List (Str × Addr)) (fp : List Addr), PTs (X.blk s H scope (compEnvC scope cl a X.env) fp) ifs (tT X C c))
    (he : ∀ (s : Shared) (H : Hp) (a : Addr) (cl : List (Str × Addr)) (fp : List Addr), Den (X.blk s H scope (compEnvC scope cl a X.env) fp) C elt e) (hs : ∀ x, foldedSetIterable iter X.env x = pure x) (hk : ∀ i, i ∈ k.is → i ∈ own.map (·.2)) :
    Den X C (.ListComp elt [⟨tg, iter, ifs, 0⟩] scope pos) (evLc (own.map (·.2)) f k c e) := by
  refine ⟨fun pins s g H Hf d t F o d' I S q => ?_⟩
  obtain ⟨ds, d1, rs, de, q1, sv, hn, q3, e1, e2⟩ := evLc_inv q
  subst e1 e2
  exact thn ((pe_lc (X := X) (pos := pos) (g := tG X C k) (te := tE X C e) hc hN hi.pi ok (fun s H a cl fp => (hg s H a cl fp).pg) ht (fun s H a cl fp => (he s H a cl fp).pe) hs).run pins s g H
    (fun v H' => ∃ Hf' F', ST X.K X.w C H' Hf' (over d1 (own.map (·.2)) de) g (t ++ [(O.ofL rs, v)]) F' ∧ Go H Hf F H' Hf' F') I (tlc_ok hk S q1 sv hn q3 fun v H' Hf' F' S' go => ⟨Hf', F', S', go⟩)) fun u s' ⟨v, H', I', rv, Hf', F', S', go⟩ => ⟨v, H', Hf', F', I', rv, S', go⟩
/-- name = [..] on one line -/
theorem denS_setLc {is : List Nat} {i : Nat} {y : Str} {py : Pos} {elt tg iter : Expr} {ifs : List Expr} {scope : Scope} {own : List (Str × Nat)} {pos spos : Pos} {f : EvI} {k : Tg} {c : EvB} {e : Ev} (hc : X.calm = true) (hN : X.N.Nodup) (hy : X.N[i]? = some y) (hyl : X.env.scope.names.lookup y = some .local)
    (hsw : swapsWith (.ListComp elt [⟨tg, iter, ifs, 0⟩] scope pos) (some (.Name y py)) spos.line X.env = pure true) (hi : DenI X C tg iter f) (ok : BlkOk X.N X.env.scope scope own)
    (hg : ∀ (s : Shared) (H : Hp) (a : Addr) (cl : List (Str × Addr)) (fp : List Addr), DenG (X.blk s H scope (compEnvC scope cl a X.env) fp) C tg k) (ht : ∀ (s : Shared) (H : Hp) (a : Addr) (cl : List (Str × Addr)) (fp : List Addr), PTs (X.blk s H scope (compEnvC scope cl a X.env) fp) ifs (tT X C c))
    (he : ∀ (s : Shared) (H : Hp) (a : Addr) (cl : List (Str × Addr)) (fp : List Addr), Den (X.blk s H scope (compEnvC scope cl a X.env) fp) C elt e) (hs : ∀ x, foldedSetIterable iter X.env x = pure x) (hk : ∀ i, i ∈ k.is → i ∈ own.map (·.2)) (hwr : i ∈ is) :
    DenS X C is (.Assign [.Name y py] (.ListComp elt [⟨tg, iter, ifs, 0⟩] scope pos) spos) (xSet i (evLc (own.map (·.2)) f k c e)) := by
  refine ⟨fun pins s g H Hf d t F r d' I S q => ?_⟩
  obtain ⟨⟨o, d2⟩, q1, q2⟩ := Option.bind_eq_some_iff.mp q
  split at q2
  · rename_i hl
    cases q2
    obtain ⟨ds, d1, rs, de, q0, sv, hn, q3, e1, e2⟩ := evLc_inv q1
    subst e1 e2
    let E : Ends := { nx := fun g' H' => ∃ Hf' F', ST X.K X.w C H' Hf' ((over d1 (own.map (·.2)) de).set i (some (O.ofL rs))) g' t F' ∧ Go H Hf F H' Hf' F' ∧ Same is g g', rt := fun _ _ => False, bk := fun _ _ => False, ct := fun _ _ => False }
    refine thn ((ps_setLc (X := X) (spos := spos) (g := tG X C k) (te := tE X C e) hc hN hy hyl hsw hi.pi ok (fun s H a cl fp => (hg s H a cl fp).pg) ht (fun s H a cl fp => (he s H a cl fp).pe) hs).run pins s g H E I
      (show tLc (tI X C f) (tG X C k) (tT X C c) (tE X C e) (own.map (·.2)) g H (fun x H1 => gName i x g H1 E.nx) from tlc_ok hk S q0 sv hn q3 fun v H' Hf' F' S' go => ?_)) fun f s' z => ?_
    · obtain ⟨S2, g2⟩ := S'.store hl
      exact ⟨Hf', _, S2, go.trans g2, Same.setm hwr⟩
    · cases f with
      | next =>
        obtain ⟨g', H', I', Hf', F', S', go, sm⟩ := z
        exact ⟨g', H', Hf', F', I', S', go, sm⟩
      | ret u =>
        obtain ⟨_, _, _, _, _, z⟩ := z
        exact z.elim
      | brk =>
        obtain ⟨_, _, _, z⟩ := z
        exact z.elim
      | cont =>
        obtain ⟨_, _, _, z⟩ := z
        exact z.elim
  · cases q2
end
end Pd
set_option maxHeartbeats 1000000
/-! Pd17: list comprehensions of two clauses. -/
namespace Pd
open PySem L2 PyProof.Rows
theorem wipe_wipe {σ : L2.St} {vs is : List Nat} (hv : ∀ i, i ∈ is → i ∈ vs) : wipe (wipe σ is) vs = wipe σ vs := by
  refine List.ext_getElem? fun i => ?_
  by_cases hi : i ∈ vs
  · by_cases hl' : i < σ.length
    · rw [wipe_in hi hl', wipe_in hi (by rw [wipe_length]; exact hl')]
    · rw [List.getElem?_eq_none (by rw [wipe_length, wipe_length]; omega), List.getElem?_eq_none (by rw [wipe_length]; omega)]
  · rw [wipe_out hi, wipe_out hi, wipe_out fun z => hi (hv i z)]
def compL2 (vs vs1 : List Nat) (k : Tg) (c : EvB) (f1 : EvI) (k1 : Tg) (c1 : EvB) (e : Ev) : List D → PEnv → Option (List D × PEnv)
  | [], d => some ([], d)
  | x :: xs, d => (bindT k x d).bind fun d1 => (c d1).bind fun p => if p.1 = true then (f1 p.2).bind fun y => (compL vs1 k1 c1 e y.1 (over [] vs1 y.2)).bind fun r =>
      (compL2 vs vs1 k c f1 k1 c1 e xs (over [] vs r.2)).bind fun z => some (r.1 ++ z.1, z.2) else compL2 vs vs1 k c f1 k1 c1 e xs (over [] vs p.2)
def evLc2 (vs vs1 : List Nat) (f : EvI) (k : Tg) (c : EvB) (f1 : EvI) (k1 : Tg) (c1 : EvB) (e : Ev) : Ev := fun d => (f d).bind fun p => if saved p.2 vs then (compL2 vs vs1 k c f1 k1 c1 e p.1 (over [] vs p.2)).bind fun z => if z.1.length ≤ 100000 then some (O.ofL z.1, over p.2 vs z.2) else none else none
section
variable {X : Cx} {C : Str → Option Addr}
theorem tlc2_ok {vs vs1 : List Nat} {f f1 : EvI} {k k1 : Tg} {c c1 : EvB} {e : Ev} {g : L2.St} {H Hf : Hp} {d d1 de : PEnv} {t : Tmp} {F : Fps} {ds rs : List D} {Q : VK} (hv : ∀ i, i ∈ vs1 → i ∈ vs) (hk : ∀ i, i ∈ k.is → i ∈ vs) (hk1 : ∀ i, i ∈ k1.is → i ∈ vs1) (S : ST X.K X.w C H Hf d g t F) (q1 : f d = some (ds, d1)) (sv : saved d1 vs = true) (hn : rs.length ≤ 100000)
    (q3 : compL2 vs vs1 k c f1 k1 c1 e ds (over [] vs d1) = some (rs, de)) (kQ : ∀ v H' Hf' F', ST X.K X.w C H' Hf' (over d1 vs de) g (t ++ [(O.ofL rs, v)]) F' → Go H Hf F H' Hf' F' → Q v H') : tLc2 (tI X C f) (tG X C k) (tT X C c) (tI X C f1) (tG X C k1) (tT X C c1) (tE X C e) vs vs1 g H Q := by
  refine ⟨Hf, d, t, F, ds, d1, S, q1, fun J H1 Hf1 F1 S1 go1 wk => ?_⟩
  intro D hD
  refine ⟨fun i m H2 => ∃ Hf2 d2 F2 acc rest, ST X.K X.w C H2 Hf2 d2 (wipe g vs) (t ++ [(O.ofL acc, .ref D)]) F2 ∧ Go H Hf F H2 Hf2 F2 ∧ Le Hf1 Hf2 ∧ m = ds.length - i ∧ compL2 vs vs1 k c f1 k1 c1 e (ds.drop i) d2 = some (rest, de) ∧ acc ++ rest = rs, ?_, ?_⟩
  · obtain ⟨F2, S2, go2⟩ := S1.wiped vs
    have al : Al H1 Hf1 (upd H1 D (.lst [])) Hf1 [D] := Al.own S1.le hD
    obtain ⟨S3, go3⟩ := S2.push (o := O.ofL []) (v := .ref D) al.lH al.lF al.nw al.l' al.fr al.nd al.fz ⟨D, [], [], rfl, rfl, upd_same, rfl, rfl⟩
    exact ⟨ds.length, Hf1, _, _, [], rs, S3, (go1.trans go2).trans go3, Le.rfl, rfl, q3, rfl⟩
  · rintro i m H2 ⟨Hf2, d2, F2, acc, rest, S2, go2, l2, em, q5, er⟩
    by_cases hi : i < ds.length
    · have hx : ds[i]? = some ds[i] := List.getElem?_eq_getElem hi
      rw [List.drop_eq_getElem_cons hi] at q5
      obtain ⟨d3, q6, q7⟩ := Option.bind_eq_some_iff.mp q5
      obtain ⟨⟨b, d4⟩, q8, q9⟩ := Option.bind_eq_some_iff.mp q7
      refine .inr ⟨wk.go i _ H2 Hf2 hx l2 S2.le, fun H' => ∃ Hf2 d2 F2 acc rest, ST X.K X.w C H' Hf2 d2 (wipe g vs) (t ++ [(O.ofL acc, .ref D)]) F2 ∧ Go H Hf F H' Hf2 F2 ∧ Le Hf1 Hf2 ∧ compL2 vs vs1 k c f1 k1 c1 e (ds.drop (i + 1)) d2 = some (rest, de) ∧ acc ++ rest = rs,
        fun H' ⟨Hf5, d5, F5, acc5, rest5, S5, go5, l5, q55, er5⟩ => ⟨ds.length - (i + 1), by omega, Hf5, d5, F5, acc5, rest5, S5, go5, l5, rfl, q55, er5⟩, fun v H3 y => ?_⟩
      obtain ⟨Hf3, al, rp⟩ := wk.yld i _ H2 Hf2 v H3 hx l2 S2.le y
      obtain ⟨F3, S3, go3⟩ := S2.grow al
      refine ⟨Hf3, d2, _, F3, ds[i], d3, S3, rp, q6, fun g4 F4 S4 go4 sm => ?_⟩
      have hw : wipe g4 vs = wipe g vs := same_wipe sm hk
      refine ⟨hw, Hf3, d3, _, F4, b, d4, S4, q8, fun H5 Hf5 F5 S5 go5 => ?_⟩
      have l5 : Le Hf1 Hf5 := l2.trans (al.lF.trans go5.grow)
      have go25 := ((go2.trans go3).trans go4).trans go5
      cases b with
      | false =>
        try dsimp only
        rw [if_neg Bool.false_ne_true]
        have q9 : compL2 vs vs1 k c f1 k1 c1 e (ds.drop (i + 1)) (over [] vs d4) = some (rest, de) := q9
        obtain ⟨F6, S6, go6⟩ := S5.wiped vs
        rw [hw] at S6
        exact ⟨Hf5, _, F6, acc, rest, S6, go25.trans go6, l5, q9, er⟩
      | true =>
        try dsimp only
        rw [if_pos rfl]
        obtain ⟨⟨ys, d6⟩, q10, q11⟩ := Option.bind_eq_some_iff.mp q9
        obtain ⟨⟨r1, d7⟩, q12, q13⟩ := Option.bind_eq_some_iff.mp q11
        obtain ⟨⟨rest', de'⟩, q14, q15⟩ := Option.bind_eq_some_iff.mp q13
        cases q15
        have er : acc ++ (r1 ++ rest') = rs := er
        refine ⟨Hf5, d4, _, F5, ys, d6, S5, q10, fun J1 H6 Hf6 F6 S6 go6 wk1 => ?_⟩
        have l6 : Le Hf1 Hf6 := l5.trans go6.grow
        refine ⟨fun j n H7 => ∃ Hf7 d8 F7 acc1 rest1, ST X.K X.w C H7 Hf7 d8 (wipe g4 vs1) (t ++ [(O.ofL acc1, .ref D)]) F7 ∧ Go H Hf F H7 Hf7 F7 ∧ Le Hf6 Hf7 ∧ n = ys.length - j ∧ compL vs1 k1 c1 e (ys.drop j) d8 = some (rest1, d7) ∧ acc1 ++ rest1 = acc ++ r1, ?_, ?_⟩
        · obtain ⟨F7, S7, go7⟩ := S6.wiped vs1
          exact ⟨ys.length, Hf6, _, F7, acc, r1, S7, (go25.trans go6).trans go7, Le.rfl, rfl, q12, rfl⟩
        · rintro j n H7 ⟨Hf7, d8, F7, acc1, rest1, S7, go7, l7, em1, q16, er1⟩
          by_cases hj : j < ys.length
          · have hy : ys[j]? = some ys[j] := List.getElem?_eq_getElem hj
            rw [List.drop_eq_getElem_cons hj] at q16
            obtain ⟨d9, q17, q18⟩ := Option.bind_eq_some_iff.mp q16
            obtain ⟨⟨b1, d10⟩, q19, q20⟩ := Option.bind_eq_some_iff.mp q18
            refine .inr ⟨wk1.go j _ H7 Hf7 hy l7 S7.le, fun H' => ∃ Hf7 d8 F7 acc1 rest1, ST X.K X.w C H' Hf7 d8 (wipe g4 vs1) (t ++ [(O.ofL acc1, .ref D)]) F7 ∧ Go H Hf F H' Hf7 F7 ∧ Le Hf6 Hf7 ∧ compL vs1 k1 c1 e (ys.drop (j + 1)) d8 = some (rest1, d7) ∧ acc1 ++ rest1 = acc ++ r1,
              fun H' ⟨Hf5, d5, F5, acc5, rest5, S5, go5, l5, q55, er5⟩ => ⟨ys.length - (j + 1), by omega, Hf5, d5, F5, acc5, rest5, S5, go5, l5, rfl, q55, er5⟩, fun v8 H8 y8 => ?_⟩
            obtain ⟨Hf8, al8, rp8⟩ := wk1.yld j _ H7 Hf7 v8 H8 hy l7 S7.le y8
            obtain ⟨F8, S8, go8⟩ := S7.grow al8
            refine ⟨Hf8, d8, _, F8, ys[j], d9, S8, rp8, q17, fun g9 F9 S9 go9 sm9 => ?_⟩
            have hw9 : wipe g9 vs1 = wipe g4 vs1 := same_wipe sm9 hk1
            refine ⟨hw9, Hf8, d9, _, F9, b1, d10, S9, q19, fun H10 Hf10 F10 S10 go10 => ?_⟩
            have l10 : Le Hf6 Hf10 := l7.trans (al8.lF.trans go10.grow)
            have go710 := ((go7.trans go8).trans go9).trans go10
            cases b1 with
            | false =>
              try dsimp only
              rw [if_neg Bool.false_ne_true]
              have q20 : compL vs1 k1 c1 e (ys.drop (j + 1)) (over [] vs1 d10) = some (rest1, d7) := q20
              obtain ⟨F11, S11, go11⟩ := S10.wiped vs1
              rw [hw9] at S11
              exact ⟨Hf10, _, F11, acc1, rest1, S11, go710.trans go11, l10, q20, er1⟩
            | true =>
              try dsimp only
              rw [if_pos rfl]
              obtain ⟨⟨o11, d11⟩, q21, q22⟩ := Option.bind_eq_some_iff.mp q20
              obtain ⟨⟨rest2, d12⟩, q23, q24⟩ := Option.bind_eq_some_iff.mp q22
              cases q24
              have er1 : acc1 ++ (o11.d :: rest2) = acc ++ r1 := er1
              refine ⟨Hf10, d10, _, F10, o11, d11, S10, q21, fun v11 H11 Hf11 F11 S11 go11 => ?_⟩
              have hac : ∃ av, H11 D = some (.lst av) ∧ av.length = acc1.length := by
                obtain ⟨Sp, _⟩ := S11.pop
                obtain ⟨av, h1, h2, _⟩ := ST.acc Sp
                exact ⟨av, h1, h2.length⟩
              obtain ⟨av, h1, h2⟩ := hac
              obtain ⟨Hf12, F12, S12, go12⟩ := S11.accOne h1
              obtain ⟨F13, S13, go13⟩ := S12.wiped vs1
              rw [hw9] at S13
              have hlen : acc1.length + 1 ≤ rs.length := by
                have z1 := congrArg List.length er1
                have z2 := congrArg List.length er
                simp only [List.length_append, List.length_cons] at z1 z2
                omega
              exact ⟨av, h1, by rw [h2]; exact Nat.lt_of_lt_of_le (Nat.lt_of_succ_le (Nat.le_trans hlen hn)) (by decide), Hf12, _, F13, acc1 ++ [o11.d], rest2, S13, ((go710.trans go11).trans go12).trans go13, (l10.trans go11.grow).trans go12.grow, q23, by rw [List.append_assoc]; exact er1⟩
          · rw [List.drop_eq_nil_of_le (by omega)] at q16
            cases q16
            have e1 : acc1 = acc ++ r1 := by simpa using er1
            subst e1
            obtain ⟨F8, S8, go8⟩ := S7.wiped vs
            rw [wipe_wipe hv, hw] at S8
            exact .inl ⟨wk1.stop j H7 Hf7 (by omega) l7 S7.le, Hf7, _, F8, acc ++ r1, rest', S8, go7.trans go8, l6.trans l7, q14, by rw [List.append_assoc]; exact er⟩
    · rw [List.drop_eq_nil_of_le (by omega)] at q5
      cases q5
      have e1 : acc = rs := by simpa using er
      subst e1
      obtain ⟨F3, S3, go3⟩ := S1.restore sv l2 S2
      exact .inl ⟨wk.stop i H2 Hf2 (by omega) l2 S2.le, kQ _ H2 Hf2 F3 S3 (go2.trans go3)⟩
theorem evLc2_inv {vs vs1 : List Nat} {f f1 : EvI} {k k1 : Tg} {c c1 : EvB} {e : Ev} {d d' : PEnv} {o : O} (q : evLc2 vs vs1 f k c f1 k1 c1 e d = some (o, d')) : ∃ ds d1 rs de, f d = some (ds, d1) ∧ saved d1 vs = true ∧ rs.length ≤ 100000 ∧ compL2 vs vs1 k c f1 k1 c1 e ds (over [] vs d1) = some (rs, de) ∧ o = O.ofL rs ∧ d' = over d1 vs de := by
  obtain ⟨⟨ds, d1⟩, q1, q2⟩ := Option.bind_eq_some_iff.mp q
  split at q2
  · rename_i sv
    obtain ⟨⟨rs, de⟩, q3, q4⟩ := Option.bind_eq_some_iff.mp q2
    split at q4
    · rename_i hn
      cases q4
      exact ⟨ds, d1, rs, de, q1, sv, hn, q3, rfl, rfl⟩
    · cases q4
  · cases q2
theorem den_lc2 {elt tg iter tg1 iter1 : Expr} {ifs ifs1 : List Expr} {scope : Scope} {own : List (Str × Nat)} {vs1 : List Nat} {pos : Pos} {f f1 : EvI} {k k1 : Tg} {c c1 : EvB} {e : Ev} (hc : X.calm = true) (hN : X.N.Nodup) (hi : DenI X C tg iter f) (ok : BlkOk X.N X.env.scope scope own) (hv : ∀ i, i ∈ vs1 → i ∈ own.map (·.2))
    (hg : ∀ (s : Shared) (H : Hp) (a : Addr) (cl : List (Str × Addr)) (fp : List Addr), DenG (X.blk s H scope (compEnvC scope cl a X.env) fp) C tg k) (ht : ∀ (s : Shared) (H : Hp) (a : Addr) (cl : List (Str × Addr)) (fp : List Addr), PTs (X.blk s H scope (compEnvC scope cl a X.env) fp) ifs (tT X C c))
    (hi1 : ∀ (s : Shared) (H : Hp) (a : Addr) (cl : List (Str × Addr)) (fp : List Addr), DenI (X.blk s H scope (compEnvC scope cl a X.env) fp) C tg1 iter1 f1)
    (hg1 : ∀ (s : Shared) (H : Hp) (a : Addr) (cl : List (Str × Addr)) (fp : List Addr), DenG (X.blk s H scope (compEnvC scope cl a X.env) fp) C tg1 k1) (ht1 : ∀ (s : Shared) (H : Hp) (a : Addr) (cl : List (Str × Addr)) (fp : List Addr), PTs (X.blk s H scope (compEnvC scope cl a X.env) fp) ifs1 (tT X C c1))
    (he : ∀ (s : Shared) (H : Hp) (a : Addr) (cl : List (Str × Addr)) (fp : List Addr), Den (X.blk s H scope (compEnvC scope cl a X.env) fp) C elt e) (hs : ∀ x, foldedSetIterable iter X.env x = pure x) (hs1 : ∀ env x, foldedSetIterable iter1 env x = pure x)
    (hk : ∀ i, i ∈ k.is → i ∈ own.map (·.2)) (hk1 : ∀ i, i ∈ k1.is → i ∈ vs1) :
    Den X C (.ListComp elt [⟨tg, iter, ifs, 0⟩, ⟨tg1, iter1, ifs1, 0⟩] scope pos) (evLc2 (own.map (·.2)) vs1 f k c f1 k1 c1 e) := by
  refine ⟨fun pins s g H Hf d t F o d' I S q => ?_⟩
  obtain ⟨ds, d1, rs, de, q1, sv, hn, q3, e1, e2⟩ := evLc2_inv q
  subst e1 e2
  exact thn ((pe_lc2 (X := X) (pos := pos) (g := tG X C k) (g1 := tG X C k1) (wi1 := tI X C f1) (te := tE X C e) (vs1 := vs1) hc hN hi.pi ok hv (fun s H a cl fp => (hg s H a cl fp).pg) ht (fun s H a cl fp => (hi1 s H a cl fp).pi) (fun s H a cl fp => (hg1 s H a cl fp).pg) ht1 (fun s H a cl fp => (he s H a cl fp).pe) hs hs1).run pins s g H
    (fun v H' => ∃ Hf' F', ST X.K X.w C H' Hf' (over d1 (own.map (·.2)) de) g (t ++ [(O.ofL rs, v)]) F' ∧ Go H Hf F H' Hf' F') I (tlc2_ok hv hk hk1 S q1 sv hn q3 fun v H' Hf' F' S' go => ⟨Hf', F', S', go⟩)) fun u s' ⟨v, H', I', rv, Hf', F', S', go⟩ => ⟨v, H', Hf', F', I', rv, S', go⟩
theorem denS_setLc2 {is : List Nat} {elt tg iter tg1 iter1 : Expr} {ifs ifs1 : List Expr} {scope : Scope} {own : List (Str × Nat)} {vs1 : List Nat} {pos spos py : Pos} {i : Nat} {y : Str} {f f1 : EvI} {k k1 : Tg} {c c1 : EvB} {e : Ev} (hc : X.calm = true) (hN : X.N.Nodup) (hy : X.N[i]? = some y) (hyl : X.env.scope.names.lookup y = some .local) (hsw : swapsWith (.ListComp elt [⟨tg, iter, ifs, 0⟩, ⟨tg1, iter1, ifs1, 0⟩] scope pos) (some (.Name y py)) spos.line X.env = pure true) (hi : DenI X C tg iter f) (ok : BlkOk X.N X.env.scope scope own) (hv : ∀ i, i ∈ vs1 → i ∈ own.map (·.2))
    (hg : ∀ (s : Shared) (H : Hp) (a : Addr) (cl : List (Str × Addr)) (fp : List Addr), DenG (X.blk s H scope (compEnvC scope cl a X.env) fp) C tg k) (ht : ∀ (s : Shared) (H : Hp) (a : Addr) (cl : List (Str × Addr)) (fp : List Addr), PTs (X.blk s H scope (compEnvC scope cl a X.env) fp) ifs (tT X C c))
    (hi1 : ∀ (s : Shared) (H : Hp) (a : Addr) (cl : List (Str × Addr)) (fp : List Addr), DenI (X.blk s H scope (compEnvC scope cl a X.env) fp) C tg1 iter1 f1)
    (hg1 : ∀ (s : Shared) (H : Hp) (a : Addr) (cl : List (Str × Addr)) (fp : List Addr), DenG (X.blk s H scope (compEnvC scope cl a X.env) fp) C tg1 k1) (ht1 : ∀ (s : Shared) (H : Hp) (a : Addr) (cl : List (Str × Addr)) (fp : List Addr), PTs (X.blk s H scope (compEnvC scope cl a X.env) fp) ifs1 (tT X C c1))
    (he : ∀ (s : Shared) (H : Hp) (a : Addr) (cl : List (Str × Addr)) (fp : List Addr), Den (X.blk s H scope (compEnvC scope cl a X.env) fp) C elt e) (hs : ∀ x, foldedSetIterable iter X.env x = pure x) (hs1 : ∀ env x, foldedSetIterable iter1 env x = pure x)
    (hk : ∀ i, i ∈ k.is → i ∈ own.map (·.2)) (hk1 : ∀ i, i ∈ k1.is → i ∈ vs1) (hwr : i ∈ is) :
    DenS X C is (.Assign [.Name y py] (.ListComp elt [⟨tg, iter, ifs, 0⟩, ⟨tg1, iter1, ifs1, 0⟩] scope pos) spos) (xSet i (evLc2 (own.map (·.2)) vs1 f k c f1 k1 c1 e)) := by
  refine ⟨fun pins s g H Hf d t F r d' I S q => ?_⟩
  obtain ⟨⟨o, d2⟩, q1, q2⟩ := Option.bind_eq_some_iff.mp q
  split at q2
  · rename_i hl
    cases q2
    obtain ⟨ds, d1, rs, de, q0, sv, hn, q3, e1, e2⟩ := evLc2_inv q1
    subst e1 e2
    let E : Ends := { nx := fun g' H' => ∃ Hf' F', ST X.K X.w C H' Hf' ((over d1 (own.map (·.2)) de).set i (some (O.ofL rs))) g' t F' ∧ Go H Hf F H' Hf' F' ∧ Same is g g', rt := fun _ _ => False, bk := fun _ _ => False, ct := fun _ _ => False }
    refine thn ((ps_setLc2 (X := X) (spos := spos) (g := tG X C k) (g1 := tG X C k1) (wi1 := tI X C f1) (te := tE X C e) (vs1 := vs1) hc hN hy hyl hsw hi.pi ok hv (fun s H a cl fp => (hg s H a cl fp).pg) ht (fun s H a cl fp => (hi1 s H a cl fp).pi) (fun s H a cl fp => (hg1 s H a cl fp).pg) ht1 (fun s H a cl fp => (he s H a cl fp).pe) hs hs1).run pins s g H E I
      (show tLc2 (tI X C f) (tG X C k) (tT X C c) (tI X C f1) (tG X C k1) (tT X C c1) (tE X C e) (own.map (·.2)) vs1 g H (fun x H1 => gName i x g H1 E.nx) from tlc2_ok hv hk hk1 S q0 sv hn q3 fun v H' Hf' F' S' go => ?_)) fun f s' z => ?_
    · obtain ⟨S2, g2⟩ := S'.store hl
      exact ⟨Hf', _, S2, go.trans g2, Same.setm hwr⟩
    · cases f with
      | next =>
        obtain ⟨g', H', I', Hf', F', S', go, sm⟩ := z
        exact ⟨g', H', Hf', F', I', S', go, sm⟩
      | ret u =>
        obtain ⟨_, _, _, _, _, z⟩ := z
        exact z.elim
      | brk =>
        obtain ⟨_, _, _, z⟩ := z
        exact z.elim
      | cont =>
        obtain ⟨_, _, _, z⟩ := z
        exact z.elim
  · cases q2
end
end Pd
set_option maxHeartbeats 1000000
/-! Pd18: where a key stands in a dict whose keys are numbers, texts, None and tuples of such, mixed. -/
namespace Pd
open PySem L2 PyProof.Rows

/-- an entry of the key k -/
structure Ke (w : World) (h : Heap) (k : NestedKey) (e : DictEntry) : Prop where
  is : NestedIs h k e.key
  dp : k.depth ≤ 8
  hash : e.hash = k.hash w
theorem ke_get {w : World} {h : Heap} {ks : List NestedKey} {es : Array DictEntry} (hp : Paired (Ke w h) ks es.toList) {j : Nat} {k : NestedKey} (e : ks[j]? = some k) : ∃ en, es[j]? = some en ∧ Ke w h k en := by
  obtain ⟨en, h1, h2⟩ := L2.paired_get hp e
  exact ⟨en, by rw [← Array.getElem?_toList]; exact h1, h2⟩
theorem ke_back {w : World} {h : Heap} {ks : List NestedKey} {es : Array DictEntry} (hp : Paired (Ke w h) ks es.toList) {j : Nat} {en : DictEntry} (e : es[j]? = some en) : ∃ k, ks[j]? = some k ∧ Ke w h k en := paired_get' hp (by rw [Array.getElem?_toList]; exact e)
theorem beq_eq (a b : NestedKey) : NestedKey.beq a b = decide (a = b) := (NestedKey.decide_eq a b).symm
theorem uniq_at {ks : List NestedKey} (hn : ks.Nodup) {i j : Nat} {k : NestedKey} (h1 : ks[i]? = some k) (h2 : ks[j]? = some k) : i = j :=
  (List.getElem?_inj (List.getElem?_eq_some_iff.mp h1).1 hn).mp (h1.trans h2.symm)
section
variable {prog : Program} {w : World} {A : Around} {E : Value → Shared → Prop} {s : Shared}
theorem tells_n {key : Value} {k : NestedKey} {stored : List Value} {Q : Bool → Shared → Prop} (hkey : NestedIs s.heap k key) (hk : k.depth ≤ 8) (hst : ∀ v ∈ stored, ∃ k', NestedIs s.heap k' v ∧ k'.depth ≤ 8) (h : Q false s) :
    wpAny (model prog w) A (tableMayTell key stored) Q E s := by
  unfold tableMayTell
  split
  · exact wpAny_pure h
  · refine wpAny_bind (quiet_key k key 8 s hkey hk A E _ ?_)
    simp only [Bool.not_true, Bool.false_eq_true, if_false]
    refine wpAny_bind ?_
    refine wpAny_forIn_list _ (fun rest r t => t = s ∧ r = (none, ()) ∧ ∀ v ∈ rest, ∃ k', NestedIs s.heap k' v ∧ k'.depth ≤ 8) _ ?_ ?_ _ _ ⟨rfl, rfl, hst⟩
    · rintro x rest r t ⟨rfl, rfl, hr⟩
      obtain ⟨k', h1, h2⟩ := hr x List.mem_cons_self
      refine wpAny_bind (quiet_key k' x 8 t h1 h2 A E _ ?_)
      simp only [Bool.not_true, Bool.false_eq_true, if_false]
      exact wpAny_pure ⟨rfl, rfl, fun v hv => hr v (List.mem_cons_of_mem _ hv)⟩
    · rintro r t ⟨rfl, rfl, _⟩
      exact wpAny_pure h
/-- the places of a hash, from i on: the next one -/
theorem places_next {es : Array DictEntry} {ks : List NestedKey} {k : NestedKey} (hp : Paired (Ke w s.heap) ks es.toList) {i x : Nat} {rest : List Nat} (hi : i ≤ es.size) (hr : x :: rest = (List.range' i (es.size - i)).filter fun i => (es[i]?.map (·.hash)) == some (k.hash w)) :
    i ≤ x ∧ x < es.size ∧ (∃ e k', es[x]? = some e ∧ ks[x]? = some k' ∧ Ke w s.heap k' e ∧ (e.hash == k.hash w) = true) ∧ (∀ j, i ≤ j → j < x → ks[j]? ≠ some k) ∧ rest = (List.range' (x + 1) (es.size - (x + 1))).filter fun i => (es[i]?.map (·.hash)) == some (k.hash w) := by
  obtain ⟨h1, h2, h3, h4, h5⟩ := filter_range'_cons _ _ _ _ _ hr.symm
  have hlt : x < es.size := by omega
  have hx : es[x]? = some es[x] := Array.getElem?_eq_getElem hlt
  obtain ⟨k', hk, ke⟩ := ke_back hp hx
  rw [hx] at h3
  refine ⟨h1, hlt, ⟨es[x], k', hx, hk, ke, by simpa using h3⟩, fun j j1 j2 q => ?_, by rw [h5]; congr 2; omega⟩
  obtain ⟨en, e1, e2⟩ := ke_get hp q
  have z := h4 j j1 j2
  rw [e1] at z
  simp [e2.hash] at z
theorem places_end {es : Array DictEntry} {ks : List NestedKey} {k : NestedKey} (hp : Paired (Ke w s.heap) ks es.toList) {i : Nat} (hi : i ≤ es.size) (hr : ([] : List Nat) = (List.range' i (es.size - i)).filter fun i => (es[i]?.map (·.hash)) == some (k.hash w)) : ∀ j, i ≤ j → ks[j]? ≠ some k := by
  intro j h1 q
  obtain ⟨en, e1, e2⟩ := ke_get hp q
  have hl := (Array.getElem?_eq_some_iff.mp e1).1
  have z := List.filter_eq_nil_iff.mp hr.symm j (List.mem_range'_1.mpr ⟨h1, by omega⟩)
  rw [e1] at z
  simp [e2.hash] at z
/-- .. where all keys at hand are carried by value -/
theorem walk_n {d : Addr} {o : Obj} {es : Array DictEntry} {ep : Nat} {ks : List NestedKey} {k : NestedKey} {key : Value} {Q : Option Nat → Shared → Prop} (hu : A.units + 8 < cLine) (hkey : NestedIs s.heap k key) (hk8 : k.depth ≤ 8) (ho : s.heap.get? d = some o) (hd : o.data = .dict es ep)
    (hp : Paired (Ke w s.heap) ks es.toList) (hnone : (∀ j : Nat, ks[j]? ≠ some k) → Q none s) (hsome : ∀ j : Nat, ks[j]? = some k → Q (some j) s) :
    wpAny (model prog w) A (dictWalkPlain d key (k.hash w) es (placesWithHash es.size (fun i => es[i]?.map (·.hash)) (k.hash w))) Q E s := by
  unfold dictWalkPlain
  refine wpAny_bind ?_
  refine wpAny_forIn_list _ (fun rest b t => t = s ∧ b = (none, ()) ∧ ∃ i, rest = (List.range' i (es.size - i)).filter (fun i => (es[i]?.map (·.hash)) == some (k.hash w)) ∧ i ≤ es.size ∧ ∀ j, j < i → ks[j]? ≠ some k) _ ?_ ?_ _ _
    ⟨rfl, rfl, 0, by rw [placesWithHash, List.range_eq_range', Nat.sub_zero], Nat.zero_le _, fun _ h => absurd h (Nat.not_lt_zero _)⟩
  · rintro x rest b t ⟨rfl, rfl, i, hr, hi, hno⟩
    obtain ⟨h1, hlt, ⟨e, k', he, hk', ke, hh⟩, hsk, hrest⟩ := places_next hp hi hr
    rw [he]
    dsimp only
    rw [if_pos hh]
    refine wpAny_bind (wpAny_dictEpoch ho hd (wpAny_bind (eqAt_key k' k A t e.key key ke.is hkey (by have := ke.dp; omega) _ _ _ _ (wpAny_bind (wpAny_dictEpoch ho hd ?_)))))
    show wpAny _ _ (if (ep != ep) = true then _ else _) _ E _
    rw [if_neg (by simp), beq_eq]
    by_cases hkk : k' = k
    · rw [decide_eq_true hkk]
      subst hkk
      exact wpAny_bind (wpAny_rule (wpAny_pure (wpAny_pure (hsome x hk'))))
    · rw [decide_eq_false hkk]
      refine wpAny_bind (wpAny_rule (wpAny_pure ⟨rfl, rfl, x + 1, hrest, hlt, fun j hj q => ?_⟩))
      rcases Nat.lt_or_ge j i with z | z
      · exact hno j z q
      · rcases Nat.lt_or_ge j x with z2 | z2
        · exact hsk j z z2 q
        · have ej : j = x := by omega
          subst ej
          rw [hk'] at q
          exact hkk (Option.some.inj q)
  · rintro b t ⟨rfl, rfl, i, hr, hi, hno⟩
    have hend := places_end hp hi hr
    exact wpAny_pure (hnone fun j q => (Nat.lt_or_ge j i).elim (fun z => hno j z q) fun z => hend j z q)
theorem find_n {d : Addr} {o : Obj} {es : Array DictEntry} {ep : Nat} {ks : List NestedKey} {k : NestedKey} {key : Value} {Q : Option Nat → Shared → Prop} (hu : A.units + 8 < cLine) (hkey : NestedIs s.heap k key) (hk8 : k.depth ≤ 8) (ho : s.heap.get? d = some o) (hd : o.data = .dict es ep)
    (hp : Paired (Ke w s.heap) ks es.toList) (hn : ks.Nodup) (hnone : (∀ j : Nat, ks[j]? ≠ some k) → Q none s) (hsome : ∀ j : Nat, ks[j]? = some k → Q (some j) s) : wpAny (model prog w) A (dictFind d key (k.hash w)) Q E s := by
  have hst : ∀ v ∈ (placesWithHash es.size (fun i => es[i]?.map (·.hash)) (k.hash w)).filterMap (fun i => es[i]?.map (·.key)), ∃ k', NestedIs s.heap k' v ∧ k'.depth ≤ 8 := by
    intro v hv
    obtain ⟨i, _, hi⟩ := List.mem_filterMap.mp hv
    cases hei : es[i]? with
    | none => rw [hei] at hi; cases hi
    | some e =>
      rw [hei] at hi
      have ev : e.key = v := by simpa using hi
      obtain ⟨k', _, ke⟩ := ke_back hp hei
      exact ⟨k', by rw [← ev]; exact ke.is, ke.dp⟩
  have hany : ¬ (es.any fun e => e.key == key && e.hash != k.hash w) = true := by
    rw [← Array.any_toList, List.any_eq_true]
    rintro ⟨e, hin, hc⟩
    obtain ⟨j, hj⟩ := List.mem_iff_getElem?.mp hin
    obtain ⟨k', _, ke⟩ := ke_back hp (by rw [← Array.getElem?_toList]; exact hj)
    simp only [Bool.and_eq_true, beq_iff_eq, bne_iff_ne, ne_eq] at hc
    have q := ke.is
    rw [hc.1] at q
    exact hc.2 (by rw [ke.hash, NestedIs.inj _ _ _ q hkey])
  have plain := walk_n (prog := prog) (E := E) (Q := Q) hu hkey hk8 ho hd hp hnone hsome
  have isStr : ∀ (x : Str) (t : Tok), key = .str x t → ∀ (j : Nat) (e : DictEntry), es[j]? = some e → e.key.isStr x = true → ks[j]? = some k := fun x t ek j e hj hx => by
    obtain ⟨k', h1, ke⟩ := ke_back hp hj
    have q := ke.is
    rw [ek] at hkey
    cases hkey
    cases hv : e.key with
    | str y u =>
      rw [hv] at q hx
      cases q
      have hx : (y == x) = true := hx
      rw [h1, eq_of_beq hx]
    | _ => rw [hv] at hx; cases hx
  have isStr' : ∀ (x : Str) (t : Tok), key = .str x t → ∀ (j : Nat), ks[j]? = some k → ∃ e, es[j]? = some e ∧ e.key.isStr x = true := fun x t ek j hj => by
    obtain ⟨e, h1, ke⟩ := ke_get hp hj
    refine ⟨e, h1, ?_⟩
    have q := ke.is
    rw [ek] at hkey
    cases hkey
    cases hv : e.key with
    | str y u =>
      rw [hv] at q
      cases q
      show (x == x) = true
      simp
    | _ => rw [hv] at q; cases q
  have byV : ∀ (x : Str) (t : Tok), key = .str x t → wpAny (model prog w) A (foundByValue d key es x) Q E s := fun x t ek => by
    unfold foundByValue
    cases hf : es.findIdx? (fun e => e.key.isStr x) with
    | none =>
      refine wpAny_pure (hnone fun j hj => ?_)
      obtain ⟨e, h1, h2⟩ := isStr' x t ek j hj
      have z := Array.findIdx?_eq_none_iff.mp hf e (Array.mem_of_getElem? h1)
      rw [h2] at z
      cases z
    | some i =>
      obtain ⟨hlt, hi, _⟩ := Array.findIdx?_eq_some_iff_getElem.mp hf
      have he : es[i]? = some es[i] := Array.getElem?_eq_getElem hlt
      have hj := isStr x t ek i _ he hi
      obtain ⟨e', h1, ke⟩ := ke_get hp hj
      rw [he] at h1
      cases h1
      dsimp only
      rw [he]
      dsimp only
      refine wpAny_bind (wpAny_dictEpoch ho hd (wpAny_bind (eqAt_key k k A s _ key ke.is hkey (by have := ke.dp; omega) _ _ _ _ (wpAny_bind (wpAny_dictEpoch ho hd ?_)))))
      show wpAny _ _ (if (ep != ep) = true then _ else _) _ E _
      rw [if_neg (by simp), NestedKey.beq_self]
      exact wpAny_bind (wpAny_rule (wpAny_pure (hsome i hj)))
  unfold dictFind
  try with_reducible refine wpAny_holding ?_
  refine wpAny_bind (wpAny_dictEntries ho hd ?_)
  cases hkv : key <;> dsimp only <;> rw [← hkv]
  case' str x t =>
    by_cases hs : (es.all fun e => isExactStrKey e.key) = true
    · rw [if_pos hs]
      exact byV x t hkv
    rw [if_neg hs]
  all_goals
    by_cases hall : ((key :: (placesWithHash es.size (fun i => es[i]?.map (·.hash)) (k.hash w)).filterMap fun i => es[i]?.map (·.key)).all carriedByValue) = true
    · rw [if_pos hall]
      exact plain
    rw [if_neg hall]
  all_goals try rw [if_neg hany]
  all_goals
    by_cases hone : (((placesWithHash es.size (fun i => es[i]?.map (·.hash)) (k.hash w)).filterMap (fun i => es[i]?.map (·.key))) == [key]) = true <;>
    (first | rw [if_pos hone] | rw [if_neg hone]) <;> (first | refine wpAny_bind (wpAny_pure ?_) | refine wpAny_bind (tells_n hkey hk8 hst ?_)) <;> (
      rw [if_neg (by simp)]
      refine wpAny_bind ?_
      refine wpAny_forIn_list _ (fun rest b t => t = s ∧ ∃ i hit, b = (none, hit) ∧ (rest = (List.range' i (es.size - i)).filter (fun i => (es[i]?.map (·.hash)) == some (k.hash w))) ∧ i ≤ es.size ∧
        ((hit = none ∧ ∀ j, j < i → ks[j]? ≠ some k) ∨ ∃ j, hit = some j ∧ j < i ∧ ks[j]? = some k)) _ ?_ ?_ _ _
        ⟨rfl, 0, none, rfl, by rw [placesWithHash, List.range_eq_range', Nat.sub_zero], Nat.zero_le _, .inl ⟨rfl, fun _ h => absurd h (Nat.not_lt_zero _)⟩⟩
      · rintro x rest b t ⟨rfl, i, hit, rfl, hr, hi, hH⟩
        obtain ⟨z1, hlt, ⟨e, k', he, hk', ke, hh⟩, hsk, hrest⟩ := places_next hp hi hr
        have stay : ∀ kk, (∀ j, i ≤ j → j < x → ks[j]? ≠ some kk) → ¬ k' = kk → ((hit = none ∧ ∀ j, j < i → ks[j]? ≠ some kk) ∨ ∃ j, hit = some j ∧ j < i ∧ ks[j]? = some kk) → (hit = none ∧ ∀ j, j < x + 1 → ks[j]? ≠ some kk) ∨ ∃ j, hit = some j ∧ j < x + 1 ∧ ks[j]? = some kk := fun kk hsk hkk hH => by
          rcases hH with ⟨h0, hno⟩ | ⟨j, q1, q2, q3⟩
          · refine .inl ⟨h0, fun j hj q => ?_⟩
            rcases Nat.lt_or_ge j i with z | z
            · exact hno j z q
            · rcases Nat.lt_or_ge j x with z2 | z2
              · exact hsk j z z2 q
              · have ej : j = x := by omega
                subst ej
                rw [hk'] at q
                exact hkk (Option.some.inj q)
          · exact .inr ⟨j, q1, by omega, q3⟩
        rw [he]
        dsimp only
        rw [if_pos hh]
        refine wpAny_bind (wpAny_dictEpoch ho hd (wpAny_bind (eqAt_key k' k A t e.key key ke.is hkey (by have := ke.dp; omega) _ _ _ _ (wpAny_bind (wpAny_dictEpoch ho hd ?_)))))
        show wpAny _ _ (if (ep != ep) = true then _ else _) _ E _
        rw [if_neg (by simp), beq_eq]
        by_cases hkk : k' = k
        · rw [decide_eq_true hkk]
          have hk' := hk'
          rw [hkk] at hk'
          rcases hH with ⟨rfl, _⟩ | ⟨j, _, q2, q3⟩
          · first | rw [if_pos rfl] | skip
            simp only [Option.isSome_none, Bool.false_eq_true, if_false]
            first | refine wpAny_bind (wpAny_pure ?_) | skip
            refine wpAny_bind (wpAny_rule ?_)
            split
            · exact wpAny_pure (wpAny_pure (hsome x hk'))
            · exact wpAny_pure ⟨rfl, x + 1, some x, rfl, hrest, hlt, .inr ⟨x, rfl, Nat.lt_succ_self x, hk'⟩⟩
          · exact absurd (uniq_at hn q3 hk') (by omega)
        · rw [decide_eq_false hkk]
          simp only [Bool.false_eq_true, if_false]
          refine wpAny_bind (wpAny_rule ?_)
          first | rw [if_neg (by simp)] | skip
          first
            | exact wpAny_pure ⟨rfl, x + 1, hit, rfl, hrest, hlt, stay k hsk hkk hH⟩
            | exact wpAny_bind (wpAny_pure (wpAny_pure ⟨rfl, x + 1, hit, rfl, hrest, hlt, stay k hsk hkk hH⟩))
      · rintro b t ⟨rfl, i, hit, rfl, hr, hi, hH⟩
        have hend := places_end hp hi hr
        rcases hH with ⟨rfl, hno⟩ | ⟨j, rfl, _, q⟩
        · exact wpAny_pure (hnone fun j q => (Nat.lt_or_ge j i).elim (fun z => hno j z q) fun z => hend j z q)
        · exact wpAny_pure (hsome j q))
end
end Pd
set_option maxHeartbeats 1000000
/-! Pd19: dicts by values. -/
namespace Pd
open PySem L2 PyProof.Rows
section
variable {X : Cx} {C : Str → Option Addr} {pins : List (Addr × Obj)} {g : L2.St} {H : Hp} {s : Shared}
/-! ### keys -/
mutual
theorem rp_nested (I : Inv X pins g H s) : ∀ (k : D) (n : Nat) (v : V) (u : Value), k.kOk n = true → Rp X.K X.w C H k v → RelV v u → NestedIs s.heap k.key u ∧ k.key.depth ≤ n
  | .non, _, _, _, _, e, r => by
    have e : _ = V.non := e
    subst e
    have r : _ = Value.none := r
    subst r
    exact ⟨.none, Nat.zero_le _⟩
  | .bl b, _, _, _, _, e, r => by
    have e : _ = V.bl b := e
    subst e
    have r : _ = Value.bool b := r
    subst r
    exact ⟨.bool rfl, Nat.zero_le _⟩
  | .int i, _, _, _, _, e, r => by
    have e : _ = V.int i := e
    subst e
    obtain ⟨t, r⟩ := r
    subst r
    exact ⟨.int _ _, Nat.zero_le _⟩
  | .str x, _, _, _, _, e, r => by
    have e : _ = V.str x := e
    subst e
    obtain ⟨t, r⟩ := r
    subst r
    exact ⟨.text _ _, Nat.zero_le _⟩
  | .tup xs, 0, _, _, h, _, _ => by cases h
  | .tup xs, n + 1, _, _, h, ⟨a, vs, e, hs, rs⟩, r => by
    subst e
    have r : _ = Value.ref a := r
    subst r
    obtain ⟨its, rv, ⟨o, ho, hc, n', hdt⟩, hz⟩ := I.tuple hs
    obtain ⟨z1, z2⟩ := rps_nested I xs n vs its (by simpa [D.kOk] using h) rs rv
    exact ⟨.tup ho hc hdt (by simpa using z1), by
      show NestedKey.depthAll _ + 1 ≤ n + 1
      omega⟩
  | .lst _, _, _, _, h, _, _ => by cases h
  | .dic _, _, _, _, h, _, _ => by cases h
  | .ins _ _, _, _, _, h, _, _ => by cases h
  | .scr _, _, _, _, h, _, _ => by cases h
  | .ty _, _, _, _, h, _, _ => by cases h
  | .glo _, _, _, _, h, _, _ => by cases h
theorem rps_nested (I : Inv X pins g H s) : ∀ (ks : List D) (n : Nat) (vs : List V) (us : List Value), D.kOks ks n = true → RpL X.K X.w C H ks vs → Vals vs us → NestedAll s.heap (D.keys ks) us ∧ NestedKey.depthAll (D.keys ks) ≤ n
  | [], _, _, _, _, e, r => by
    have e : _ = ([] : List V) := e
    subst e
    cases r
    exact ⟨.nil, Nat.zero_le _⟩
  | k :: ks, n, _, _, h, ⟨v, vs, e, rk, rs⟩, r => by
    subst e
    have h : (k.kOk n && D.kOks ks n) = true := h
    rw [Bool.and_eq_true] at h
    cases r with
    | cons q1 q2 =>
      obtain ⟨z1, z2⟩ := rp_nested I k n v _ h.1 rk q1
      obtain ⟨z3, z4⟩ := rps_nested I ks n vs _ h.2 rs q2
      refine ⟨.cons z1 z3, ?_⟩
      show max k.key.depth (NestedKey.depthAll (D.keys ks)) ≤ n
      omega
end
/-- the entries e stand for these keys -/
def RpK (X : Cx) (C : Str → Option Addr) (H : Hp) : List D → List Ent → Prop
  | [], es => es = []
  | k :: ks, es => ∃ a v us, es = (a, k.hash X.w, v) :: us ∧ Rp X.K X.w C H k a ∧ RpK X C H ks us
theorem RpD.k : ∀ {kvs : List (D × D)} {es : List Ent}, RpD X.K X.w C H kvs es → RpK X C H (kvs.map (·.1)) es
  | [], _, h => h
  | (k, d) :: r, _, ⟨a, v, us, e, rk, _, rs⟩ => ⟨a, v, us, e, rk, RpD.k rs⟩
theorem OrD.k {Hf : Hp} (l : Le Hf H) {H0 : Hp} : ∀ {kvs : List (D × O)} {es : List Ent} {f : List Addr}, OrD X.K X.w C H0 Hf kvs es f → RpK X C H (kvs.map (·.1)) es
  | [], _, _, ⟨h, _⟩ => h
  | (k, o) :: r, _, _, ⟨a, v, us, f, g, e, _, rk, _, rs⟩ => ⟨a, v, us, e, Rp.mono l _ _ rk, OrD.k l rs⟩
theorem RpK.mono {H' : Hp} (l : Le H H') : ∀ {ks : List D} {es : List Ent}, RpK X C H ks es → RpK X C H' ks es
  | [], _, h => h
  | k :: ks, _, ⟨a, v, us, e, rk, rs⟩ => ⟨a, v, us, e, Rp.mono l _ _ rk, RpK.mono l rs⟩
theorem RpK.length : ∀ {ks : List D} {es : List Ent}, RpK X C H ks es → es.length = ks.length
  | [], _, h => by
    have h : _ = ([] : List Ent) := h
    rw [h]; rfl
  | k :: ks, _, ⟨a, v, us, e, rk, rs⟩ => by rw [e, List.length_cons, List.length_cons, RpK.length rs]
theorem rpK_ke (I : Inv X pins g H s) : ∀ {ks : List D} {xs : List Ent} {es : List DictEntry}, (∀ k, k ∈ ks → k.kOk 8 = true) → RpK X C H ks xs → EntsR es xs → Paired (Ke X.w s.heap) (ks.map D.key) es
  | [], _, es, _, h, q => by
    have h : _ = ([] : List Ent) := h
    subst h
    cases q
    exact .nil
  | k :: ks, _, es, ok, ⟨a, v, us, e, rk, rs⟩, q => by
    subst e
    cases q with
    | cons q1 q2 =>
      obtain ⟨z1, z2⟩ := rp_nested I k 8 a _ (ok k List.mem_cons_self) rk q1.key
      exact .cons ⟨z1, z2, q1.hash⟩ (rpK_ke I (fun k' hk => ok k' (List.mem_cons_of_mem _ hk)) rs q2)
/-- where a key stands among keys -/
def kIdx (k : D) : List D → Option Nat
  | [] => none
  | x :: xs => if NestedKey.beq x.key k.key = true then some 0 else (kIdx k xs).map (· + 1)
theorem kIdx_none {k : D} : ∀ {xs : List D}, kIdx k xs = none → ∀ j : Nat, (xs.map D.key)[j]? ≠ some k.key
  | [], _, j, e => by simp at e
  | x :: xs, h, j, e => by
    unfold kIdx at h
    split at h
    · cases h
    · rename_i hn
      have h2 := Option.map_eq_none_iff.mp h
      cases j with
      | zero =>
        simp only [List.map_cons, List.getElem?_cons_zero, Option.some.injEq] at e
        exact hn (by rw [e]; exact NestedKey.beq_self _)
      | succ j => exact kIdx_none h2 j (by simpa using e)
theorem kIdx_some {k : D} : ∀ {xs : List D} {j : Nat}, kIdx k xs = some j → (xs.map D.key)[j]? = some k.key
  | [], _, h => by cases h
  | x :: xs, j, h => by
    unfold kIdx at h
    split at h
    · rename_i hn
      cases h
      simpa using NestedKey.eq_of_beq _ _ hn
    · obtain ⟨i, h1, h2⟩ := Option.map_eq_some_iff.mp h
      subst h2
      simpa using kIdx_some h1
/-- the place is found -/
theorem find_d {A : Around} {E : Value → Shared → Prop} {a : Addr} {e : DE} {ks : List D} {k : D} {y : V} {u : Value} {Q : Option Nat → Shared → Prop} (hu : A.units + 8 < cLine) (I : Inv X pins g H s) (hd : H a = some (hoDic a e)) (ok : KeysOk ks) (rk : RpK X C H ks e.2) (hk : k.kOk 8 = true) (ry : Rp X.K X.w C H k y) (ru : RelV y u)
    (q : Q (kIdx k ks) s) : wpAny (model X.prog X.w) A (dictFind a u (k.hash X.w)) Q E s := by
  obtain ⟨p1, p2, p3, p4, es, ep, p5, p6⟩ := Inv.dic I hd
  obtain ⟨z1, z2⟩ := rp_nested I k 8 y u hk ry ru
  refine find_n hu z1 z2 p1 p5 (rpK_ke I ok.ok rk p6) ok.nd (fun hn => ?_) fun j hj => ?_
  · cases hi : kIdx k ks with
    | none => rw [hi] at q; exact q
    | some j => exact absurd (kIdx_some hi) (hn j)
  · cases hi : kIdx k ks with
    | none => exact absurd hj (kIdx_none hi j)
    | some i =>
      have e := uniq_at ok.nd hj (kIdx_some hi)
      subst e
      rw [hi] at q
      exact q
/-- the hash of a key -/
theorem hash_d {A : Around} {E : Value → Shared → Prop} {k : D} {y : V} {u : Value} {Q : Int → Shared → Prop} (hu : A.units + 8 < cLine) (I : Inv X pins g H s) (hk : k.kOk 8 = true) (ry : Rp X.K X.w C H k y) (ru : RelV y u) (q : ∀ t, Q (k.hash X.w) { s with toks := t }) : wpAny (model X.prog X.w) A (pyHash u) Q E s := by
  obtain ⟨z1, z2⟩ := rp_nested I k 8 y u hk ry ru
  exact pyHash_key _ _ _ _ _ z1 (by omega) (q _)
/-- what stands at a key -/
theorem get_d {A : Around} {E : Value → Shared → Prop} {a : Addr} {e : DE} {ks : List D} {k : D} {y : V} {u : Value} {Q : Option Value → Shared → Prop} (hu : A.units + 8 < cLine) (I : Inv X pins g H s) (hd : H a = some (hoDic a e)) (ok : KeysOk ks) (rk : RpK X C H ks e.2) (hk : k.kOk 8 = true) (ry : Rp X.K X.w C H k y) (ru : RelV y u)
    (hn : kIdx k ks = none → ∀ t, Q none { s with toks := t }) (hs : ∀ (j : Nat) (en : Ent) (v : Value), kIdx k ks = some j → e.2[j]? = some en → RelV en.2.2 v → ∀ t, Q (some v) { s with toks := t }) : wpAny (model X.prog X.w) A (dictGet a u) Q E s := by
  obtain ⟨p1, p2, p3, p4, es, ep, p5, p6⟩ := Inv.dic I hd
  unfold dictGet
  try with_reducible refine wpAny_holding ?_
  refine wpAny_bind (hash_d hu I hk ry ru fun t => wpAny_bind (find_d hu (I.tok t) hd ok rk hk ry ru ?_))
  cases hi : kIdx k ks with
  | none => exact wpAny_pure (hn hi t)
  | some j =>
    refine wpAny_bind (wpAny_dictEntries (s := { s with toks := t }) p1 p5 ?_)
    have hj : j < ks.length := by simpa using (List.getElem?_eq_some_iff.mp (kIdx_some hi)).1
    have hl := rk.length
    obtain ⟨en, hen⟩ : ∃ en, e.2[j]? = some en := ⟨e.2[j]'(by omega), List.getElem?_eq_getElem _⟩
    obtain ⟨de, h1, h2⟩ := L2.paired_get (G := fun (x : Ent) (e : DictEntry) => EntR e x.1 x.2.1 x.2.2) p6 hen
    rw [Array.getElem?_toList] at h1
    rw [h1]
    exact wpAny_pure (hs j en de.val hi hen h2.val t)
/-- an entry is written -/
def putE (j : Option Nat) (y : V) (h : Int) (v : V) (es : List Ent) : List Ent := match j with
  | some j => es.modify j fun en => (en.1, en.2.1, v)
  | none => es ++ [(y, h, v)]
theorem entsR_modify {v : V} {r : Value} (rv : RelV v r) : ∀ {es : List DictEntry} {xs : List Ent} (j : Nat), EntsR es xs → EntsR (es.modify j fun e => { e with val := r }) (xs.modify j fun en => (en.1, en.2.1, v)) := by
  intro es xs j h
  unfold EntsR at h ⊢
  induction h generalizing j with
  | nil => cases j <;> exact .nil
  | cons a t ih =>
    cases j with
    | zero => exact .cons ⟨a.key, a.hash, rv⟩ t
    | succ j => exact .cons a (ih j)
theorem entsR_snoc {y v : V} {u r : Value} {h : Int} (ry : RelV y u) (rv : RelV v r) : ∀ {es : List DictEntry} {xs : List Ent}, EntsR es xs → EntsR (es ++ [⟨h, u, r⟩]) (xs ++ [(y, h, v)]) := by
  intro es xs q
  unfold EntsR at q ⊢
  induction q with
  | nil => exact .cons ⟨ry, rfl, rv⟩ .nil
  | cons a t ih => exact .cons a ih
theorem set_d {A : Around} {E : Value → Shared → Prop} {a : Addr} {e : DE} {ks : List D} {k : D} {y v : V} {u r : Value} {Q : Unit → Shared → Prop} (hu : A.units + 8 < cLine) (I : Inv X pins g H s) (hd : H a = some (hoDic a e)) (ok : KeysOk ks) (rk : RpK X C H ks e.2) (hk : k.kOk 8 = true) (ry : Rp X.K X.w C H k y) (ru : RelV y u) (rv : RelV v r) (hz : ks.length < 100000)
    (q : ∀ (o : Obj) (s' : Shared), Inv X pins g (upd H a (hoDic a (o, putE (kIdx k ks) y (k.hash X.w) v e.2))) s' → Q () s') : wpAny (model X.prog X.w) A (dictSet a u r) Q E s := by
  obtain ⟨p1, p2, p3, p4, es, ep, p5, p6⟩ := Inv.dic I hd
  have hl := rk.length
  have hsz : es.size = e.2.length := by rw [paired_len p6, Array.length_toList]
  unfold dictSet
  try with_reducible refine wpAny_holding ?_
  refine wpAny_bind (hash_d hu I hk ry ru fun t => ?_)
  unfold dictSetHashed
  try with_reducible refine wpAny_holding ?_
  refine wpAny_bind (find_d hu (I.tok t) hd ok rk hk ry ru ?_)
  have mu : Mut (H a) := by rw [hd]; trivial
  cases hi : kIdx k ks with
  | none =>
    rw [hi] at q
    have hb : e.2.length + 1 ≤ sizeLine := Nat.le_trans (show e.2.length + 1 ≤ 100000 by omega) (by decide)
    refine wpAny_bind (wpAny_rule (wpAny_updateDictKeys (hz := by omega) (s := { s with toks := t }) p1 p5 (q _ _ (d_write (t' := t) (I.tok t) mu (Heap.SameBut.update ..) ⟨_, Heap.get?_update_self _ p1 (Obj.isFreed_of_dict (Obj.data_mapDictKeys p5 _))⟩
      ⟨⟨Heap.get?_update_self _ p1 (Obj.isFreed_of_dict (Obj.data_mapDictKeys p5 _)), p2, by
        show (e.2 ++ [_]).length ≤ sizeLine
        rw [List.length_append]
        exact hb, p4.mapDictKeys _, _, _, Obj.data_mapDictKeys p5 _, ?_⟩, ⟨_, Heap.get?_update_self _ p1 (Obj.isFreed_of_dict (Obj.data_mapDictKeys p5 _))⟩, fun h1 h2 x y => dicPhi_stay x y⟩))))
    have z := entsR_snoc (h := k.hash X.w) ru rv p6
    simpa [putE] using z
  | some j =>
    rw [hi] at q
    refine wpAny_bind (wpAny_rule (wpAny_bind (wpAny_updateDict (s := { s with toks := t }) p1 p5 (wpAny_point (q _ _ (d_write (t' := t) (I.tok t) mu (Heap.SameBut.update ..) ⟨_, Heap.get?_update_self _ p1 (Obj.isFreed_of_dict (Obj.data_mapDict p5 _))⟩
      ⟨⟨Heap.get?_update_self _ p1 (Obj.isFreed_of_dict (Obj.data_mapDict p5 _)), p2, by
        show (e.2.modify j _).length ≤ sizeLine
        rw [List.length_modify]
        exact p3, p4.mapDict _, _, _, Obj.data_mapDict p5 _, ?_⟩, ⟨_, Heap.get?_update_self _ p1 (Obj.isFreed_of_dict (Obj.data_mapDict p5 _))⟩, fun h1 h2 x y => dicPhi_stay x y⟩))))))
    have z := entsR_modify rv j p6
    obtain ⟨l⟩ := es
    simpa [putE] using z
end
end Pd
set_option maxHeartbeats 1000000
/-! Pd20: d[k], k in d, methods of built-ins. -/
namespace Pd
open PySem L2 PyProof.Rows
section
variable {X : Cx} {C : Str → Option Addr} {pins : List (Addr × Obj)} {g : L2.St} {H Hf : Hp} {s : Shared}
def D.asDic : D → Option (List (D × D))
  | .dic kvs => some kvs
  | _ => none
theorem asDic_eq : ∀ {d : D} {kvs : List (D × D)}, d.asDic = some kvs → d = .dic kvs
  | .dic _, _, h => by cases h; rfl
/-- what stands at k -/
def lookD {α : Type} (k : D) : List (D × α) → Option α
  | [] => none
  | p :: r => if NestedKey.beq p.1.key k.key = true then some p.2 else lookD k r
theorem lookD_idx {α : Type} {k : D} : ∀ {kvs : List (D × α)}, lookD k kvs = (kIdx k (kvs.map (·.1))).bind fun j => (kvs[j]?).map (·.2)
  | [] => rfl
  | p :: r => by
    show _ = (if NestedKey.beq p.1.key k.key = true then some 0 else (kIdx k (r.map (·.1))).map (· + 1)).bind _
    unfold lookD
    split
    · rfl
    · rw [lookD_idx]
      cases kIdx k (r.map (·.1)) <;> rfl
/-- the dict at hand -/
theorem rs_dic {kvs : List (D × D)} {x : V} {v : Value} (l : Le Hf H) (rx : RelV x v) (r : Rs X.K X.w C H Hf (.dic kvs) x) : ∃ a e, v = .ref a ∧ KeysOk (kvs.map (·.1)) ∧ H a = some (hoDic a e) ∧ RpD X.K X.w C Hf kvs e.2 ∧ RpK X C H (kvs.map (·.1)) e.2 := by
  obtain ⟨a, e, e1, ok, h, rd⟩ := r
  subst e1
  exact ⟨a, e, rx, ok, h, rd, RpK.mono l (RpD.k rd)⟩
theorem dic_type {a : Addr} {e : DE} (I : Inv X pins g H s) (h : H a = some (hoDic a e)) : s.TypeIs (.ref a) "dict" ∧ (a == sysModules) = false ∧ ∀ b, Value.ref a = .ref b → ∃ ob, s.heap.get? b = some ob ∧ ob.dict = none := by
  obtain ⟨p1, p2, p3, p4, _⟩ := Inv.dic I h
  exact ⟨⟨_, p1, p4.1⟩, p2, fun b q => by
    cases q
    exact ⟨_, p1, p4.2.1⟩⟩
theorem look_ent {kvs : List (D × D)} {es : List Ent} {j : Nat} {en : Ent} {H : Hp} (rd : RpD X.K X.w C H kvs es) (he : es[j]? = some en) : ∃ p, kvs[j]? = some p ∧ Rp X.K X.w C H p.2 en.2.2 := by
  have hl := rpD_length rd
  have hj := (List.getElem?_eq_some_iff.mp he).1
  obtain ⟨p, hp⟩ : ∃ p, kvs[j]? = some p := ⟨kvs[j]'(by omega), List.getElem?_eq_getElem _⟩
  obtain ⟨en', h1, _, h2, _⟩ := rpD_get rd hp
  rw [he] at h1
  cases h1
  exact ⟨p, hp, h2⟩

/-! ### d[k] -/
def ixD (a b : D) : Option O := a.asDic.bind fun kvs => if b.kOk 8 = true then (lookD b kvs).map O.val else none
theorem tail_dic {value slice : Expr} {a : Addr} {u : Value} {A : Around} {E : Value → Shared → Prop} {prog : Program} {w : World} {Q : Value → Shared → Prop} (hT : s.TypeIs (.ref a) "dict") (hs : subscripted slice false (.ref a) u = operate [.ref a, u] (getItem (.ref a) u))
    (h : wpAny (model prog w) A.in1 (dictGet a u) (fun r t => ∃ v, r = some v ∧ Q v t) E s) : wpAny (model prog w) A (subscriptTail value slice (.ref a) u) Q E s := by
  unfold subscriptTail
  refine wpAny_bind ?_
  rw [getitemInPython_of_ne hT.not_modules]
  have z := slot_dict_getitem.lookup
  refine wpAny_bind (wpAny_specialOf hT z ?_)
  have fin : wpAny (model prog w) A (subscripted slice false (.ref a) u) (fun r t => wpAny (model prog w) A (letTemporaryGo value (.ref a) r >>= fun _ => pure r) Q E t) E s := by
    rw [hs]
    refine wpAny_operating ?_
    unfold getItem
    try with_reducible refine wpAny_holding ?_
    refine wpAny_bind (wpAny_sequenceKey hT (by decide) ?_)
    refine wpAny_bind (wpAny_callSpecial?_slot (name := Str.ofString "__getitem__") hT slot_dict_getitem (wpAny_call_entry slot_dict_getitem hT entry_dict_getitem ?_ (args_dict_getitem _ _)))
    show wpAny _ _ (dictGet a u >>= _) _ _ s
    refine wpAny_bind (thn h fun r t ⟨v, e, q⟩ => ?_)
    subst e
    exact wpAny_pure ⟨v, rfl, wpAny_pure (wpAny_bind (wpAny_letTemporaryGo (wpAny_pure q)))⟩
  first
    | exact wpAny_pure (wpAny_bind fin)
    | exact wpAny_bind (wpAny_pure (wpAny_bind fin))
    | exact wpAny_bind fin
theorem opIx_D (hu : X.A.units + 20 < cLine) : OpIx X C ixD := by
  intro value slice pins s g H Hf x y v u a b o I l rx ry ra rb q hs
  obtain ⟨kvs, h1, q1⟩ := Option.bind_eq_some_iff.mp q
  have z1 := asDic_eq h1
  subst z1
  split at q1
  · rename_i hk
    obtain ⟨d, h2, q2⟩ := Option.map_eq_some_iff.mp q1
    subst q2
    obtain ⟨p, e, e1, ok, hd, rd, rk⟩ := rs_dic l rx ra
    subst e1
    obtain ⟨hT, hm, _⟩ := dic_type I hd
    refine tail_dic hT hs (get_d (by show X.A.units + 1 + 8 < cLine; omega) I hd ok rk hk (rb.rp l) ry (fun hn => ?_) fun j en uv hj he hv t => ?_)
    · rw [lookD_idx, hn] at h2
      cases h2
    · refine ⟨uv, rfl, ?_⟩
      obtain ⟨pr, hp, rv⟩ := look_ent rd he
      rw [lookD_idx, hj] at h2
      have h2 : (kvs[j]?).map (·.2) = some d := h2
      rw [hp] at h2
      cases h2
      exact PO.flat (I.tok t) l hv rv
  · cases q1

/-! ### k in d -/
def rInD' (neg : Bool) (a b : D) : Option O := b.asDic.bind fun kvs => if a.kOk 8 = true then some (.val (.bl (if neg then !(lookD a kvs).isSome else (lookD a kvs).isSome))) else none
theorem in_dic {a : Addr} {u : Value} {A : Around} {E : Value → Shared → Prop} {prog : Program} {w : World} {Q : Bool → Shared → Prop} (hT : s.TypeIs (.ref a) "dict") (hd : (a == sysModules) = false) (h : wpAny (model prog w) A.in1 (dictGet a u) (fun r t => Q r.isSome t) E s) : wpAny (model prog w) A (contains (.ref a) u) Q E s := by
  unfold contains
  try with_reducible refine wpAny_holding ?_
  have z := slot_dict_contains.lookup
  refine wpAny_bind (wpAny_specialOf hT z ?_)
  show wpAny _ _ (if (some (Value.builtin "dict.__contains__") == some Value.none) = true then _ else _) _ E s
  rw [if_neg (by rw [beq_builtin_none]; exact Bool.false_ne_true)]
  refine wpAny_bind (wpAny_callSpecialUnlessNone?_slot (name := Str.ofString "__contains__") hT slot_dict_contains (wpAny_call_entry slot_dict_contains hT entry_dict_contains ?_ (args_dict_contains _ _)))
  show wpAny _ _ (dictGet a u >>= _) _ _ s
  refine wpAny_bind (thn h fun r t q => ?_)
  cases r with
  | some p =>
    show wpAny _ _ (ret (.bool true)) _ _ _
    exact wpAny_pure ⟨_, rfl, wpAny_truthy_bool q⟩
  | none =>
    show wpAny _ _ (Builtin.Dict.pendingKey? a u >>= _) _ _ _
    exact wpAny_bind (wpAny_pendingKey_other hd (wpAny_pure ⟨_, rfl, wpAny_truthy_bool q⟩))
theorem look_some {kvs : List (D × D)} {k : D} : (lookD k kvs).isSome = (kIdx k (kvs.map (·.1))).isSome := by
  rw [lookD_idx]
  cases hi : kIdx k (kvs.map (·.1)) with
  | none => rfl
  | some j =>
    have z := (List.getElem?_eq_some_iff.mp (kIdx_some hi)).1
    show ((kvs[j]?).map (·.2)).isSome = true
    rw [List.getElem?_eq_getElem (by simpa using z)]
    rfl
theorem op2_inD0 (hu : X.A.units + 20 < cLine) (neg : Bool) : Op2 X C (compareOp (if neg then .NotIn else .In)) (rInD' neg) := by
  intro pins s g H Hf x y v u a b o I l rx ry ra rb q
  obtain ⟨kvs, h1, q1⟩ := Option.bind_eq_some_iff.mp q
  have z1 := asDic_eq h1
  subst z1
  split at q1
  · rename_i hk
    cases q1
    obtain ⟨p, e, e1, ok, hd, rd, rk⟩ := rs_dic l ry rb
    subst e1
    obtain ⟨hT, hm, _⟩ := dic_type I hd
    have main : ∀ {Q : Bool → Shared → Prop}, (∀ t, Q (lookD a kvs).isSome { s with toks := t }) → wpAny (model X.prog X.w) X.A (contains (.ref p) v) Q X.xe s := fun {Q} q =>
      in_dic hT hm (get_d (by show X.A.units + 1 + 8 < cLine; omega) I hd ok rk hk (ra.rp l) rx (fun hn t => by
        have z := q t
        rw [look_some, hn] at z
        exact z) fun j en uv hj he hv t => by
        have z := q t
        rw [look_some, hj] at z
        exact z)
    cases neg with
    | false =>
      show wpAny (model X.prog X.w) X.A (do return Value.bool (← contains (.ref p) v)) _ _ s
      exact wpAny_bind (main fun t => wpAny_pure (PO.flat (d := .bl (lookD a kvs).isSome) (v := .bl (lookD a kvs).isSome) (I.tok t) l rfl rfl))
    | true =>
      show wpAny (model X.prog X.w) X.A (do return Value.bool (!(← contains (.ref p) v))) _ _ s
      exact wpAny_bind (main fun t => wpAny_pure (PO.flat (d := .bl (!(lookD a kvs).isSome)) (v := .bl (!(lookD a kvs).isSome)) (I.tok t) l rfl rfl))
  · cases q1
theorem op2_inD (hu : X.A.units + 20 < cLine) : Op2 X C (compareOp .In) (rInD' false) := op2_inD0 hu false
theorem op2_notInD (hu : X.A.units + 20 < cLine) : Op2 X C (compareOp .NotIn) (rInD' true) := op2_inD0 hu true

/-! ### o.m(..) of a built-in -/
def O.tyN : O → String
  | .val (.lst _) => "list"
  | .lst _ => "list"
  | .val (.str _) => "str"
  | .val (.dic _) => "dict"
  | .dic _ => "dict"
  | _ => ""
theorem or_ty (I : Inv X pins g H s) (l : Le Hf H) {o : O} {v : V} {u : Value} {f : List Addr} {T : String} (r : Or X.K X.w C H Hf o v f) (rv : RelV v u) (h : o.tyN = T) (hT : (T == "") = false) : s.TypeIs u T ∧ ∀ a, u = .ref a → ∃ ob, s.heap.get? a = some ob ∧ ob.dict = none := by
  have lst : ∀ {p : Addr} {vs : List V}, SqL X.K H p vs → s.TypeIs (.ref p) "list" ∧ ∀ a, Value.ref p = .ref a → ∃ ob, s.heap.get? a = some ob ∧ ob.dict = none := fun {p vs} hq => by
    obtain ⟨its, _, pl, _⟩ := I.list hq
    refine ⟨pl.isList.typeIs, fun a e => ?_⟩
    cases e
    obtain ⟨o, n, e, c, hd, _⟩ := pl
    exact ⟨o, e, hd⟩
  have bad : ∀ {T : String}, "" = T → (T == "") = false → False := fun e q => by
    rw [← e] at q
    exact absurd q (by decide)
  cases o with
  | lst xs =>
    obtain ⟨p, vs, f', e, _, hh, _⟩ := r
    subst e h
    obtain rfl : u = .ref p := rv
    exact lst (.inl (.inl hh))
  | dic kvs =>
    obtain ⟨p, es, f', e, _, _, hh, _⟩ := r
    subst e h
    obtain rfl : u = .ref p := rv
    obtain ⟨q1, q2, q3⟩ := dic_type I hh
    exact ⟨q1, q3⟩
  | ins c fs => exact (bad h hT).elim
  | val d =>
    obtain ⟨_, r⟩ := r
    cases d with
    | lst xs =>
      obtain ⟨p, vs, e, hh, _⟩ := r
      subst e h
      obtain rfl : u = .ref p := rv
      exact lst (.inl (.inl (l _ _ hh)))
    | dic kvs =>
      obtain ⟨p, es, e, _, hh, _⟩ := r
      subst e h
      obtain rfl : u = .ref p := rv
      obtain ⟨q1, q2, q3⟩ := dic_type I (l _ _ hh)
      exact ⟨q1, q3⟩
    | str x =>
      have r : v = .str x := r
      subst r h
      obtain ⟨t, rfl⟩ := rv
      exact ⟨typeIs_str s x t, fun _ e => nomatch e⟩
    | tup xs => exact (bad h hT).elim
    | non => exact (bad h hT).elim
    | bl => exact (bad h hT).elim
    | int => exact (bad h hT).elim
    | ins => exact (bad h hT).elim
    | scr => exact (bad h hT).elim
    | ty => exact (bad h hT).elim
    | glo => exact (bad h hT).elim
/-- a built-in's method by values: the receiver, the arguments -/
def MtV (X : Cx) (C : Str → Option Addr) (id : String) (r : List D → Option O) : Prop :=
  ∀ (pins : List (Addr × Obj)) (s : Shared) (g : L2.St) (H Hf : Hp) (x : V) (xs : List V) (v : Value) (us : List Value) (as : List D) (o : O), Inv X pins g H s → Le Hf H → Vals (x :: xs) (v :: us) → RsA X.K X.w C H Hf as (x :: xs) → r as = some o →
    wpAny (model X.prog X.w) X.A (call (.builtin id) (v :: us)) (PO X C pins g H Hf o) X.xe s
def evMeth (T : String) (p : Opn) (ps : List Opn) (r : List D → Option O) : Ev := fun d => (p.go d).bind fun a => (p.look a.2 a.1).bind fun z => if z.1.tyN = T then (goL ps a.2).bind fun b => (lookL (p :: ps) b.2 (a.1 ++ b.1)).bind fun os => (O.shs os).bind fun xs => (r xs).bind fun o => some (o, b.2) else none
theorem evMeth_inv {T : String} {p : Opn} {ps : List Opn} {r : List D → Option O} {d d' : PEnv} {o : O} (q : evMeth T p ps r d = some (o, d')) : ∃ t1 d1 z l t2 os xs, p.go d = some (t1, d1) ∧ p.look d1 t1 = some (z, l) ∧ z.tyN = T ∧ goL ps d1 = some (t2, d') ∧ lookL (p :: ps) d' (t1 ++ t2) = some os ∧ O.shs os = some xs ∧ r xs = some o := by
  obtain ⟨⟨t1, d1⟩, h1, q⟩ := Option.bind_eq_some_iff.mp q
  obtain ⟨⟨z, l⟩, h2, q⟩ := Option.bind_eq_some_iff.mp q
  split at q
  · rename_i ht
    obtain ⟨⟨t2, d2⟩, h3, q⟩ := Option.bind_eq_some_iff.mp q
    obtain ⟨os, h4, q⟩ := Option.bind_eq_some_iff.mp q
    obtain ⟨xs, h5, q⟩ := Option.bind_eq_some_iff.mp q
    obtain ⟨o', h6, q⟩ := Option.bind_eq_some_iff.mp q
    cases q
    exact ⟨t1, d1, z, l, t2, os, xs, h1, h2, ht, h3, h4, h5, h6⟩
  · cases q
/-- the type of an operand just evaluated -/
theorem opn_or {p : Opn} {d d1 : PEnv} {t1 : List O} {z : O} {l : List O} {H1 Hf1 : Hp} {g : L2.St} {t : Tmp} {v : V} {F1 : Fps} (h1 : p.go d = some (t1, d1)) (h2 : p.look d1 t1 = some (z, l)) (S : ST X.K X.w C H1 Hf1 d1 g (t ++ t1.map fun o => (o, v)) F1) (sl : ∀ i, p = .slot i → g[i]? = some (some v)) :
    ∃ f, Or X.K X.w C H1 Hf1 z v f := by
  cases p with
  | slot i =>
    obtain ⟨o', e1, e2⟩ := Option.bind_eq_some_iff.mp h2
    cases e2
    obtain ⟨v', hv, r⟩ := S.env i z (getD_some e1)
    rw [sl i rfl] at hv
    cases hv
    exact ⟨_, r⟩
  | ex f =>
    obtain ⟨⟨o', d''⟩, y1, y⟩ := Option.bind_eq_some_iff.mp h1
    cases y
    cases h2
    exact ⟨_, S.tmp t.length _ v (by simp)⟩
theorem den_meth {T id : String} {name : Str} {o e : Expr} {es : List Expr} {p : Opn} {ps : List Opn} {r : List D → Option O} {apos cpos : Pos} (hT : (T == "") = false) (pa : PlainAttrs T) (slot : Slot T name id) (hty : typeOf (.builtin id) = pure (.type "method_descriptor")) (hm : MtV X C id r) (ho : DenP X C o p) (ha : DenA X C (e :: es) ps)
    (hbase : attributeBase o name X.env (eval o X.env) = eval o X.env) (hfew : ((backTo cpos (starEach (e :: es) X.env)).all (fun x => !x.1) && (backToKw cpos (keywordEach [] X.env)).all (fun x => x.1.isSome) && decide ((e :: es).length + ([] : List Keyword).length + (if ([] : List Keyword).isEmpty then 0 else 1) < 30)) = true)
    (hline : (apos.endLine == cpos.line) = true) (hs : starEach (e :: es) X.env = (false, eval e X.env) :: starEach es X.env) (hplain : (backTo cpos (starEach es X.env)).any (·.1) = false) :
    Den X C (.Call (.Attribute o name apos) (e :: es) [] cpos) (evMeth T p ps r) := by
  refine ⟨fun pins s g H Hf d t F o' d' I S q => ?_⟩
  obtain ⟨t1, d1, z, l, t2, os, xs, h1, h2, h3, h4, h5, h6, h7⟩ := evMeth_inv q
  refine wpAny_Call_method_late hbase hfew hline rfl (thn (ho.run pins s g H Hf d t F t1 d1 I S h1) fun u s1 ⟨v, H1, Hf1, F1, I1, r1, S1, g1, sl1⟩ => ?_)
  obtain ⟨f, ro⟩ := opn_or h1 h2 S1 sl1
  obtain ⟨ht, hd⟩ := or_ty I1 S1.le ro r1 h3 hT
  refine ⟨T, id, pa, slot, hty, ht, hd, ?_⟩
  have hA := ha.run cpos pins s1 g H1 Hf1 d1 _ F1 t2 d' I1 S1 h4
  rw [hs] at hA ⊢
  refine Calls.callWith_builtin (by show (false || (backTo cpos (starEach es X.env)).any (·.1)) = false; rw [hplain] <;> rfl) (Calls.evalArgs_plain ?_)
  refine thn hA fun us s2 k => ?_
  refine fin_op (postA_cons h1 r1 S1 g1 sl1 k) h5 h6 fun vs H2 Hf2 I2 l2 rv ra => ?_
  cases rv with
  | cons q1 q2 => exact hm pins s2 g H2 Hf2 _ _ u us xs o' I2 l2 (.cons q1 q2) ra h7
theorem den_meth0 {T id : String} {name : Str} {o : Expr} {p : Opn} {r : List D → Option O} {apos cpos : Pos} (hT : (T == "") = false) (pa : PlainAttrs T) (slot : Slot T name id) (hty : typeOf (.builtin id) = pure (.type "method_descriptor")) (hm : MtV X C id r) (ho : DenP X C o p)
    (hbase : attributeBase o name X.env (eval o X.env) = eval o X.env) (hline : (apos.endLine == cpos.line) = true) : Den X C (.Call (.Attribute o name apos) [] [] cpos) (evMeth T p [] r) := by
  refine ⟨fun pins s g H Hf d t F o' d' I S q => ?_⟩
  obtain ⟨t1, d1, z, l, t2, os, xs, h1, h2, h3, h4, h5, h6, h7⟩ := evMeth_inv q
  cases h4
  refine wpAny_Call_method0_late hbase hline (thn (ho.run pins s g H Hf d t F t1 d' I S h1) fun u s1 ⟨v, H1, Hf1, F1, I1, r1, S1, g1, sl1⟩ => ?_)
  obtain ⟨f, ro⟩ := opn_or h1 h2 S1 sl1
  obtain ⟨ht, hd⟩ := or_ty I1 S1.le ro r1 h3 hT
  refine ⟨T, id, pa, slot, hty, ht, hd, ?_⟩
  refine Calls.callWith_builtin rfl (PySem.evalArgs_none ?_)
  refine fin_op (postA_cons h1 r1 S1 g1 sl1 (postA_nil I1 S1)) h5 h6 fun vs H2 Hf2 I2 l2 rv ra => ?_
  cases rv with
  | cons q1 q2 => exact hm pins s1 g H2 Hf2 _ _ u [] xs o' I2 l2 (.cons q1 q2) ra h7

/-! ### d.get(k), d.get(k, x) -/
/-- data whose top is no changing thing -/
def D.still : D → Bool
  | .lst _ => false
  | .dic _ => false
  | .ins _ _ => false
  | .scr _ => false
  | _ => true
theorem rs_still {d : D} {v : V} (h : d.still = true) (r : Rs X.K X.w C H Hf d v) : Rp X.K X.w C Hf d v := by
  cases d with
  | lst => cases h
  | dic => cases h
  | ins => cases h
  | scr => cases h
  | _ => exact r
def mGet : List D → Option O
  | [a, b] => a.asDic.bind fun kvs => if b.kOk 8 = true then some (.val ((lookD b kvs).getD .non)) else none
  | [a, b, c] => a.asDic.bind fun kvs => if b.kOk 8 = true ∧ c.still = true then some (.val ((lookD b kvs).getD c)) else none
  | _ => none
theorem meets_get {prog : Program} {w : World} {a : Addr} {u : Value} (hd : (a == sysModules) = false) : MeetsIn prog w (Builtin.«dict.get» ⟨[.ref a, u], []⟩) (fun A R s => wpAny (model prog w) A.in1 (dictGet a u) (fun r t => R (.ok (.ret (r.getD .none))) t) (fun e t => R (.error e) t) s) :=
  .of_wp fun A R s h => by
    show wpAny _ _ (dictGet a u >>= _) _ _ s
    refine wpAny_bind (wpAny_mono h (fun r t q => ?_) fun e t q => q)
    cases r with
    | some v => exact wpAny_pure ⟨v, rfl, q⟩
    | none =>
      show wpAny _ _ (Builtin.Dict.missed a u >>= _) _ _ _
      exact wpAny_bind (wpAny_missed_other hd (wpAny_pure ⟨.none, rfl, q⟩))
theorem meets_get2 {prog : Program} {w : World} {a : Addr} {u x : Value} (hd : (a == sysModules) = false) : MeetsIn prog w (Builtin.«dict.get» ⟨[.ref a, u, x], []⟩) (fun A R s => wpAny (model prog w) A.in1 (dictGet a u) (fun r t => R (.ok (.ret (r.getD x))) t) (fun e t => R (.error e) t) s) :=
  .of_wp fun A R s h => by
    show wpAny _ _ (dictGet a u >>= _) _ _ s
    refine wpAny_bind (wpAny_mono h (fun r t q => ?_) fun e t q => q)
    cases r with
    | some v => exact wpAny_pure ⟨v, rfl, q⟩
    | none =>
      show wpAny _ _ (Builtin.Dict.missed a u >>= _) _ _ _
      exact wpAny_bind (wpAny_missed_other hd (wpAny_pure ⟨x, rfl, q⟩))
theorem mt_get (hu : X.A.units + 20 < cLine) : MtV X C "dict.get" mGet := by
  intro pins s g H Hf x xs v us as o I l rv ra q
  match as, ra, q with
  | [a, b], ⟨_, _, e0, r1, y, _, e1, r2, e2⟩, q =>
    cases e0
    subst e2 e1
    obtain ⟨kvs, h1, q1⟩ := Option.bind_eq_some_iff.mp q
    have z1 := asDic_eq h1
    subst z1
    split at q1
    · rename_i hk
      cases q1
      cases rv with
      | cons rv1 rv2 =>
        cases rv2 with
        | cons rv2 rv3 =>
          cases rv3
          obtain ⟨p, e, e1, ok, hd, rd, rk⟩ := rs_dic l rv1 r1
          subst e1
          obtain ⟨hT, hm, _⟩ := dic_type I hd
          refine call_meetsIn PySem.F.slot_dict_get hT PySem.F.entry_dict_get (PySem.F.args_dict_get_2 _ _) (meets_get hm) (get_d (by show X.A.units + 1 + 8 < cLine; omega) I hd ok rk hk (r2.rp l) rv2 (fun hn t => ?_) fun j en uv hj he hv t => ?_)
          · rw [lookD_idx, hn]
            exact PO.flat (v := .non) (I.tok t) l rfl rfl
          · rw [lookD_idx, hj]
            obtain ⟨pr, hp, rv⟩ := look_ent rd he
            show PO X C pins g H Hf (.val (((kvs[j]?).map (·.2)).getD .non)) uv _
            rw [hp]
            exact PO.flat (I.tok t) l hv rv
    · cases q1
  | [a, b, c], ⟨_, _, e0, r1, y, _, e1, r2, z, _, e2, r3, e3⟩, q =>
    cases e0
    subst e3 e2 e1
    obtain ⟨kvs, h1, q1⟩ := Option.bind_eq_some_iff.mp q
    have z1 := asDic_eq h1
    subst z1
    split at q1
    · rename_i hk
      cases q1
      cases rv with
      | cons rv1 rv2 =>
        cases rv2 with
        | cons rv2 rv3 =>
          cases rv3 with
          | cons rv3 rv4 =>
            cases rv4
            obtain ⟨p, e, e1, ok, hd, rd, rk⟩ := rs_dic l rv1 r1
            subst e1
            obtain ⟨hT, hm, _⟩ := dic_type I hd
            refine call_meetsIn PySem.F.slot_dict_get hT PySem.F.entry_dict_get (PySem.F.args_dict_get_3 _ _ _) (meets_get2 hm) (get_d (by show X.A.units + 1 + 8 < cLine; omega) I hd ok rk hk.1 (r2.rp l) rv2 (fun hn t => ?_) fun j en uv hj he hv t => ?_)
            · rw [lookD_idx, hn]
              exact PO.flat (I.tok t) l rv3 (rs_still hk.2 r3)
            · rw [lookD_idx, hj]
              obtain ⟨pr, hp, rv⟩ := look_ent rd he
              show PO X C pins g H Hf (.val (((kvs[j]?).map (·.2)).getD c)) uv _
              rw [hp]
              exact PO.flat (I.tok t) l hv rv
    · cases q1
  | [], ra, _ => cases ra
  | [_], _, q => cases q
  | _ :: _ :: _ :: _ :: _, _, q => cases q
end
end Pd
set_option maxHeartbeats 1000000
/-! Pd21: x.append(e), d[k] = e, name += e. -/
namespace Pd
open PySem L2 PyProof.Rows
section
variable {K : PySem.W.Frag} {w : World} {C : Str → Option Addr} {H H' Hf Hf' : Hp} {d : PEnv} {g : L2.St} {t : Tmp} {F : Fps}
/-- the object at the top of a slot is changed -/
theorem ST.setTop (S : ST K w C H Hf d g t F) {i : Nat} {o o' : O} {p : Addr} {f f' : List Addr} {u : HO} (hk : d[i]? = some (some o)) (hv : g[i]? = some (some (.ref p))) (hF : F i = p :: f) (sub : f'.Sublist f) (r : Or K w C (upd H p u) Hf o' (.ref p) (p :: f')) :
    ∃ F', ST K w C (upd H p u) Hf (d.set i (some o')) g t F' ∧ Go H Hf F (upd H p u) Hf F' := by
  have nd := S.nd i
  rw [hF] at nd
  refine S.mutSlot0 hk hv (fun a x q n => ?_) (nd.sublist (sub.cons_cons p)) (fun a ha => .inl ?_) r
  · rw [hF] at n
    rw [upd_ne fun e => n (by rw [e]; exact List.mem_cons_self)]
    exact q
  · rw [hF]
    rcases List.mem_cons.mp ha with e | e
    · rw [e]; exact List.mem_cons_self
    · exact List.mem_cons_of_mem _ (sub.subset e)
theorem orL_snoc {H Hf : Hp} {x : D} {v : V} (r : Rp K w C Hf x v) : ∀ {os : List O} {vs : List V} {f : List Addr}, OrL K w C H Hf os vs f → OrL K w C H Hf (os ++ [.val x]) (vs ++ [v]) f
  | [], _, _, ⟨e1, e2⟩ => by
    subst e1 e2
    exact ⟨v, [], [], [], rfl, rfl, ⟨rfl, r⟩, rfl, rfl⟩
  | o :: os, _, _, ⟨v', us, f1, f2, e1, e2, ro, rs⟩ => by
    subst e1 e2
    exact ⟨v', us ++ [v], f1, f2, rfl, rfl, ro, orL_snoc r rs⟩
theorem OrL.length {H Hf : Hp} : ∀ {os : List O} {vs : List V} {f : List Addr}, OrL K w C H Hf os vs f → vs.length = os.length
  | [], _, _, ⟨e, _⟩ => by rw [e]; rfl
  | o :: os, _, _, ⟨v, us, f1, f2, e1, _, _, rs⟩ => by rw [e1, List.length_cons, List.length_cons, OrL.length rs]
theorem nd_not {α : Type} {a : α} {l : List α} (h : (a :: l).Nodup) : ∀ b, b ∈ l → b ≠ a := fun b hb e => (List.nodup_cons.mp h).1 (by rw [← e]; exact hb)
end
def putD {α : Type} (k : D) (x : α) : List (D × α) → List (D × α)
  | [] => [(k, x)]
  | p :: r => if NestedKey.beq p.1.key k.key = true then (p.1, x) :: r else p :: putD k x r
theorem putD_keys {α : Type} {k : D} {x : α} : ∀ {kvs : List (D × α)}, (putD k x kvs).map (·.1) = match kIdx k (kvs.map (·.1)) with
    | some _ => kvs.map (·.1)
    | none => kvs.map (·.1) ++ [k]
  | [] => rfl
  | p :: r => by
    have ih := putD_keys (k := k) (x := x) (kvs := r)
    unfold putD
    show _ = match (if NestedKey.beq p.1.key k.key = true then some 0 else (kIdx k (r.map fun z : D × α => z.1)).map (· + 1)) with
      | some _ => p.1 :: r.map fun z : D × α => z.1
      | none => p.1 :: (r.map fun z : D × α => z.1) ++ [k]
    split
    · rfl
    · rw [List.map_cons, ih]
      cases kIdx k (r.map (·.1)) <;> rfl
theorem keysOk_put {α : Type} {k : D} {x : α} {kvs : List (D × α)} (ok : KeysOk (kvs.map (·.1))) (hk : k.kOk 8 = true) : KeysOk ((putD k x kvs).map (·.1)) := by
  rw [putD_keys]
  cases hi : kIdx k (kvs.map (·.1)) with
  | some j => exact ok
  | none =>
    refine ⟨fun k' h => ?_, ?_⟩
    · rcases List.mem_append.mp h with z | z
      · exact ok.ok k' z
      · rw [List.mem_singleton.mp z]; exact hk
    · rw [List.map_append, List.nodup_append]
      refine ⟨ok.nd, by simp, fun a ha b hb => ?_⟩
      have e : b = k.key := by simpa using hb
      subst e
      intro e
      subst e
      obtain ⟨j, hj⟩ := List.mem_iff_getElem?.mp ha
      exact kIdx_none hi j hj
section
variable {X : Cx} {C : Str → Option Addr} {pins : List (Addr × Obj)} {g : L2.St} {H Hf : Hp} {s : Shared}
/-- an owned dict's entries when one is written -/
theorem orD_put {k : D} {x : O} {y v : V} {fx : List Addr} (rk : Rp X.K X.w C Hf k y) (rx : Or X.K X.w C H Hf x v fx) : ∀ {kvs : List (D × O)} {es : List Ent} {f : List Addr}, OrD X.K X.w C H Hf kvs es f → ∃ f1 f2, OrD X.K X.w C H Hf (putD k x kvs) (putE (kIdx k (kvs.map (·.1))) y (k.hash X.w) v es) (f1 ++ fx ++ f2) ∧ (f1 ++ f2).Sublist f
  | [], _, _, ⟨e1, e2⟩ => by
    subst e1 e2
    exact ⟨[], [], ⟨y, v, [], fx, [], rfl, by simp, rk, rx, rfl, rfl⟩, by simp⟩
  | (k', o) :: r, _, _, ⟨a, v', us, f1, f2, e1, e2, rk', ro, rs⟩ => by
    subst e1 e2
    show ∃ f3 f4, OrD X.K X.w C H Hf (if NestedKey.beq k'.key k.key = true then (k', x) :: r else (k', o) :: putD k x r) (putE (if NestedKey.beq k'.key k.key = true then some 0 else (kIdx k (r.map (·.1))).map (· + 1)) y (k.hash X.w) v _) _ ∧ _
    by_cases hb : NestedKey.beq k'.key k.key = true
    · rw [if_pos hb, if_pos hb]
      exact ⟨[], f2, ⟨a, v, us, fx, f2, rfl, by simp, rk', rx, rs⟩, by simp⟩
    · rw [if_neg hb, if_neg hb]
      obtain ⟨f3, f4, h1, h2⟩ := orD_put rk rx rs
      refine ⟨f1 ++ f3, f4, ⟨a, v', putE (kIdx k (r.map (·.1))) y (k.hash X.w) v us, f1, f3 ++ fx ++ f4, ?_, by simp, rk', ro, h1⟩, by rw [List.append_assoc]; exact (List.Sublist.refl f1).append h2⟩
      cases kIdx k (r.map (·.1)) <;> rfl

/-! ### x.append(e) -/
def isLst (d : PEnv) (i : Nat) : Bool := match d.getD i none with
  | some (.lst _) => true
  | _ => false
def evApp (i : Nat) (f : Ev) : Ev := fun d => if isLst d i = true then (f d).bind fun p => match p.2.getD i none with
  | some (.lst xs) => if xs.length < 100000 then some (.val .non, p.2.set i (some (.lst (xs ++ [.val p.1.d])))) else none
  | _ => none else none
theorem isLst_eq {d : PEnv} {i : Nat} (h : isLst d i = true) : ∃ xs, d.getD i none = some (.lst xs) := by
  unfold isLst at h
  split at h
  · rename_i xs e
    exact ⟨xs, e⟩
  · cases h
theorem den_append {i : Nat} {x : Str} {e : Expr} {f : Ev} {p apos cpos : Pos} (hN : X.N[i]? = some x) (hv : Vis X.env.scope x) (hd : (x == ("__debug__" : Str)) = false) (hcd : (x == ("__classdict__" : Str)) = false) (he : Den X C e f)
    (hbase : attributeBase (.Name x p) "append" X.env (eval (.Name x p) X.env) = eval (.Name x p) X.env) (hfew : ((backTo cpos (starEach [e] X.env)).all (fun x => !x.1) && (backToKw cpos (keywordEach [] X.env)).all (fun x => x.1.isSome) && decide (([e] : List Expr).length + ([] : List Keyword).length + (if ([] : List Keyword).isEmpty then 0 else 1) < 30)) = true)
    (hline : (apos.endLine == cpos.line) = true) (hs : backTo cpos (starEach [e] X.env) = [(false, eval e X.env)]) : Den X C (.Call (.Attribute (.Name x p) "append" apos) [e] [] cpos) (evApp i f) := by
  refine ⟨fun pins s g H Hf d t F o d' I S q => ?_⟩
  unfold evApp at q
  split at q
  · rename_i hl
    obtain ⟨xs0, e0⟩ := isLst_eq hl
    obtain ⟨⟨o1, d1⟩, q1, q2⟩ := Option.bind_eq_some_iff.mp q
    refine wpAny_Call_method_late hbase hfew hline hs (thn ((denP_slot (C := C) (pos := p) hN hv hd hcd).run pins s g H Hf d t F [] d I S (by show (d.getD i none).bind _ = _; rw [e0]; rfl)) fun u s1 ⟨v, H1, Hf1, F1, I1, r1, S1, g1, sl1⟩ => ?_)
    have S1 : ST X.K X.w C H1 Hf1 d g t F1 := by simpa using S1
    obtain ⟨v', hv', ro⟩ := S1.env i _ (getD_some e0)
    rw [sl1 i rfl] at hv'
    cases hv'
    obtain ⟨ht, hdd⟩ := or_ty I1 S1.le ro r1 (T := "list") rfl (by decide)
    refine ⟨"list", "list.append", PySem.F.plainAttrs_list, PySem.F.slot_list_append, PySem.F.type_list_append, ht, hdd, ?_⟩
    refine Calls.callWith_builtin rfl (Calls.evalArgs_plain (Calls.spliced_cons (thn (he.run pins s1 g H1 Hf1 d t F1 o1 d1 I1 S1 q1) fun y s2 ⟨vy, H2, Hf2, F2, I2, r2, S2, g2⟩ => Calls.spliced_nil ?_)))
    obtain ⟨Hf3, S3, g3, rp⟩ := S2.freezeTop
    obtain ⟨S4, g4⟩ := S3.pop
    have q2 : (match d1.getD i none with
      | some (.lst xs) => if xs.length < 100000 then some (O.val D.non, d1.set i (some (.lst (xs ++ [.val o1.d])))) else none
      | _ => none) = some (o, d') := q2
    split at q2
    · rename_i xs ex
      split at q2
      · rename_i hz
        cases q2
        obtain ⟨v2, hv2, rl⟩ := S4.env i _ (getD_some ex)
        rw [sl1 i rfl] at hv2
        cases hv2
        obtain ⟨pa, vs, f0, e3, e4, hh, rl⟩ := rl
        subst e3
        obtain rfl : u = .ref pa := r1
        have hlen := rl.length
        have nd := S4.nd i
        rw [e4] at nd
        refine app_ok I2 hh (by rw [hlen]; exact Nat.lt_of_lt_of_le hz (by decide)) r2 fun s3 I3 => ?_
        obtain ⟨F5, S5, g5⟩ := S4.setTop (u := .lst (vs ++ [vy])) (o' := .lst (xs ++ [.val o1.d])) (getD_some ex) (sl1 i rfl) e4 (List.Sublist.refl _) ⟨pa, _, f0, rfl, rfl, upd_same, orL_snoc rp (OrL.mono Le.rfl xs vs f0 (fun a ha => upd_ne (nd_not nd a ha)) rl)⟩
        obtain ⟨S6, g6⟩ := S5.pushV (x := .non) (v := .non) rfl
        exact ⟨.non, _, Hf3, _, I3, rfl, S6, ((((g1.trans g2).trans g3).trans g4).trans g5).trans g6⟩
      · cases q2
    · cases q2
  · cases q

/-! ### d[k] = e -/
def xSetK (i : Nat) (fk fv : Ev) : Ex := fun d => (fv d).bind fun a => (a.2.getD i none).bind fun _ => (fk a.2).bind fun b => match b.2.getD i none with
  | some (.dic kvs) => if b.1.d.kOk 8 = true ∧ kvs.length < 100000 then some (.nx, b.2.set i (some (.dic (putD b.1.d (.val a.1.d) kvs)))) else none
  | _ => none
theorem orD_mono' {H' : Hp} {p : Addr} {u : HO} {kvs : List (D × O)} {es : List Ent} {f : List Addr} (nd : (p :: f).Nodup) (e : H' = upd H p u) (r : OrD X.K X.w C H Hf kvs es f) : OrD X.K X.w C H' Hf kvs es f := by
  subst e
  exact OrD.mono Le.rfl kvs es f (fun a ha => upd_ne (nd_not nd a ha)) r
theorem setItem_d {A : Around} {E : Value → Shared → Prop} {a : Addr} {e : DE} {ks : List D} {k : D} {y v : V} {u r : Value} {Q : Unit → Shared → Prop} (hu : A.units + 9 < cLine) (I : Inv X pins g H s) (hd : H a = some (hoDic a e)) (ok : KeysOk ks) (rk : RpK X C H ks e.2) (hk : k.kOk 8 = true) (ry : Rp X.K X.w C H k y) (ru : RelV y u) (rv : RelV v r) (hz : ks.length < 100000)
    (q : ∀ (o : Obj) (s' : Shared), Inv X pins g (upd H a (hoDic a (o, putE (kIdx k ks) y (k.hash X.w) v e.2))) s' → Q () s') : wpAny (model X.prog X.w) A (setItem (.ref a) u r) Q E s := by
  obtain ⟨hT, hm, _⟩ := dic_type I hd
  unfold setItem
  try with_reducible refine wpAny_holding ?_
  refine wpAny_bind (wpAny_sequenceKey hT (by decide) ?_)
  refine wpAny_bind (wpAny_callSpecial?_slot (name := Str.ofString "__setitem__") hT slot_dict_setitem (wpAny_call_entry slot_dict_setitem hT entry_dict_setitem ?_ (args_dict_setitem _ _ _)))
  show wpAny _ _ (Builtin.Dict.notOrdered "__setitem__" ⟨[.ref a, u, r], []⟩ >>= _) _ _ s
  refine wpAny_bind (wpAny_notOrdered_dict hT ?_)
  show wpAny _ _ (dictSet a u r >>= _) _ _ s
  exact wpAny_bind (set_d (by show A.units + 1 + 8 < cLine; omega) I hd ok rk hk ry ru rv hz fun o s' I' => wpAny_pure ⟨.none, rfl, wpAny_pure (q o s' I')⟩)
theorem denS_setK {is : List Nat} {i : Nat} {x : Str} {ek ev : Expr} {fk fv : Ev} {p pos' pos : Pos} (hu : X.A.units + 20 < cLine) (hN : X.N[i]? = some x) (hv : Vis X.env.scope x) (hd : (x == ("__debug__" : Str)) = false) (hcd : (x == ("__classdict__" : Str)) = false) (hk : Den X C ek fk) (he : Den X C ev fv)
    (hs : swapsWith ev (some (.Subscript (.Name x p) ek pos')) pos.line X.env = pure false) : DenS X C is (.Assign [.Subscript (.Name x p) ek pos'] ev pos) (xSetK i fk fv) := by
  refine ⟨fun pins s g H Hf d t F r d' I S q => ?_⟩
  obtain ⟨⟨o1, d1⟩, q1, q2⟩ := Option.bind_eq_some_iff.mp q
  obtain ⟨oz, qz, q3⟩ := Option.bind_eq_some_iff.mp q2
  obtain ⟨⟨o2, d2⟩, q4, q5⟩ := Option.bind_eq_some_iff.mp q3
  have q5 : (match d2.getD i none with
    | some (.dic kvs) => if o2.d.kOk 8 = true ∧ kvs.length < 100000 then some (Fl.nx, d2.set i (some (.dic (putD o2.d (.val o1.d) kvs)))) else none
    | _ => none) = some (r, d') := q5
  split at q5
  · rename_i kvs ex
    split at q5
    · rename_i hz
      cases q5
      refine wpAny_Assign_Subscript (thn (he.run pins s g H Hf d t F o1 d1 I S q1) fun r1 s1 ⟨v1, H1, Hf1, F1, I1, rv1, S1, g1⟩ => ?_) hs
      obtain ⟨Hf2, S2, g2, rp1⟩ := S1.freezeTop
      refine thn ((denP_slot (C := C) (pos := p) hN hv hd hcd).run pins s1 g H1 Hf2 d1 _ _ [] d1 I1 S2 (by show (d1.getD i none).bind _ = _; rw [show d1.getD i none = some oz from qz]; rfl)) fun u2 s2 ⟨v2, H2, Hf3, F3, I2, rv2, S3, g3, sl⟩ => ?_
      have S3 : ST X.K X.w C H2 Hf3 d1 g (t ++ [(.val o1.d, v1)]) F3 := by simpa using S3
      refine thn (hk.run pins s2 g H2 Hf3 d1 _ F3 o2 d2 I2 S3 q4) fun u3 s3 ⟨v3, H4, Hf4, F4, I4, rv3, S4, g4⟩ => ?_
      obtain ⟨Hf5, S5, g5, rp3⟩ := S4.freezeTop
      obtain ⟨S6, g6⟩ := S5.pop
      obtain ⟨S7, g7⟩ := S6.pop
      obtain ⟨v', hv', ro⟩ := S7.env i _ (getD_some ex)
      rw [sl i rfl] at hv'
      cases hv'
      obtain ⟨pa, e, f0, e3, e4, ok, hh, rd⟩ := ro
      subst e3
      obtain rfl : u2 = .ref pa := rv2
      have nd := S7.nd i
      rw [e4] at nd
      have rp1' := Rp.mono ((g3.grow.trans g4.grow).trans g5.grow) _ _ rp1
      refine setItem_d (by omega) I4 hh ok (OrD.k S7.le rd) hz.1 (Rp.mono S7.le _ _ rp3) rv3 rv1 (by simpa using hz.2) fun ob s5 I5 => ?_
      obtain ⟨f1, f2, od, sb⟩ := orD_put (k := o2.d) (x := .val o1.d) (y := v3) (v := v1) (fx := []) rp3 ⟨rfl, rp1'⟩ rd
      obtain ⟨F8, S8, g8⟩ := S7.setTop (u := hoDic pa (ob, putE (kIdx o2.d (kvs.map (·.1))) v3 (o2.d.hash X.w) v1 e.2)) (o' := .dic (putD o2.d (.val o1.d) kvs)) (f' := f1 ++ [] ++ f2) (getD_some ex) (sl i rfl) e4 (by simpa using sb)
        ⟨pa, _, _, rfl, rfl, keysOk_put ok hz.1, upd_same, OrD.mono Le.rfl _ _ _ (fun a ha => upd_ne (nd_not nd a (sb.subset (by simpa using ha)))) od⟩
      exact ⟨g, _, Hf5, F8, I5, S8, ((((((g1.trans g2).trans g3).trans g4).trans g5).trans g6).trans g7).trans g8, Same.rfl⟩
    · cases q5
  · cases q5

/-! ### name += e -/
def xAug (i : Nat) (f : Ev) (k : Int → Int → Int) : Ex := fun d => match d.getD i none with
  | some (.val (.int a)) => (f d).bind fun p => p.1.d.asInt.bind fun b => if i < p.2.length then some (.nx, p.2.set i (some (.val (.int (k a b))))) else none
  | _ => none
theorem denS_aug {is : List Nat} {i : Nat} {x : Str} {e : Expr} {f : Ev} {op : Operator} {k : Int → Int → Int} {pos' pos : Pos} (hN : X.N.Nodup) (hi : X.N[i]? = some x) (hx : Loc X.env.scope x) (he : Den X C e f) (ho : PIp X op (ipI k)) (hf : X.fn x = true ∨ X.env.scope.names.lookup x = some .local) (hw : i ∈ is) :
    DenS X C is (.AugAssign (.Name x pos') op e pos) (xAug i f k) := by
  refine ⟨fun pins s g H Hf d t F r d' I S q => ?_⟩
  unfold xAug at q
  split at q
  · rename_i a ea
    obtain ⟨⟨o1, d1⟩, q1, q2⟩ := Option.bind_eq_some_iff.mp q
    obtain ⟨b, q3, q4⟩ := Option.bind_eq_some_iff.mp q2
    split at q4
    · rename_i hl
      cases q4
      obtain ⟨v0, hv0, _, r0⟩ := S.env i _ (getD_some ea)
      have r0 : v0 = .int a := r0
      subst r0
      let E : Ends := { nx := fun g' H' => ∃ Hf' F', ST X.K X.w C H' Hf' (d1.set i (some (.val (.int (k a b))))) g' t F' ∧ Go H Hf F H' Hf' F' ∧ Same is g g', rt := fun _ _ => False, bk := fun _ _ => False, ct := fun _ _ => False }
      refine thn ((ps_aug (X := X) (pos := pos) (pos' := pos') (te := tE X C f) hN hi hx he.pe ho hf).run pins s g H E I ⟨.int a, hv0, Hf, d, t, F, o1, d1, S, q1, fun v H' Hf' F' S' go => ?_⟩) fun f s' z => ?_
      · obtain ⟨Hf2, S2, g2, rp⟩ := S'.freezeTop
        obtain ⟨S3, g3⟩ := S2.pop
        have z := asInt_eq (show o1.d.asInt = some b from q3)
        rw [z] at rp
        obtain ⟨S4, g4⟩ := S3.pushV (x := .int (k a b)) (v := .int (k a b)) rfl
        obtain ⟨S5, g5⟩ := S4.store hl
        exact ⟨a, b, rfl, rp, Hf2, _, S5, (((go.trans g2).trans g3).trans g4).trans g5, Same.setm hw⟩
      · cases f with
        | next =>
          obtain ⟨g', H', I', Hf', F', S', go, sm⟩ := z
          exact ⟨g', H', Hf', F', I', S', go, sm⟩
        | ret u =>
          obtain ⟨_, _, _, _, _, z⟩ := z
          exact z.elim
        | brk =>
          obtain ⟨_, _, _, z⟩ := z
          exact z.elim
        | cont =>
          obtain ⟨_, _, _, z⟩ := z
          exact z.elim
    · cases q4
  · cases q
end
end Pd
set_option maxHeartbeats 1000000
/-! Pd22: d.setdefault(k, []).append(y). -/
namespace Pd
open PySem L2 PyProof.Rows
section
variable {X : Cx} {C : Str → Option Addr} {pins : List (Addr × Obj)} {g : L2.St} {H Hf : Hp} {s : Shared}
/-- an expression that changes nothing: its data -/
abbrev EvQ := PEnv → Option D
structure DenQ (X : Cx) (C : Str → Option Addr) (e : Expr) (q : EvQ) : Prop where
  run : ∀ (pins : List (Addr × Obj)) (s : Shared) (g : L2.St) (H Hf : Hp) (d : PEnv) (t : Tmp) (F : Fps) (x : D), Inv X pins g H s → ST X.K X.w C H Hf d g t F → q d = some x →
    wpAny (model X.prog X.w) X.A (eval e X.env) (fun u s' => ∃ v, Inv X pins g H s' ∧ RelV v u ∧ Rp X.K X.w C Hf x v) X.xe s
def qVar (i : Nat) : EvQ := fun d => match d.getD i none with
  | some (.val x) => some x
  | _ => none
theorem denQ_name {i : Nat} {x : Str} {pos : Pos} (hN : X.N[i]? = some x) (hv : Vis X.env.scope x) (hd : (x == ("__debug__" : Str)) = false) (hcd : (x == ("__classdict__" : Str)) = false) : DenQ X C (.Name x pos) (qVar i) := by
  refine ⟨fun pins s g H Hf d t F x' I S q => ?_⟩
  unfold qVar at q
  split at q
  · rename_i y e
    cases q
    obtain ⟨v, hv', _, r⟩ := S.env i _ (getD_some e)
    refine thn ((pe_var (X := X) hN hv hd hcd (pos := pos)).run pins s g H (fun z H' => z = v ∧ H' = H) I ⟨v, hv', rfl, rfl⟩) fun u s' ⟨z, H', I', rv, ez, eH⟩ => ?_
    subst ez eH
    exact ⟨z, I', rv, r⟩
  · cases q
/-- an owned dict's entry at k -/
theorem orD_at {k : D} {o : O} : ∀ {kvs : List (D × O)} {es : List Ent} {f : List Addr}, OrD X.K X.w C H Hf kvs es f → lookD k kvs = some o → ∃ j en fo f1 f2, kIdx k (kvs.map (·.1)) = some j ∧ es[j]? = some en ∧ Or X.K X.w C H Hf o en.2.2 fo ∧ f = f1 ++ fo ++ f2 ∧
    ∀ H' o' fo', (∀ a, a ∈ f1 ++ f2 → H' a = H a) → Or X.K X.w C H' Hf o' en.2.2 fo' → OrD X.K X.w C H' Hf (putD k o' kvs) es (f1 ++ fo' ++ f2)
  | [], _, _, _, h => by cases h
  | (k', o1) :: r, _, _, ⟨a, v, us, f1, f2, e1, e2, rk, ro, rs⟩, h => by
    subst e1 e2
    have h : (if NestedKey.beq k'.key k.key = true then some o1 else lookD k r) = some o := h
    by_cases hb : NestedKey.beq k'.key k.key = true
    · rw [if_pos hb] at h
      cases h
      refine ⟨0, _, f1, [], f2, by show (if NestedKey.beq k'.key k.key = true then some 0 else _) = _; rw [if_pos hb], rfl, ro, by simp, fun H' o' fo' kp ro' => ?_⟩
      show OrD X.K X.w C H' Hf (if NestedKey.beq k'.key k.key = true then (k', o') :: r else _) _ _
      rw [if_pos hb]
      exact ⟨a, v, us, fo', f2, rfl, by simp, rk, ro', OrD.mono Le.rfl r us f2 (fun b hb' => kp b (by simpa using hb')) rs⟩
    · rw [if_neg hb] at h
      obtain ⟨j, en, fo, f3, f4, h1, h2, h3, h4, h5⟩ := orD_at rs h
      subst h4
      refine ⟨j + 1, en, fo, f1 ++ f3, f4, by show (if NestedKey.beq k'.key k.key = true then some 0 else (kIdx k (r.map fun z : D × O => z.1)).map (· + 1)) = _; rw [if_neg hb, h1]; rfl, by simpa using h2, h3, by simp, fun H' o' fo' kp ro' => ?_⟩
      show OrD X.K X.w C H' Hf (if NestedKey.beq k'.key k.key = true then (k', o') :: r else (k', o1) :: putD k o' r) _ _
      rw [if_neg hb]
      exact ⟨a, v, us, f1, f3 ++ fo' ++ f4, rfl, by simp, rk, Or.mono Le.rfl o1 v f1 (fun b hb' => kp b (by simp [hb'])) ro, h5 H' o' fo' (fun b hb' => kp b (by
        rcases List.mem_append.mp hb' with z | z
        · simp [z]
        · simp [z])) ro'⟩
theorem meets_sd {prog : Program} {w : World} {a : Addr} {u x : Value} (hd : (a == sysModules) = false) : MeetsIn prog w (Builtin.«dict.setdefault» ⟨[.ref a, u, x], []⟩) (fun A R s => s.TypeIs (.ref a) "dict" ∧ wpAny (model prog w) A.in1 (dictSetDefault a u x) (fun r t => R (.ok (.ret r)) t) (fun e t => R (.error e) t) s) :=
  .of_wp fun A R s ⟨hT, h⟩ => by
    unfold Builtin.«dict.setdefault»
    refine wpAny_bind ?_
    unfold Builtin.Dict.keyAndDefault
    refine wpAny_bind (wpAny_notOrdered_dict hT ?_)
    show wpAny _ _ (pure (a, u, some x)) _ _ s
    refine wpAny_pure ?_
    show wpAny _ _ (if (a == sysModules) = true then _ else (dictSetDefault a u x >>= _)) _ _ s
    rw [if_neg (by rw [hd]; exact Bool.false_ne_true)]
    exact wpAny_bind (wpAny_mono h (fun r t q => wpAny_pure ⟨r, rfl, q⟩) fun e t q => q)
theorem sd_d {A : Around} {E : Value → Shared → Prop} {a : Addr} {e : DE} {ks : List D} {k : D} {y v : V} {u r : Value} {Q : Value → Shared → Prop} (hu : A.units + 8 < cLine) (I : Inv X pins g H s) (hd : H a = some (hoDic a e)) (ok : KeysOk ks) (rk : RpK X C H ks e.2) (hk : k.kOk 8 = true) (ry : Rp X.K X.w C H k y) (ru : RelV y u) (rv : RelV v r) (hz : ks.length < 100000)
    (h1 : ∀ (j : Nat) (en : Ent) (v' : Value) (t : Nat), kIdx k ks = some j → e.2[j]? = some en → RelV en.2.2 v' → Q v' { s with toks := t })
    (h2 : kIdx k ks = none → ∀ (o : Obj) (s' : Shared), Inv X pins g (upd H a (hoDic a (o, e.2 ++ [(y, k.hash X.w, v)]))) s' → Q r s') : wpAny (model X.prog X.w) A (dictSetDefault a u r) Q E s := by
  obtain ⟨p1, p2, p3, p4, es, ep, p5, p6⟩ := Inv.dic I hd
  have hl := rk.length
  have hsz : es.size = e.2.length := by rw [paired_len p6, Array.length_toList]
  unfold dictSetDefault
  try with_reducible refine wpAny_holding ?_
  refine wpAny_bind (hash_d hu I hk ry ru fun t => wpAny_bind (find_d hu (I.tok t) hd ok rk hk ry ru ?_))
  have mu : Mut (H a) := by rw [hd]; trivial
  cases hi : kIdx k ks with
  | none =>
    have hb : e.2.length + 1 ≤ sizeLine := Nat.le_trans (show e.2.length + 1 ≤ 100000 by omega) (by decide)
    refine wpAny_bind (wpAny_rule (wpAny_bind (wpAny_updateDictKeys (hz := by omega) (s := { s with toks := t }) p1 p5 (wpAny_pure (h2 hi _ _ (d_write (t' := t) (I.tok t) mu (Heap.SameBut.update ..) ⟨_, Heap.get?_update_self _ p1 (Obj.isFreed_of_dict (Obj.data_mapDictKeys p5 _))⟩
      ⟨⟨Heap.get?_update_self _ p1 (Obj.isFreed_of_dict (Obj.data_mapDictKeys p5 _)), p2, by
        show (e.2 ++ [_]).length ≤ sizeLine
        rw [List.length_append]
        exact hb, p4.mapDictKeys _, _, _, Obj.data_mapDictKeys p5 _, ?_⟩, ⟨_, Heap.get?_update_self _ p1 (Obj.isFreed_of_dict (Obj.data_mapDictKeys p5 _))⟩, fun h1 h2 x y => dicPhi_stay x y⟩))))))
    have z := entsR_snoc (h := k.hash X.w) ru rv p6
    simpa using z
  | some j =>
    refine wpAny_bind (wpAny_dictEntries (s := { s with toks := t }) p1 p5 ?_)
    have hj : j < ks.length := by simpa using (List.getElem?_eq_some_iff.mp (kIdx_some hi)).1
    obtain ⟨en, hen⟩ : ∃ en, e.2[j]? = some en := ⟨e.2[j]'(by omega), List.getElem?_eq_getElem _⟩
    obtain ⟨de, q1, q2⟩ := L2.paired_get (G := fun (x : Ent) (e : DictEntry) => EntR e x.1 x.2.1 x.2.2) p6 hen
    rw [Array.getElem?_toList] at q1
    rw [q1]
    exact wpAny_bind (wpAny_rule (wpAny_pure (h1 j en de.val t hi hen q2.val)))
theorem look_put {α : Type} {k : D} {x : α} : ∀ {kvs : List (D × α)}, lookD k (putD k x kvs) = some x
  | [] => by
    show (if NestedKey.beq k.key k.key = true then some x else none) = some x
    rw [if_pos (NestedKey.beq_self _)]
  | p :: r => by
    unfold putD
    by_cases hb : NestedKey.beq p.1.key k.key = true
    · rw [if_pos hb]
      show (if NestedKey.beq p.1.key k.key = true then some x else lookD k r) = some x
      rw [if_pos hb]
    · rw [if_neg hb]
      show (if NestedKey.beq p.1.key k.key = true then some p.2 else lookD k (putD k x r)) = some x
      rw [if_neg hb, look_put]
theorem put_put {α : Type} {k : D} {x y : α} : ∀ {kvs : List (D × α)}, putD k y (putD k x kvs) = putD k y kvs
  | [] => by
    show (if NestedKey.beq k.key k.key = true then [(k, y)] else _) = [(k, y)]
    rw [if_pos (NestedKey.beq_self _)]
  | p :: r => by
    by_cases hb : NestedKey.beq p.1.key k.key = true
    · have e1 : putD k x (p :: r) = (p.1, x) :: r := by unfold putD; rw [if_pos hb]
      have e2 : putD k y (p :: r) = (p.1, y) :: r := by unfold putD; rw [if_pos hb]
      rw [e1, e2]
      show (if NestedKey.beq p.1.key k.key = true then (p.1, y) :: r else _) = _
      rw [if_pos hb]
    · have e1 : putD k x (p :: r) = p :: putD k x r := by rw [putD]; rw [if_neg hb]
      have e2 : putD k y (p :: r) = p :: putD k y r := by rw [putD]; rw [if_neg hb]
      rw [e1, e2]
      show (if NestedKey.beq p.1.key k.key = true then (p.1, y) :: putD k x r else p :: putD k y (putD k x r)) = _
      rw [if_neg hb, put_put]
theorem kIdx_app {k : D} : ∀ {ks : List D}, kIdx k ks = none → kIdx k (ks ++ [k]) = some ks.length
  | [], _ => by
    show (if NestedKey.beq k.key k.key = true then some 0 else none) = some 0
    rw [if_pos (NestedKey.beq_self _)]
  | x :: xs, h => by
    have h : (if NestedKey.beq x.key k.key = true then some 0 else (kIdx k xs).map (· + 1)) = none := h
    show (if NestedKey.beq x.key k.key = true then some 0 else (kIdx k (xs ++ [k])).map (· + 1)) = some (xs.length + 1)
    by_cases hb : NestedKey.beq x.key k.key = true
    · rw [if_pos hb] at h; cases h
    · rw [if_neg hb] at h ⊢
      rw [kIdx_app (Option.map_eq_none_iff.mp h)]
      rfl
theorem look_none {α : Type} {k : D} {kvs : List (D × α)} (h : lookD k kvs = none) : kIdx k (kvs.map (·.1)) = none := by
  rw [lookD_idx] at h
  cases hi : kIdx k (kvs.map (·.1)) with
  | none => rfl
  | some j =>
    rw [hi] at h
    have z := (List.getElem?_eq_some_iff.mp (kIdx_some hi)).1
    have h : (kvs[j]?).map (·.2) = none := h
    rw [List.getElem?_eq_getElem (by simpa using z)] at h
    cases h
/-- the list at k in a slot's dict, and what an append makes of the state -/
theorem sd_app {d : PEnv} {t : Tmp} {F : Fps} {i : Nat} {kvs : List (D × O)} {k : D} {xs : List O} {pa : Addr} {e : DE} {f : List Addr} (S : ST X.K X.w C H Hf d g t F) (hi : d[i]? = some (some (.dic kvs))) (hk : k.kOk 8 = true) (hl : lookD k kvs = some (.lst xs))
    (hv : g[i]? = some (some (.ref pa))) (e2 : F i = pa :: f) (ok : KeysOk (kvs.map (·.1))) (hh : H pa = some (hoDic pa e)) (rd : OrD X.K X.w C H Hf kvs e.2 f) :
    ∃ j en p vs, kIdx k (kvs.map (·.1)) = some j ∧ e.2[j]? = some en ∧ en.2.2 = .ref p ∧ H p = some (.lst vs) ∧ vs.length = xs.length ∧
      ∀ y vy, Rp X.K X.w C Hf y vy → ∃ F', ST X.K X.w C (upd H p (.lst (vs ++ [vy]))) Hf (d.set i (some (.dic (putD k (.lst (xs ++ [.val y])) kvs)))) g t F' ∧ Go H Hf F (upd H p (.lst (vs ++ [vy]))) Hf F' := by
  obtain ⟨j, en, fo, f1, f2, h1, h2, h3, h4, h5⟩ := orD_at rd hl
  obtain ⟨p, vs, f0, e3, e4, h6, h7⟩ := h3
  have nd := S.nd i
  rw [e2, h4, e4] at nd
  have hpf : pa ∉ f1 ++ p :: f0 ++ f2 := (List.nodup_cons.mp nd).1
  have nd2 := (List.nodup_cons.mp nd).2
  have hpp : p ∉ f1 ∧ p ∉ f0 ∧ p ∉ f2 := by
    rw [List.append_assoc, List.cons_append] at nd2
    have z := List.nodup_append.mp nd2
    have z2 := (List.nodup_cons.mp z.2.1).1
    exact ⟨fun q => z.2.2 p q p List.mem_cons_self rfl, fun q => z2 (List.mem_append_left _ q), fun q => z2 (List.mem_append_right _ q)⟩
  refine ⟨j, en, p, vs, h1, h2, e3, h6, h7.length, fun y vy ry => ?_⟩
  have hne : pa ≠ p := fun q => hpf (by rw [q]; simp)
  refine S.mutSlot0 hi hv (f' := pa :: (f1 ++ (p :: f0) ++ f2)) (fun a u q n => ?_) nd (fun a ha => .inl (by rw [e2, h4, e4]; exact ha)) ⟨pa, e, _, rfl, rfl, keysOk_put ok hk, by rw [upd_ne hne]; exact hh, h5 _ _ _ (fun a ha => ?_) ⟨p, vs ++ [vy], f0, e3, rfl, upd_same, orL_snoc ry (OrL.mono Le.rfl xs vs f0 (fun a ha => upd_ne fun q => hpp.2.1 (by rw [← q]; exact ha)) h7)⟩⟩
  · rw [upd_ne fun z => n (by rw [z, e2, h4, e4]; simp)]
    exact q
  · refine upd_ne fun z => ?_
    subst z
    rcases List.mem_append.mp ha with z | z
    · exact hpp.1 z
    · exact hpp.2.2 z
def isDic (d : PEnv) (i : Nat) : Bool := match d.getD i none with
  | some (.dic _) => true
  | _ => false
theorem isDic_eq {d : PEnv} {i : Nat} (h : isDic d i = true) : ∃ xs, d.getD i none = some (.dic xs) := by
  unfold isDic at h
  split at h
  · rename_i xs e
    exact ⟨xs, e⟩
  · cases h
def evSdA (i : Nat) (fk : Ev) (q : EvQ) : Ev := fun d => if isDic d i = true then (fk d).bind fun a => match a.2.getD i none with
  | some (.dic kvs) => if a.1.d.kOk 8 = true ∧ kvs.length < 100000 then (match lookD a.1.d kvs with
    | some (.lst xs) => (q a.2).bind fun y => if xs.length < 100000 then some (.val .non, a.2.set i (some (.dic (putD a.1.d (.lst (xs ++ [.val y])) kvs)))) else none
    | none => (q (a.2.set i (some (.dic (putD a.1.d (.lst []) kvs))))).bind fun y => some (.val .non, a.2.set i (some (.dic (putD a.1.d (.lst [.val y]) kvs))))
    | _ => none) else none
  | _ => none else none
theorem sd_new {d : PEnv} {t : Tmp} {F : Fps} {i : Nat} {kvs : List (D × O)} {k : D} {vk vl : V} {pa : Addr} {e : DE} {fa : List Addr} (S : ST X.K X.w C H Hf d g (t ++ [(.val k, vk)] ++ [(O.ofL [], vl)]) F) (hi : d[i]? = some (some (.dic kvs))) (hk : k.kOk 8 = true) (hn : kIdx k (kvs.map (·.1)) = none)
    (hv : g[i]? = some (some (.ref pa))) (e6 : F i = pa :: fa) (ok : KeysOk (kvs.map (·.1))) (hh : H pa = some (hoDic pa e)) (rd : OrD X.K X.w C H Hf kvs e.2 fa) (rk : Rp X.K X.w C Hf k vk) (ob : Obj) :
    ∃ p F', vl = .ref p ∧ (upd H pa (hoDic pa (ob, e.2 ++ [(vk, k.hash X.w, vl)]))) p = some (.lst []) ∧ ST X.K X.w C (upd H pa (hoDic pa (ob, e.2 ++ [(vk, k.hash X.w, vl)]))) Hf (d.set i (some (.dic (putD k (O.ofL []) kvs)))) g t F' ∧ Go H Hf F (upd H pa (hoDic pa (ob, e.2 ++ [(vk, k.hash X.w, vl)]))) Hf F' ∧
      ∀ y vy, Rp X.K X.w C Hf y vy → ∃ F'', ST X.K X.w C (upd (upd H pa (hoDic pa (ob, e.2 ++ [(vk, k.hash X.w, vl)]))) p (.lst [vy])) Hf (d.set i (some (.dic (putD k (.lst [.val y]) kvs)))) g t F'' ∧ Go (upd H pa (hoDic pa (ob, e.2 ++ [(vk, k.hash X.w, vl)]))) Hf F' (upd (upd H pa (hoDic pa (ob, e.2 ++ [(vk, k.hash X.w, vl)]))) p (.lst [vy])) Hf F'' := by
  have hil := (List.getElem?_eq_some_iff.mp hi).1
  have r4' : Or X.K X.w C H Hf (O.ofL []) vl (F (d.length + (t ++ [(O.val k, vk)]).length)) := S.tmp _ _ _ (by simp)
  have nda := S.nd i
  rw [e6] at nda
  obtain ⟨pl, vs, f0, e7, e8, h6, h7⟩ := r4'
  obtain ⟨h8, h9⟩ := h7
  subst e7 h8 h9
  have hdj : pl ∉ pa :: fa := fun z => S.dj (d.length + (t ++ [(O.val k, vk)]).length) i pl (by simp; omega) (by rw [e8]; simp) (by rw [e6]; exact z)
  obtain ⟨f1, f2, od, sb⟩ := orD_put (k := k) (x := O.ofL []) (y := vk) (v := .ref pl) (fx := [pl]) (H := H) (Hf := Hf) rk ⟨pl, [], [], rfl, rfl, h6, rfl, rfl⟩ rd
  rw [hn] at od
  have sb' : ∀ a, a ∈ f1 ++ [pl] ++ f2 → a ∈ fa ∨ a = pl := fun a ha => by
    simp only [List.mem_append, List.mem_singleton] at ha
    rcases ha with (z | z) | z
    · exact .inl (sb.subset (List.mem_append_left _ z))
    · exact .inr z
    · exact .inl (sb.subset (List.mem_append_right _ z))
  have hpapl : pa ≠ pl := fun z => hdj (by rw [z]; exact List.mem_cons_self)
  have ndn : (pa :: (f1 ++ [pl] ++ f2)).Nodup := by
    have n1 : (f1 ++ f2).Nodup := (List.nodup_cons.mp nda).2.sublist sb
    have n2 := List.nodup_append.mp n1
    have n3 : pl ∉ f1 := fun z => hdj (List.mem_cons_of_mem _ (sb.subset (List.mem_append_left _ z)))
    have n4 : pl ∉ f2 := fun z => hdj (List.mem_cons_of_mem _ (sb.subset (List.mem_append_right _ z)))
    refine List.nodup_cons.mpr ⟨fun z => ?_, ?_⟩
    · rcases sb' pa z with z | z
      · exact (List.nodup_cons.mp nda).1 z
      · exact hpapl z
    · rw [List.append_assoc, List.singleton_append]
      refine List.nodup_append.mpr ⟨n2.1, List.nodup_cons.mpr ⟨n4, n2.2.1⟩, fun a ha b hb => ?_⟩
      rcases List.mem_cons.mp hb with z | z
      · subst z
        exact fun e => n3 (by rw [← e]; exact ha)
      · exact n2.2.2 a ha b z
  obtain ⟨F7, S7, g7, w7⟩ := S.mutSlot' (k := i) (H' := upd H pa (hoDic pa (ob, e.2 ++ [(vk, k.hash X.w, .ref pl)]))) (o' := .dic (putD k (O.ofL []) kvs)) (f' := pa :: (f1 ++ [pl] ++ f2)) hi hv (fun a u q n => by
      rw [upd_ne fun z => n (by rw [z, e6]; exact List.mem_cons_self)]
      exact q) ndn (fun a ha => by
      rcases List.mem_cons.mp ha with z | z
      · exact .inl (by rw [z, e6]; exact List.mem_cons_self)
      · rcases sb' a z with z | z
        · exact .inl (by rw [e6]; exact List.mem_cons_of_mem _ z)
        · exact .inr (.inl (by rw [e8, z]; exact List.mem_singleton.mpr rfl)))
    ⟨pa, _, _, rfl, rfl, keysOk_put ok hk, upd_same, OrD.mono Le.rfl _ _ _ (fun a ha => upd_ne (nd_not ndn a ha)) od⟩
  obtain ⟨S8, g8⟩ := S7.pop
  have hpl : (upd H pa (hoDic pa (ob, e.2 ++ [(vk, k.hash X.w, .ref pl)]))) pl = some (.lst []) := by
    rw [upd_ne (Ne.symm hpapl)]
    exact h6
  have hi8 : (d.set i (some (O.dic (putD k (O.ofL []) kvs))))[i]? = some (some (.dic (putD k (O.ofL []) kvs))) := List.getElem?_set_self hil
  refine ⟨pl, _, rfl, hpl, S8, g7.trans g8, fun y vy ry => ?_⟩
  have w8 : (uf F7 ((d.set i (some (O.dic (putD k (O.ofL []) kvs)))).length + t.length) []) i = pa :: (f1 ++ [pl] ++ f2) := by
    rw [uf_ne (by rw [List.length_set]; omega)]
    exact w7
  have od' := OrD.mono (H' := upd H pa (hoDic pa (ob, e.2 ++ [(vk, k.hash X.w, .ref pl)]))) Le.rfl _ _ _ (fun a ha => upd_ne (nd_not ndn a ha)) od
  obtain ⟨j, en, p', vs', z1, z2, z3, z4, z5, z6⟩ := sd_app (e := (ob, e.2 ++ [(vk, k.hash X.w, .ref pl)])) S8 hi8 hk look_put hv w8 (keysOk_put ok hk) upd_same od'
  have hidx : kIdx k ((putD k (O.ofL []) kvs).map (·.1)) = some (kvs.map (·.1)).length := by
    rw [putD_keys, hn]
    exact kIdx_app hn
  rw [hidx] at z1
  cases z1
  have hlen : e.2.length = (kvs.map (·.1)).length := (OrD.k S.le rd).length
  have z2 : (e.2 ++ [(vk, k.hash X.w, V.ref pl)])[(kvs.map (·.1)).length]? = some en := z2
  rw [← hlen, List.getElem?_append_right (Nat.le_refl _), Nat.sub_self] at z2
  cases z2
  cases z3
  rw [hpl] at z4
  cases z4
  obtain ⟨F9, S9, g9⟩ := z6 y vy ry
  rw [List.set_set, put_put] at S9
  exact ⟨F9, S9, g9⟩
theorem sd_inner {i : Nat} {x : Str} {ek el : Expr} {fk fl : Ev} {p apos cpos : Pos} {pins : List (Addr × Obj)} {s : Shared} {g : L2.St} {H Hf : Hp} {d d1 : PEnv} {t : Tmp} {F : Fps} {o1 : O} {kvs0 kvs : List (D × O)} (hu : X.A.units + 20 < cLine) (hN : X.N[i]? = some x) (hv : Vis X.env.scope x) (hd : (x == ("__debug__" : Str)) = false) (hcd : (x == ("__classdict__" : Str)) = false) (hk : Den X C ek fk) (hl : Den X C el fl) (hfl : ∀ d, fl d = some (O.ofL [], d))
    (hb1 : attributeBase (.Name x p) "setdefault" X.env (eval (.Name x p) X.env) = eval (.Name x p) X.env) (hf1 : ((backTo cpos (starEach [ek, el] X.env)).all (fun x => !x.1) && (backToKw cpos (keywordEach [] X.env)).all (fun x => x.1.isSome) && decide (([ek, el] : List Expr).length + ([] : List Keyword).length + (if ([] : List Keyword).isEmpty then 0 else 1) < 30)) = true)
    (hl1 : (apos.endLine == cpos.line) = true) (hs1 : backTo cpos (starEach [ek, el] X.env) = [(false, eval ek X.env), (false, eval el X.env)]) (I : Inv X pins g H s) (S : ST X.K X.w C H Hf d g t F) (e0 : d.getD i none = some (.dic kvs0)) (q1 : fk d = some (o1, d1)) (ex : d1.getD i none = some (.dic kvs)) (hz : o1.d.kOk 8 = true ∧ kvs.length < 100000) (hnl : ∀ z, lookD o1.d kvs = some z → ∃ xs, z = .lst xs) :
    wpAny (model X.prog X.w) X.A (eval (.Call (.Attribute (.Name x p) "setdefault" apos) [ek, el] [] cpos) X.env) (fun u s' => ∃ (dm : PEnv) (Hm Hfm : Hp) (Fm : Fps) (xs : List O) (pa : Addr) (vs : List V), u = .ref pa ∧ Inv X pins g Hm s' ∧ ST X.K X.w C Hm Hfm dm g t Fm ∧ Go H Hf F Hm Hfm Fm ∧ Hm pa = some (.lst vs) ∧ vs.length = xs.length ∧
      (∀ y vy, Rp X.K X.w C Hfm y vy → ∃ F', ST X.K X.w C (upd Hm pa (.lst (vs ++ [vy]))) Hfm (d1.set i (some (.dic (putD o1.d (.lst (xs ++ [.val y])) kvs)))) g t F' ∧ Go Hm Hfm Fm (upd Hm pa (.lst (vs ++ [vy]))) Hfm F') ∧
      ((lookD o1.d kvs = some (.lst xs) ∧ dm = d1) ∨ (lookD o1.d kvs = none ∧ xs = [] ∧ dm = d1.set i (some (.dic (putD o1.d (.lst []) kvs)))))) X.xe s := by
  refine wpAny_Call_method_late hb1 hf1 hl1 hs1 (thn ((denP_slot (C := C) (pos := p) hN hv hd hcd).run pins s g H Hf d t F [] d I S (by show (d.getD i none).bind _ = _; rw [e0]; rfl)) fun u s1 ⟨v, H1, Hf1, F1, I1, r1, S1, g1, sl1⟩ => ?_)
  have S1 : ST X.K X.w C H1 Hf1 d g t F1 := by simpa using S1
  obtain ⟨v', hv', ro⟩ := S1.env i _ (getD_some e0)
  rw [sl1 i rfl] at hv'
  cases hv'
  obtain ⟨ht, hdd⟩ := or_ty I1 S1.le ro r1 (T := "dict") rfl (by decide)
  refine ⟨"dict", "dict.setdefault", PySem.F.plainAttrs_dict, PySem.F.slot_dict_setdefault, PySem.F.type_dict_setdefault, ht, hdd, ?_⟩
  refine Calls.callWith_builtin rfl (Calls.evalArgs_plain (Calls.spliced_cons (thn (hk.run pins s1 g H1 Hf1 d t F1 o1 d1 I1 S1 q1) fun uk s2 ⟨vk, H2, Hf2, F2, I2, r2, S2, g2⟩ => ?_)))
  obtain ⟨Hf3, S3, g3, rp3⟩ := S2.freezeTop
  refine Calls.spliced_cons (thn (hl.run pins s2 g H2 Hf3 d1 _ _ (O.ofL []) d1 I2 S3 (hfl d1)) fun ul s4 ⟨vl, H4, Hf4, F4, I4, r4, S4, g4⟩ => Calls.spliced_nil ?_)
  obtain ⟨S5, g5⟩ := S4.pop
  obtain ⟨S6, g6⟩ := S5.pop
  have hil := (List.getElem?_eq_some_iff.mp (getD_some ex)).1
  obtain ⟨va, hva, pa, e, fa, e5, e6, ok, hh, rd⟩ := S6.env i _ (getD_some ex)
  rw [sl1 i rfl] at hva
  cases hva
  subst e5
  obtain rfl : u = .ref pa := r1
  obtain ⟨hT, hm, _⟩ := dic_type I4 hh
  have rk := OrD.k S6.le rd
  have g14 := ((g1.trans g2).trans g3).trans g4
  have rp4 := Rp.mono g4.grow _ _ rp3
  have hS : wpAny (model X.prog X.w) X.A.in1 (dictSetDefault pa uk ul) (fun r t' => (∃ (dm : PEnv) (Hm Hfm : Hp) (Fm : Fps) (xs : List O) (pa : Addr) (vs : List V), r = .ref pa ∧ Inv X pins g Hm t' ∧ ST X.K X.w C Hm Hfm dm g t Fm ∧ Go H Hf F Hm Hfm Fm ∧ Hm pa = some (.lst vs) ∧ vs.length = xs.length ∧
      (∀ y vy, Rp X.K X.w C Hfm y vy → ∃ F', ST X.K X.w C (upd Hm pa (.lst (vs ++ [vy]))) Hfm (d1.set i (some (.dic (putD o1.d (.lst (xs ++ [.val y])) kvs)))) g t F' ∧ Go Hm Hfm Fm (upd Hm pa (.lst (vs ++ [vy]))) Hfm F') ∧
      ((lookD o1.d kvs = some (.lst xs) ∧ dm = d1) ∨ (lookD o1.d kvs = none ∧ xs = [] ∧ dm = d1.set i (some (.dic (putD o1.d (.lst []) kvs))))))) X.xe s4 := by
    refine sd_d (by show X.A.units + 1 + 8 < cLine; omega) I4 hh ok rk hz.1 (Rp.mono S4.le _ _ rp4) r2 r4 (by simpa using hz.2) (fun j en v' tk hj hen hv' => ?_) fun hn ob s5 I5 => ?_
    · cases hlk : lookD o1.d kvs with
      | none => rw [look_none hlk] at hj; cases hj
      | some ol =>
        obtain ⟨xs, e9⟩ := hnl ol hlk
        subst e9
        obtain ⟨j', en', pl, vs, z5, z6, z7, z8, z9, z10⟩ := sd_app S6 (getD_some ex) hz.1 hlk (sl1 i rfl) e6 ok hh rd
        rw [hj] at z5
        cases z5
        rw [hen] at z6
        cases z6
        rw [z7] at hv'
        obtain rfl : v' = .ref pl := hv'
        exact ⟨d1, _, _, _, xs, pl, vs, rfl, I4.tok tk, S6, (g14.trans g5).trans g6, z8, z9, z10, .inl ⟨rfl, rfl⟩⟩
    · have hlk : lookD o1.d kvs = none := by
        rw [lookD_idx, hn]
        rfl
      have e6' : F4 i = pa :: fa := by
        rw [← e6, uf_ne (by omega), uf_ne (by simp; omega)]
      obtain ⟨pl, F7, z1, z2, z3, z4, z5⟩ := sd_new S4 (getD_some ex) hz.1 hn (sl1 i rfl) e6' ok hh rd rp4 ob
      subst z1
      obtain rfl : ul = .ref pl := r4
      exact ⟨_, _, _, F7, [], pl, [], rfl, I5, z3, g14.trans z4, z2, rfl, z5, .inr ⟨hlk, rfl, rfl⟩⟩
  exact call_meetsIn PySem.F.slot_dict_setdefault hT PySem.F.entry_dict_setdefault (PySem.F.args_dict_setdefault_3 _ _ _) (meets_sd hm) ⟨hT, hS⟩
theorem den_sdA {i : Nat} {x : Str} {ek el ey : Expr} {fk fl : Ev} {q : EvQ} {p apos cpos apos2 cpos2 : Pos} (hu : X.A.units + 20 < cLine) (hN : X.N[i]? = some x) (hv : Vis X.env.scope x) (hd : (x == ("__debug__" : Str)) = false) (hcd : (x == ("__classdict__" : Str)) = false) (hk : Den X C ek fk) (hl : Den X C el fl) (hfl : ∀ d, fl d = some (O.ofL [], d)) (hq : DenQ X C ey q)
    (hb1 : attributeBase (.Name x p) "setdefault" X.env (eval (.Name x p) X.env) = eval (.Name x p) X.env) (hf1 : ((backTo cpos (starEach [ek, el] X.env)).all (fun x => !x.1) && (backToKw cpos (keywordEach [] X.env)).all (fun x => x.1.isSome) && decide (([ek, el] : List Expr).length + ([] : List Keyword).length + (if ([] : List Keyword).isEmpty then 0 else 1) < 30)) = true)
    (hl1 : (apos.endLine == cpos.line) = true) (hs1 : backTo cpos (starEach [ek, el] X.env) = [(false, eval ek X.env), (false, eval el X.env)])
    (hb2 : attributeBase (.Call (.Attribute (.Name x p) "setdefault" apos) [ek, el] [] cpos) "append" X.env (eval (.Call (.Attribute (.Name x p) "setdefault" apos) [ek, el] [] cpos) X.env) = eval (.Call (.Attribute (.Name x p) "setdefault" apos) [ek, el] [] cpos) X.env)
    (hf2 : ((backTo cpos2 (starEach [ey] X.env)).all (fun x => !x.1) && (backToKw cpos2 (keywordEach [] X.env)).all (fun x => x.1.isSome) && decide (([ey] : List Expr).length + ([] : List Keyword).length + (if ([] : List Keyword).isEmpty then 0 else 1) < 30)) = true)
    (hl2 : (apos2.endLine == cpos2.line) = true) (hs2 : backTo cpos2 (starEach [ey] X.env) = [(false, eval ey X.env)]) :
    Den X C (.Call (.Attribute (.Call (.Attribute (.Name x p) "setdefault" apos) [ek, el] [] cpos) "append" apos2) [ey] [] cpos2) (evSdA i fk q) := by
  refine ⟨fun pins s g H Hf d t F o d' I S qq => ?_⟩
  unfold evSdA at qq
  split at qq
  · rename_i hdi
    obtain ⟨kvs0, e0⟩ := isDic_eq hdi
    obtain ⟨⟨o1, d1⟩, q1, q2⟩ := Option.bind_eq_some_iff.mp qq
    have q2 : (match d1.getD i none with
      | some (.dic kvs) => if o1.d.kOk 8 = true ∧ kvs.length < 100000 then (match lookD o1.d kvs with
        | some (.lst xs) => (q d1).bind fun y => if xs.length < 100000 then some (O.val D.non, d1.set i (some (.dic (putD o1.d (.lst (xs ++ [.val y])) kvs)))) else none
        | none => (q (d1.set i (some (.dic (putD o1.d (.lst []) kvs))))).bind fun y => some (O.val D.non, d1.set i (some (.dic (putD o1.d (.lst [.val y]) kvs))))
        | _ => none) else none
      | _ => none) = some (o, d') := q2
    split at q2
    · rename_i kvs ex
      split at q2
      · rename_i hz
        have hnl : ∀ z, lookD o1.d kvs = some z → ∃ xs, z = .lst xs := fun z hl => by
          rw [hl] at q2
          cases z with
          | lst xs => exact ⟨xs, rfl⟩
          | val => cases q2
          | dic => cases q2
          | ins => cases q2
        refine wpAny_Call_method_late hb2 hf2 hl2 hs2 (thn (sd_inner hu hN hv hd hcd hk hl hfl hb1 hf1 hl1 hs1 I S e0 q1 ex hz hnl) fun u s1 ⟨dm, Hm, Hfm, Fm, xs, pa, vs, eu, I1, S1, g1, hh, hlen, fin, alt⟩ => ?_)
        subst eu
        obtain ⟨its, _, pl, _⟩ := I1.list (.inl (.inl hh))
        refine ⟨"list", "list.append", PySem.F.plainAttrs_list, PySem.F.slot_list_append, PySem.F.type_list_append, pl.isList.typeIs, fun a e => ?_, ?_⟩
        · cases e
          obtain ⟨ob, n, e, c, hdn, _⟩ := pl
          exact ⟨ob, e, hdn⟩
        have main : ∃ y, q dm = some y ∧ xs.length < 100000 ∧ o = .val .non ∧ d' = d1.set i (some (.dic (putD o1.d (.lst (xs ++ [.val y])) kvs))) := by
          rcases alt with ⟨hlk, e1⟩ | ⟨hlk, e1, e2⟩
          · rw [hlk] at q2
            subst e1
            obtain ⟨y, h1, h2⟩ := Option.bind_eq_some_iff.mp q2
            split at h2
            · rename_i hx
              cases h2
              exact ⟨y, h1, hx, rfl, rfl⟩
            · cases h2
          · rw [hlk] at q2
            subst e1 e2
            obtain ⟨y, h1, h2⟩ := Option.bind_eq_some_iff.mp q2
            cases h2
            exact ⟨y, h1, by decide, rfl, rfl⟩
        obtain ⟨y, h1, h2, h3, h4⟩ := main
        subst h3 h4
        refine Calls.callWith_builtin rfl (Calls.evalArgs_plain (Calls.spliced_cons (thn (hq.run pins s1 g Hm Hfm dm t Fm y I1 S1 h1) fun uy s2 ⟨vy, I2, ry, rp⟩ => Calls.spliced_nil ?_)))
        refine app_ok I2 hh (by rw [hlen]; exact Nat.lt_of_lt_of_le h2 (by decide)) ry fun s3 I3 => ?_
        obtain ⟨F5, S5, g5⟩ := fin y vy rp
        obtain ⟨S6, g6⟩ := S5.pushV (x := .non) (v := .non) rfl
        exact ⟨.non, _, _, _, I3, rfl, S6, (g1.trans g5).trans g6⟩
      · cases q2
    · cases q2
  · cases qq
end
end Pd
set_option maxHeartbeats 1000000
/-! Pd23: calls of built-ins; what a thing's items are; sorted, list, tuple, len. -/
namespace Pd
open PySem L2 PyProof.Rows
section
variable {X : Cx} {C : Str → Option Addr} {pins : List (Addr × Obj)} {g : L2.St} {H Hf : Hp} {s : Shared}
/-- a built-in is called, by values -/
def CbV (X : Cx) (C : Str → Option Addr) (f : Value) (r : List D → Option O) : Prop :=
  ∀ (pins : List (Addr × Obj)) (s : Shared) (g : L2.St) (H Hf : Hp) (xs : List V) (us : List Value) (as : List D) (o : O), Inv X pins g H s → Le Hf H → Vals xs us → RsA X.K X.w C H Hf as xs → r as = some o →
    wpAny (model X.prog X.w) X.A (call f us) (PO X C pins g H Hf o) X.xe s
theorem CbV.alt {f : Value} {r q p : List D → Option O} (h : CbV X C f r) (h' : CbV X C f q) (hp : ∀ as o, p as = some o → r as = some o ∨ q as = some o) : CbV X C f p := by
  intro pins s g H Hf xs us as o I l rv ra e
  rcases hp as o e with z | z
  · exact h pins s g H Hf xs us as o I l rv ra z
  · exact h' pins s g H Hf xs us as o I l rv ra z
theorem den_cbB {id : String} {x : Str} {e : Expr} {es : List Expr} {ps : List Opn} {r : List D → Option O} {p pos : Pos} (hf : CbV X C (.builtin id) r) (hg : Gl X x) (hm : X.mg x = none) (hv : bootBuiltins x = some (.builtin id)) (hn : x ≠ "__name__") (hdb : (x == ("__debug__" : Str)) = false) (ha : DenA X C (e :: es) ps)
    (he : starEach (e :: es) X.env = (false, eval e X.env) :: starEach es X.env) (hpl : (backTo pos (starEach es X.env)).any (·.1) = false) : Den X C (.Call (.Name x p) (e :: es) [] pos) (evN ps r) := by
  refine ⟨fun pins s g H Hf d t F o d' I S q => ?_⟩
  obtain ⟨ta, os, xs, h1, h2, h3, h4⟩ := evN_inv q
  exact Call_ (ld_blt I hg hm hv (callWith_builtin1 (thn (ha.run pos pins s g H Hf d t F ta d' I S h1) fun us s1 k => fin_op k h2 h3 fun vs H2 Hf2 I2 l2 rv ra => hf pins s1 g H2 Hf2 vs us xs o I2 l2 rv ra h4) he hpl) hn hdb)
theorem den_cbT {T : String} {x : Str} {e : Expr} {es : List Expr} {ps : List Opn} {r : List D → Option O} {p pos : Pos} (hf : CbV X C (.type T) r) (hg : Gl X x) (hm : X.mg x = none) (hv : bootBuiltins x = some (.type T)) (hn : x ≠ "__name__") (hdb : (x == ("__debug__" : Str)) = false) (ha : DenA X C (e :: es) ps)
    (he : starEach (e :: es) X.env = (false, eval e X.env) :: starEach es X.env) (hpl : (backTo pos (starEach es X.env)).any (·.1) = false) : Den X C (.Call (.Name x p) (e :: es) [] pos) (evN ps r) := by
  refine ⟨fun pins s g H Hf d t F o d' I S q => ?_⟩
  obtain ⟨ta, os, xs, h1, h2, h3, h4⟩ := evN_inv q
  exact Call_ (ld_blt I hg hm hv (callWith_type1 (thn (ha.run pos pins s g H Hf d t F ta d' I S h1) fun us s1 k => fin_op k h2 h3 fun vs H2 Hf2 I2 l2 rv ra => hf pins s1 g H2 Hf2 vs us xs o I2 l2 rv ra h4) he hpl) hn hdb)

/-! ### the items, gathered -/
theorem src_raw {prog : Program} {w : World} {d : Addr} {es : Array DictEntry} {ep : Nat} (lo : (d == sysModules) = false) : PySem.W.KdlSrc prog w "dict" d d es.size (fun i v => ∃ hi : i < es.size, v = es[i].key) (fun h => h.DictRaw d es ep) where
  type := fun _ hm => hm.typeIs
  there := fun _ hm => let ⟨_, ho, _⟩ := hm; ⟨Heap.lt_size ho, Heap.lt_size ho⟩
  keep := fun _ _ hm hk => hm.at fun o e => hk d (.inl rfl) o e
  notList := by decide
  notTuple := by decide
  hint := fun _ _ _ _ hm hq => PySem.W.kdl_hint_dict hm.typeIs hq
  iter := fun _ s hh hm => ⟨_, _, (fun _ _ hq => wpAny_pyIter_dict_raw lo hm hq), Walks.rawKeys hh _ d (let ⟨_, ho, _⟩ := hm; Nat.ne_of_lt (Heap.lt_size ho)) es ep, ⟨⟨_, Heap.get?_push_size _ rfl, rfl, rfl⟩, hm.at fun _ e => Heap.get?_push_of_some _ e⟩⟩
/-- the list, tuple, dict's items -/
def D.seqs : D → Option (List D)
  | .lst xs => some xs
  | .tup xs => some xs
  | .dic kvs => some (keysOf kvs)
  | _ => none
theorem keys_vals {es : List DictEntry} {xs : List Ent} (h : EntsR es xs) : Vals (xs.map (·.1)) (es.map (·.key)) := by
  unfold EntsR at h
  induction h with
  | nil => exact .nil
  | cons a t ih => exact .cons a.key ih
theorem rpK_l : ∀ {kvs : List (D × D)} {es : List Ent}, RpD X.K X.w C Hf kvs es → RpL X.K X.w C Hf (keysOf kvs) (es.map (·.1))
  | [], _, h => by
    have h : _ = ([] : List Ent) := h
    subst h
    rfl
  | (k, d) :: r, _, ⟨a, v, us, e, rk, rv, rs⟩ => by
    subst e
    exact ⟨a, _, rfl, rk, rpK_l rs⟩
theorem items_eq {acc : Array Value} {es : Array DictEntry} (h : ItemsOf (fun i v => ∃ hi : i < es.size, v = es[i].key) acc es.size) : acc.toList = es.toList.map (·.key) := by
  refine List.ext_getElem? fun i => ?_
  rw [Array.getElem?_toList, List.getElem?_map, Array.getElem?_toList]
  by_cases hi : i < es.size
  · have hi' : i < acc.size := by rw [h.1]; exact hi
    rw [Array.getElem?_eq_getElem hi', Array.getElem?_eq_getElem hi]
    obtain ⟨_, e⟩ := h.2 i _ (Array.getElem?_eq_getElem hi')
    rw [e]
    rfl
  · rw [Array.getElem?_eq_none (by rw [h.1]; omega), Array.getElem?_eq_none (by omega)]
    rfl
theorem coll {A : Around} {E : Value → Shared → Prop} {x : D} {ds : List D} {v : V} {u : Value} {Q : List Value → Shared → Prop} (hh : A.handled = none) (I : Inv X pins g H s) (l : Le Hf H) (rv : RelV v u) (r : Rs X.K X.w C H Hf x v) (h : x.seqs = some ds)
    (q : ∀ vs us s', Inv X pins g H s' → Vals vs us → RpL X.K X.w C Hf ds vs → us.length ≤ sizeLine → Q us s') : wpAny (model X.prog X.w) A (collect u) Q E s := by
  cases x with
  | lst xs =>
    cases h
    obtain ⟨p, vs, e, hp, rs⟩ := r
    subst e
    obtain rfl : u = .ref p := rv
    obtain ⟨its, rr, ⟨o, n, ho, hc, hn, hd⟩, hz⟩ := I.list (SqL.of hp)
    exact wpAny_collect_seq p (.inl rfl) ho hc hd (fun h' k => q vs its _ (I.kept (t' := s.toks) k) rr rs (by rw [← rr.length]; exact hz)) (by rw [List.size_toArray, ← rr.length]; exact hz)
  | tup xs =>
    cases h
    obtain ⟨p, vs, e, hp, rs⟩ := r
    subst e
    obtain rfl : u = .ref p := rv
    obtain ⟨its, rr, ⟨o, ho, hc, n, hd⟩, hz⟩ := I.tuple (l.sqT hp)
    exact wpAny_collect_seq p (.inr rfl) ho hc hd (fun h' k => q vs its _ (I.kept (t' := s.toks) k) rr rs (by rw [← rr.length]; exact hz)) (by rw [List.size_toArray, ← rr.length]; exact hz)
  | dic kvs =>
    cases h
    obtain ⟨a, e, e1, ok, hd, rd, rk⟩ := rs_dic l rv r
    subst e1
    obtain ⟨p1, p2, p3, p4, es, ep, p5, p6⟩ := Inv.dic I hd
    have hsz : es.size = e.2.length := by rw [paired_len p6, Array.length_toList]
    refine PySem.W.kdu_collect (src_raw (es := es) (ep := ep) p2) hh ⟨_, p1, p4, p5⟩ (by rw [hsz]; exact p3) fun h' tk acc hk hacc => ?_
    rw [items_eq hacc]
    exact q (e.2.map (·.1)) _ _ (I.kept (t' := tk) hk) (keys_vals p6) (rpK_l rd) (by rw [List.length_map, Array.length_toList, hsz]; exact p3)
  | _ => cases h

/-! ### sorted -/
def pyLe (a b : D) : Bool := PySem.W.dataLe false D.py a b
def D.isS : D → Bool
  | .str _ => true
  | _ => false
def D.isTS : D → Bool
  | .tup (x :: xs) => x.isS && xs.all D.isS
  | _ => false
def D.isTup1 : D → Bool
  | .tup (_ :: _) => true
  | _ => false
def D.isOth : D → Bool
  | .int _ => true
  | .str _ => true
  | .bl _ => true
  | .lst _ => true
  | _ => false
/-- the items can be put in order -/
def D.sortable (ds : List D) : Bool := (ds.all fun x => x.ok 60) && (ds.all D.isS || (ds.all D.isTS || ((ds.all fun x => ds.all fun y => PySem.W.alike x.py y.py) && (ds.all D.isTup1 || ds.all D.isOth))))
def sortD (ds : List D) : List D := ds.mergeSort pyLe
def rSorted : List D → Option O
  | [a] => a.seqs.bind fun ds => if D.sortable ds = true then some (O.ofL (sortD ds)) else none
  | _ => none
theorem isS_eq {d : D} (h : d.isS = true) : ∃ x, d = .str x := by
  cases d with
  | str x => exact ⟨x, rfl⟩
  | _ => cases h
theorem isTS_eq {d : D} (h : d.isTS = true) : ∃ x xs, d = .tup (x :: xs) ∧ ∀ y, y ∈ x :: xs → y.isS = true := by
  cases d with
  | tup xs =>
    cases xs with
    | nil => cases h
    | cons x xs =>
      have h : (x.isS && xs.all D.isS) = true := h
      rw [Bool.and_eq_true] at h
      refine ⟨x, xs, rfl, fun y hy => ?_⟩
      rcases List.mem_cons.mp hy with e | e
      · rw [e]; exact h.1
      · exact List.all_eq_true.mp h.2 y e
  | _ => cases h
theorem alike_strs : ∀ {xs ys : List D}, (∀ y, y ∈ xs → y.isS = true) → (∀ y, y ∈ ys → y.isS = true) → PySem.W.alikeAll (D.pys xs) (D.pys ys) = true
  | [], _, _, _ => by
    show PySem.W.alikeAll [] _ = true
    simp [PySem.W.alikeAll]
  | x :: xs, [], _, _ => by
    show PySem.W.alikeAll (x.py :: D.pys xs) [] = true
    simp [PySem.W.alikeAll]
  | x :: xs, y :: ys, hx, hy => by
    obtain ⟨a, e1⟩ := isS_eq (hx x List.mem_cons_self)
    obtain ⟨b, e2⟩ := isS_eq (hy y List.mem_cons_self)
    show PySem.W.alikeAll (x.py :: D.pys xs) (y.py :: D.pys ys) = true
    rw [PySem.W.alikeAll, alike_strs (fun z hz => hx z (List.mem_cons_of_mem _ hz)) (fun z hz => hy z (List.mem_cons_of_mem _ hz)), e1, e2]
    simp [D.py, PySem.W.alike]
theorem sortable_1 {ds : List D} (h : D.sortable ds = true) : (∀ x, x ∈ ds → x.ok 60 = true) ∧ PySem.W.AllAlike (ds.map D.py) ∧ PySem.W.Sortable (ds.map D.py) := by
  unfold D.sortable at h
  rw [Bool.and_eq_true, Bool.or_eq_true, Bool.or_eq_true, Bool.and_eq_true, Bool.or_eq_true] at h
  obtain ⟨h0, h⟩ := h
  refine ⟨List.all_eq_true.mp h0, ?_⟩
  have oth : ds.all D.isOth = true → PySem.W.Sortable (ds.map D.py) := fun h2 => .inr fun a ha => by
    obtain ⟨x, hx, rfl⟩ := List.mem_map.mp ha
    have z := List.all_eq_true.mp h2 x hx
    cases x with
    | int => exact ⟨(fun e => nomatch e), (fun _ e => nomatch e)⟩
    | str => exact ⟨(fun e => nomatch e), (fun _ e => nomatch e)⟩
    | bl => exact ⟨(fun e => nomatch e), (fun _ e => nomatch e)⟩
    | lst => exact ⟨(fun e => nomatch e), (fun _ e => nomatch e)⟩
    | _ => cases z
  have tp : ds.all D.isTup1 = true → PySem.W.Sortable (ds.map D.py) := fun h2 => .inl fun a ha => by
    obtain ⟨x, hx, rfl⟩ := List.mem_map.mp ha
    have z := List.all_eq_true.mp h2 x hx
    cases x with
    | tup xs =>
      cases xs with
      | nil => cases z
      | cons y ys => exact ⟨y.py, D.pys ys, rfl⟩
    | _ => cases z
  rcases h with h | h | ⟨h1, h2⟩
  · have hs := List.all_eq_true.mp h
    refine ⟨fun a ha b hb => ?_, oth (List.all_eq_true.mpr fun x hx => ?_)⟩
    · obtain ⟨x, hx, rfl⟩ := List.mem_map.mp ha
      obtain ⟨y, hy, rfl⟩ := List.mem_map.mp hb
      obtain ⟨p, e1⟩ := isS_eq (hs x hx)
      obtain ⟨q, e2⟩ := isS_eq (hs y hy)
      rw [e1, e2]
      simp [D.py, PySem.W.alike]
    · obtain ⟨p, e1⟩ := isS_eq (hs x hx)
      rw [e1]
      rfl
  · have hs := List.all_eq_true.mp h
    refine ⟨fun a ha b hb => ?_, tp (List.all_eq_true.mpr fun x hx => ?_)⟩
    · obtain ⟨x, hx, rfl⟩ := List.mem_map.mp ha
      obtain ⟨y, hy, rfl⟩ := List.mem_map.mp hb
      obtain ⟨p, ps, e1, e3⟩ := isTS_eq (hs x hx)
      obtain ⟨q, qs, e2, e4⟩ := isTS_eq (hs y hy)
      rw [e1, e2]
      show PySem.W.alike (.tuple (D.pys (p :: ps))) (.tuple (D.pys (q :: qs))) = true
      rw [PySem.W.alike]
      exact alike_strs e3 e4
    · obtain ⟨p, ps, e1, _⟩ := isTS_eq (hs x hx)
      rw [e1]
      rfl
  · refine ⟨fun a ha b hb => ?_, ?_⟩
    · obtain ⟨x, hx, rfl⟩ := List.mem_map.mp ha
      obtain ⟨y, hy, rfl⟩ := List.mem_map.mp hb
      exact List.all_eq_true.mp (List.all_eq_true.mp h1 x hx) y hy
    · rcases h2 with h2 | h2
      · exact tp h2
      · exact oth h2
/-- a value in the heap is that data -/
def Is (X : Cx) (C : Str → Option Addr) (Hf : Hp) (u : Value) (x : D) : Prop := ∃ v, RelV v u ∧ Rp X.K X.w C Hf x v
theorem each_is : ∀ {ds : List D} {vs : List V} {us : List Value}, Vals vs us → RpL X.K X.w C Hf ds vs → PySem.W.EachIs (Is X C Hf) us ds
  | [], _, _, r, h => by
    have h : _ = ([] : List V) := h
    subst h
    cases r
    exact .nil
  | d :: ds, _, _, r, ⟨v, vs, e, r1, rs⟩ => by
    subst e
    cases r with
    | cons q1 q2 => exact .cons ⟨v, q1, r1⟩ (each_is q2 rs)
theorem is_each : ∀ {ds : List D} {us : List Value}, PySem.W.EachIs (Is X C Hf) us ds → ∃ vs, Vals vs us ∧ RpL X.K X.w C Hf ds vs
  | [], _, .nil => ⟨[], .nil, rfl⟩
  | d :: ds, _, .cons ⟨v, q1, r1⟩ t => by
    obtain ⟨vs, h1, h2⟩ := is_each t
    exact ⟨v :: vs, .cons q1 h1, v, vs, rfl, r1, h2⟩
theorem reads_each (I : Inv X pins g H s) (l : Le Hf H) : ∀ {ds : List D} {us : List Value}, (∀ x, x ∈ ds → x.ok 60 = true) → PySem.W.EachIs (Is X C Hf) us ds → PySem.W.EachIs (fun v b => ∃ as, Reads s.heap v (D.py b) as) us ds
  | [], _, _, .nil => .nil
  | d :: ds, _, ok, .cons ⟨v, q1, r1⟩ t => by
    refine .cons ?_ (reads_each I l (fun x hx => ok x (List.mem_cons_of_mem _ hx)) t)
    exact Dp.reads I d.py v _ (Rp.dp d 60 v (ok d List.mem_cons_self) (Rp.mono l _ _ r1)) q1
theorem call_sorted_g {prog : Program} {w : World} {A : Around} {E : Value → Shared → Prop} {u : Value} {Q : Value → Shared → Prop} {P : List Value → Shared → Prop} (hc : wpAny (model prog w) A.in1 (collect u) (fun vs s1 => P vs s1) E s)
    (body : ∀ vs s1 (E' : Value → Shared → Prop), P vs s1 → vs.length ≤ sizeLine ∧ wpAny (model prog w) A.in1.in1 (Builtin.«list.sort» ⟨[.ref s1.heap.objs.size], []⟩) (fun f s' => f = .done (.ret .none) ∧ Q (.ref s1.heap.objs.size) s') E' { s1 with heap := s1.heap.push (seqObj "list" vs.toArray 0) }) :
    wpAny (model prog w) A (call (.builtin "sorted") [u]) Q E s := by
  refine Calls.call_function_entry kind_sorted plain_sorted entry_sorted (args_sorted1 _) ?_
  unfold Builtin.«sorted»
  refine wpAny_bind (m := checkCount "sorted" 1 1 _) (wpAny_pure ?_)
  refine wpAny_bind (thn hc fun vs s1 hp => ?_)
  obtain ⟨hz, hb⟩ := body vs s1 _ hp
  refine wpAny_bind (wpAny_newList ?_ hz)
  have ho : (s1.heap.push (seqObj "list" vs.toArray 0)).get? s1.heap.objs.size = some (seqObj "list" vs.toArray 0) := Heap.get?_push_size _ rfl
  refine wpAny_bind (wpAny_holding (wpAny_call_entry slot_list_sort ⟨_, ho, rfl⟩ entry_list_sort ?_ (args_list_sort _)))
  refine wpAny_mono hb (fun f s' hf => ?_) fun _ _ e => e
  obtain ⟨rfl, hq⟩ := hf
  exact ⟨_, rfl, wpAny_pure ⟨_, rfl, hq⟩⟩
theorem pys_ok_depth {d : D} (h : d.ok 60 = true) : d.py.depth ≤ 60 := (D.ok_lay d 60 h).2
/-- a gathered thing, put in order -/
theorem sort_after {prog : Program} {E' : Value → Shared → Prop} {ds : List D} {vs : List V} {us : List Value} {Q : Value → Shared → Prop} (hu : X.A.units + 80 < cLine) (hs : D.sortable ds = true) (I : Inv X pins g H s) (l : Le Hf H) (rv : Vals vs us) (rs : RpL X.K X.w C Hf ds vs) (hz : us.length ≤ sizeLine)
    (q : ∀ vs' p s', Inv X pins g (upd H p (.lst vs')) s' → H p = none → RpL X.K X.w C Hf (sortD ds) vs' → Q (.ref p) s') :
    wpAny (model prog X.w) X.A.in1.in1 (Builtin.«list.sort» ⟨[.ref s.heap.objs.size], []⟩) (fun f s' => f = .done (.ret .none) ∧ Q (.ref s.heap.objs.size) s') E' { s with heap := s.heap.push (seqObj "list" us.toArray 0) } := by
  obtain ⟨ok, hal, hk⟩ := sortable_1 hs
  have e := each_is rv rs
  have er := reads_each I l ok e
  have ho : (s.heap.push (seqObj "list" us.toArray 0)).get? s.heap.objs.size = some (seqObj "list" us.toArray 0) := Heap.get?_push_size _ rfl
  have er' : PySem.W.EachIs (fun v b => ∃ as, Reads (PySem.W.sortingHeap (s.heap.push (seqObj "list" us.toArray 0)) s.heap.objs.size us) v (D.py b) as) us ds :=
    er.mono fun _ _ ⟨as, r⟩ => ⟨as, PyProof.Rows.Reads.keeps (fun b o q => PySem.W.sortingHeap_old (Nat.ne_of_lt (Heap.lt_size q)) (Heap.get?_push_of_some _ q)) r⟩
  have hub : ∀ b, b ∈ ds → X.A.in1.in1.units + (D.py b).depth < cLine := fun b hb => by
    have z := pys_ok_depth (ok b hb)
    show X.A.units + 1 + 1 + _ < cLine
    omega
  refine PySem.W.list_sort_vals (s := { s with heap := s.heap.push (seqObj "list" us.toArray 0) }) (κ := PySem.W.dataKind (PySem.W.sortingHeap (s.heap.push (seqObj "list" us.toArray 0)) s.heap.objs.size us) (ds.map D.py)) ho
    (PySem.W.SortsAt.data (s := { s with heap := PySem.W.sortingHeap (s.heap.push (seqObj "list" us.toArray 0)) s.heap.objs.size us }) (PySem.W.each_map (R := fun v d => ∃ as, Reads (PySem.W.sortingHeap (s.heap.push (seqObj "list" us.toArray 0)) s.heap.objs.size us) v d as) D.py er') hal hk (PySem.W.bound_map hub)) hz ⟨rfl, ?_⟩
  have eo := PySem.W.sortVals_data (R := Is X C Hf) false e er' hal
  obtain ⟨vs', h1, h2⟩ := is_each eo
  obtain ⟨ep, hat⟩ := sortedHeap_at (out := (PySem.W.sortVals (PySem.W.dataKind (PySem.W.sortingHeap (s.heap.push (seqObj "list" us.toArray 0)) s.heap.objs.size us) (ds.map D.py)) false us us).toArray) ho
  refine q vs' _ _ (I.laid (t' := s.toks) (fun b o z => ?_) (Nat.le_refl _) ⟨?_, _, ep, h1, hat⟩) (I.hok.fresh (Nat.le_refl _)) h2
  · rw [sortedHeap_old (Nat.ne_of_lt (Heap.lt_size z)) (by rw [Heap.size_push]; exact Nat.lt_succ_of_lt (Heap.lt_size z))]
    exact Heap.get?_push_of_some _ z
  · have z1 := h2.length
    have z2 := rs.length
    have z3 : (ds.mergeSort pyLe).length = ds.length := List.length_mergeSort _
    have z4 := rv.length
    show vs'.length ≤ sizeLine
    rw [z1]
    show (ds.mergeSort pyLe).length ≤ sizeLine
    omega
theorem cb_sorted (hc : X.calm = true) (hu : X.A.units + 80 < cLine) : CbV X C (.builtin "sorted") rSorted := by
  intro pins s g H Hf xs us as o I l rv ra q
  match as, ra, q with
  | [a], ⟨x, _, e0, r1, e1⟩, q =>
    subst e1 e0
    cases rv with
    | cons rv1 rv2 =>
      cases rv2
      obtain ⟨ds, h1, h2⟩ := Option.bind_eq_some_iff.mp q
      split at h2
      · rename_i hs
        cases h2
        refine call_sorted_g (P := fun us s1 => ∃ vs, Inv X pins g H s1 ∧ Vals vs us ∧ RpL X.K X.w C Hf ds vs ∧ us.length ≤ sizeLine) (coll (by show X.A.handled = none; exact I.ok.hd hc) I l rv1 r1 h1 fun vs us s1 I1 rv rs hz => ⟨vs, I1, rv, rs, hz⟩) fun us s1 E' ⟨vs, I1, rv, rs, hz⟩ => ⟨hz, ?_⟩
        exact sort_after hu hs I1 l rv rs hz fun vs' p s' I2 hp rs' => PO.newL l hp I2 rfl rs'
      · cases h2

/-! ### list, tuple, len -/
def rList : List D → Option O
  | [a] => a.seqs.bind fun ds => some (O.ofL ds)
  | _ => none
def D.seqs' : D → Option (List D)
  | .lst xs => some xs
  | .tup xs => some xs
  | _ => none
def rTuple : List D → Option O
  | [a] => a.seqs'.bind fun ds => some (.val (.tup ds))
  | _ => none
def D.len : D → Option Nat
  | .lst xs => some xs.length
  | .tup xs => some xs.length
  | .scr ns => some ns.length
  | .str x => if x.length ≤ 100000 then some x.length else none
  | _ => none
def rLen : List D → Option O
  | [a] => a.len.bind fun n => some (.val (.int (n : Nat)))
  | _ => none
theorem cb_list (hc : X.calm = true) : CbV X C (.type "list") rList := by
  intro pins s g H Hf xs us as o I l rv ra q
  match as, ra, q with
  | [a], ⟨x, _, e0, r1, e1⟩, q =>
    subst e1 e0
    obtain ⟨ds, h1, h2⟩ := Option.bind_eq_some_iff.mp q
    cases h2
    have old : ∀ (p : Addr) (vs : List V), x = .ref p → (SqL X.K H p vs ∨ SqT X.K H p vs) → RpL X.K X.w C Hf ds vs → wpAny (model X.prog X.w) X.A (call (.type "list") us) (PO X C pins g H Hf (O.ofL ds)) X.xe s := fun p vs ep hp rs =>
      thn (call_list_of pins s g H [x] us (fun z H' => ∃ l, z = .ref l ∧ H l = none ∧ H' = upd H l (.lst vs)) I rv ⟨p, vs, by rw [ep], hp, fun l hl => ⟨l, rfl, hl, rfl⟩⟩) fun u s' ⟨z, H', I', rz, l', e1, e2, e3⟩ => by
        subst e1 e3
        exact PO.newL l e2 I' rz rs
    cases a with
    | lst xs =>
      cases h1
      obtain ⟨p, vs, e, hp, rs⟩ := r1
      exact old p vs e (.inl (SqL.of hp)) rs
    | tup xs =>
      cases h1
      obtain ⟨p, vs, e, hp, rs⟩ := r1
      exact old p vs e (.inr (l.sqT hp)) rs
    | dic kvs =>
      cases h1
      cases rv with
      | cons rv1 rv2 =>
        cases rv2
        obtain ⟨p, e, e1, ok, hd, rd, rk⟩ := rs_dic l rv1 r1
        subst e1
        obtain ⟨p1, p2, p3, p4, es, ep, p5, p6⟩ := Inv.dic I hd
        have hsz : es.size = e.2.length := by rw [paired_len p6, Array.length_toList]
        refine PySem.W.kdl_call (src_raw (es := es) (ep := ep) p2) (I.ok.hd hc) ⟨_, p1, p4, p5⟩ (by rw [hsz]; exact p3) fun h' tk acc c' hk hD hacc => ?_
        have hit := items_eq hacc
        refine PO.newL l (I.hok.fresh (Nat.le_refl _)) (I.laid (t' := tk) hk (Nat.le_refl _) ⟨?_, acc.toList, c', by rw [hit]; exact keys_vals p6, by simpa using hD⟩) rfl (rpK_l rd)
        rw [List.length_map]
        exact p3
    | _ => cases h1
theorem cb_tuple : CbV X C (.type "tuple") rTuple := by
  intro pins s g H Hf xs us as o I l rv ra q
  match as, ra, q with
  | [a], ⟨x, _, e0, r1, e1⟩, q =>
    subst e1 e0
    obtain ⟨ds, h1, h2⟩ := Option.bind_eq_some_iff.mp q
    cases h2
    cases a with
    | lst xs =>
      cases h1
      obtain ⟨p, vs, e, hp, rs⟩ := r1
      subst e
      refine thn (call_tuple_of pins s g H [.ref p] us (fun z H' => ∃ l, z = .ref l ∧ H l = none ∧ H' = upd H l (.tup vs)) I rv ⟨p, vs, rfl, .inl ⟨SqL.of hp, fun l hl => ⟨l, rfl, hl, rfl⟩⟩⟩) fun u s' ⟨z, H', I', rz, l', e1, e2, e3⟩ => ?_
      subst e1 e3
      exact PO.newT l e2 I' rz rs
    | tup xs =>
      cases h1
      obtain ⟨p, vs, e, hp, rs⟩ := id r1
      subst e
      refine thn (call_tuple_of pins s g H [.ref p] us (fun z H' => z = .ref p ∧ H' = H) I rv ⟨p, vs, rfl, .inr ⟨l.sqT hp, rfl, rfl⟩⟩) fun u s' ⟨z, H', I', rz, e1, e3⟩ => ?_
      subst e1 e3
      exact PO.flat I' l rz ⟨p, vs, rfl, hp, rs⟩
    | _ => cases h1
theorem cb_len : CbV X C (.builtin "len") rLen := by
  intro pins s g H Hf xs us as o I l rv ra q
  match as, ra, q with
  | [a], ⟨x, _, e0, r1, e1⟩, q =>
    subst e1 e0
    obtain ⟨n, h1, h2⟩ := Option.bind_eq_some_iff.mp q
    cases h2
    have old : ∀ (p : Addr) (vs : List V), x = .ref p → (SqL X.K H p vs ∨ SqT X.K H p vs) → vs.length = n → wpAny (model X.prog X.w) X.A (call (.builtin "len") us) (PO X C pins g H Hf (.val (.int (n : Nat)))) X.xe s := fun p vs ep hp hn =>
      thn (call_len_seq pins s g H [x] us (fun z H' => z = .int (vs.length : Nat) ∧ H' = H) I rv ⟨p, vs, by rw [ep], hp, rfl, rfl⟩) fun u s' ⟨z, H', I', rz, e1, e3⟩ => by
        subst e1 e3
        rw [← hn]
        exact PO.flat I' l rz rfl
    cases a with
    | lst xs =>
      cases h1
      obtain ⟨p, vs, e, hp, rs⟩ := r1
      exact old p vs e (.inl (SqL.of hp)) rs.length
    | tup xs =>
      cases h1
      obtain ⟨p, vs, e, hp, rs⟩ := r1
      exact old p vs e (.inr (l.sqT hp)) rs.length
    | scr ns =>
      cases h1
      obtain ⟨p, e, hp⟩ := r1
      exact old p _ e (.inl hp) (by simp)
    | str z =>
      have h1 : (if z.length ≤ 100000 then some z.length else none) = some n := h1
      split at h1
      · rename_i hz
        cases h1
        have ex : x = .str z := r1
        subst ex
        refine thn (call_len_str pins s g H [.str z] us (fun y H' => y = .int (z.length : Nat) ∧ H' = H) I rv ⟨z, rfl, sz5 hz, rfl, rfl⟩) fun u s' ⟨y, H', I', rz, e1, e3⟩ => ?_
        subst e1 e3
        exact PO.flat I' l rz rfl
      · cases h1
    | _ => cases h1
end
end Pd
set_option maxHeartbeats 1000000
/-! Pd24: isinstance, int, max, min; types and globals as operands. -/
namespace Pd
open PySem L2 PyProof.Rows
inductive Kd where
  | non | bl | int | str | tup | lst | dic
def Kd.name : Kd → String
  | .non => "NoneType"
  | .bl => "bool"
  | .int => "int"
  | .str => "str"
  | .tup => "tuple"
  | .lst => "list"
  | .dic => "dict"
def D.kd : D → Option Kd
  | .non => some .non
  | .bl _ => some .bl
  | .int _ => some .int
  | .str _ => some .str
  | .tup _ => some .tup
  | .lst _ => some .lst
  | .scr _ => some .lst
  | .dic _ => some .dic
  | _ => none
def isiK : Kd → Ty → Bool
  | .bl, .bool => true
  | .bl, .int => true
  | .int, .int => true
  | .str, .str => true
  | .tup, .tuple => true
  | .lst, .list => true
  | .dic, .dict => true
  | _, _ => false
theorem kitB_of (k : Kd) (n : Ty) : kitB k.name n.name = some (isiK k n) := by cases k <;> cases n <;> decide +kernel
section
variable {X : Cx} {C : Str → Option Addr} {pins : List (Addr × Obj)} {g : L2.St} {H Hf : Hp} {s : Shared}
/-- what isinstance asks of a value -/
theorem kit_d (I : Inv X pins g H s) (l : Le Hf H) {d : D} {v : V} {u : Value} {k : Kd} (r : Rs X.K X.w C H Hf d v) (rv : RelV v u) (h : d.kd = some k) : ∃ P : Heap → Prop, PySem.W.KitX X.K u (.type k.name) P ∧ P s.heap ∧ u ≠ .builtin "__main__.__loader__#opaque" := by
  cases d with
  | non =>
    cases h
    have r : v = .non := r
    subst r
    obtain rfl : u = .none := rv
    exact ⟨_, PySem.W.kitx_none, True.intro, fun z => nomatch z⟩
  | bl b =>
    cases h
    have r : v = .bl b := r
    subst r
    obtain rfl : u = .bool b := rv
    exact ⟨_, PySem.W.kitx_bool, True.intro, fun z => nomatch z⟩
  | int i =>
    cases h
    have r : v = .int i := r
    subst r
    obtain ⟨t, rfl⟩ := rv
    exact ⟨_, PySem.W.kitx_int, True.intro, fun z => nomatch z⟩
  | str x =>
    cases h
    have r : v = .str x := r
    subst r
    obtain ⟨t, rfl⟩ := rv
    exact ⟨_, PySem.W.kitx_str, True.intro, fun z => nomatch z⟩
  | tup xs =>
    cases h
    obtain ⟨p, vs, e, hs, _⟩ := r
    subst e
    obtain rfl : u = .ref p := rv
    obtain ⟨its, _, ⟨o, ho, hc, n, hd⟩, _⟩ := I.tuple (l.sqT hs)
    exact ⟨_, PySem.W.kitx_tuple, ⟨o, ho, hc⟩, fun z => nomatch z⟩
  | lst xs =>
    cases h
    obtain ⟨p, vs, e, hs, _⟩ := r
    subst e
    obtain rfl : u = .ref p := rv
    obtain ⟨its, _, ⟨o, n, ho, hc, _⟩, _⟩ := I.list (SqL.of hs)
    exact ⟨_, PySem.W.kitx_list, ⟨o, ho, hc⟩, fun z => nomatch z⟩
  | scr ns =>
    cases h
    obtain ⟨p, e, hs⟩ := r
    subst e
    obtain rfl : u = .ref p := rv
    obtain ⟨its, _, ⟨o, n, ho, hc, _⟩, _⟩ := I.list hs
    exact ⟨_, PySem.W.kitx_list, ⟨o, ho, hc⟩, fun z => nomatch z⟩
  | dic kvs =>
    cases h
    obtain ⟨p, e, e1, _, hd, _⟩ := r
    subst e1
    obtain rfl : u = .ref p := rv
    obtain ⟨p1, p2, p3, p4, _⟩ := Inv.dic I hd
    exact ⟨_, PySem.W.kitx_dict, ⟨_, p1, p4.1⟩, fun z => nomatch z⟩
  | _ => cases h
def tysOf : List D → Option (List Ty)
  | [] => some []
  | .ty n :: r => (tysOf r).map fun l => n :: l
  | _ => none
def isiD (k : Kd) : D → Option Bool
  | .ty n => some (isiK k n)
  | .tup cs => (tysOf cs).bind fun ns => some (ns.any (isiK k))
  | _ => none
def rIsi : List D → Option O
  | [a, b] => a.kd.bind fun k => (isiD k b).bind fun z => some (.val (.bl z))
  | _ => none
theorem kitAny_tys {K : PySem.W.Frag} (k : Kd) : ∀ ns : List Ty, PySem.W.kitAny K (.type k.name) (ns.map fun n => Value.type n.name) = some (ns.any (isiK k))
  | [] => rfl
  | n :: ns => by
    show PySem.W.kitAny K (.type k.name) (Value.type n.name :: ns.map fun n => Value.type n.name) = some (isiK k n || ns.any (isiK k))
    unfold PySem.W.kitAny
    rw [kit_ty (kitB_of k n), kitAny_tys k ns]
    cases isiK k n <;> rfl
theorem tys_vals : ∀ {cs : List D} {ns : List Ty} {vs : List V} {us : List Value}, tysOf cs = some ns → RpL X.K X.w C Hf cs vs → Vals vs us → us = ns.map fun n => Value.type n.name
  | [], _, _, _, h, r, rv => by
    cases h
    have r : _ = ([] : List V) := r
    subst r
    cases rv
    rfl
  | .ty n :: cs, _, _, _, h, ⟨v, us', e, r1, rs⟩, rv => by
    obtain ⟨l, h1, h2⟩ := Option.map_eq_some_iff.mp h
    subst h2 e
    cases rv with
    | cons q1 q2 =>
      have r1 : v = .ty n.name := r1
      subst r1
      obtain rfl : _ = Value.type n.name := q1
      rw [tys_vals h1 rs q2]
      rfl
theorem isi_ty {k : Kd} {n : Ty} {a : D} {x y : V} {v u : Value} (I : Inv X pins g H s) (l : Le Hf H) (h1 : a.kd = some k) (r1 : Rs X.K X.w C H Hf a x) (rv1 : RelV x v) (r2 : Rs X.K X.w C H Hf (.ty n) y) (rv2 : RelV y u) :
    wpAny (model X.prog X.w) X.A (call (.builtin "isinstance") [v, u]) (PO X C pins g H Hf (.val (.bl (isiK k n)))) X.xe s := by
  have r2 : y = .ty n.name := r2
  subst r2
  have e : u = Value.type n.name := rv2
  subst e
  obtain ⟨P, Z, p, hx⟩ := kit_d I l r1 rv1 h1
  exact PySem.W.kia_one Z I.kIn p (kit_ty (kitB_of k n)) hx fun tk => PO.flat (d := .bl (isiK k n)) (v := .bl (isiK k n)) (I.tok tk) l rfl rfl
theorem isi_tup {k : Kd} {cs : List D} {ns : List Ty} {a : D} {x y : V} {v u : Value} (I : Inv X pins g H s) (l : Le Hf H) (h1 : a.kd = some k) (h3 : tysOf cs = some ns) (r1 : Rs X.K X.w C H Hf a x) (rv1 : RelV x v) (r2 : Rs X.K X.w C H Hf (.tup cs) y) (rv2 : RelV y u) :
    wpAny (model X.prog X.w) X.A (call (.builtin "isinstance") [v, u]) (PO X C pins g H Hf (.val (.bl (ns.any (isiK k))))) X.xe s := by
  obtain ⟨tp, vs, e, hs, rs⟩ := r2
  subst e
  have e : u = Value.ref tp := rv2
  subst e
  obtain ⟨P, Z, p, hx⟩ := kit_d I l r1 rv1 h1
  obtain ⟨its, rr, ⟨ob, ho, hc, n, hd⟩, hz⟩ := I.tuple (l.sqT hs)
  obtain ⟨oc, od, dt, sl⟩ := ob
  have hc : oc = .type "tuple" := hc
  have hd : dt = .seq its.toArray n := hd
  subst hc hd
  refine PySem.W.kia_tup Z I.kIn p ho ?_ hx fun tk => PO.flat (d := .bl (ns.any (isiK k))) (v := .bl (ns.any (isiK k))) (I.tok tk) l rfl rfl
  rw [tys_vals h3 rs rr]
  exact kitAny_tys k ns
theorem rs_two {as : List D} {xs : List V} {us : List Value} {a b : D} (e : as = [a, b]) (ra : RsA X.K X.w C H Hf as xs) (rv : Vals xs us) : ∃ x y v u, xs = [x, y] ∧ us = [v, u] ∧ Rs X.K X.w C H Hf a x ∧ Rs X.K X.w C H Hf b y ∧ RelV x v ∧ RelV y u := by
  subst e
  obtain ⟨x, _, e0, r1, y, _, e1, r2, e2⟩ := ra
  subst e0 e1
  have e2 : _ = ([] : List V) := e2
  subst e2
  cases rv with
  | cons q1 q2 =>
    cases q2 with
    | cons q2 q3 =>
      cases q3
      exact ⟨x, y, _, _, rfl, rfl, r1, r2, q1, q2⟩
theorem cb_isi : CbV X C (.builtin "isinstance") rIsi := by
  intro pins s g H Hf xs us as o I l rv ra q
  have main : ∀ (a b : D), as = [a, b] → (a.kd.bind fun k => (isiD k b).bind fun z => some (O.val (.bl z))) = some o → wpAny (model X.prog X.w) X.A (call (.builtin "isinstance") us) (PO X C pins g H Hf o) X.xe s := fun a b e q => by
    obtain ⟨x, y, v, u, e1, e2, r1, r2, rv1, rv2⟩ := rs_two e ra rv
    subst e2
    obtain ⟨k, h1, h2⟩ := Option.bind_eq_some_iff.mp q
    obtain ⟨z, h3, h4⟩ := Option.bind_eq_some_iff.mp h2
    cases h4
    cases b with
    | ty n =>
      have e4 : isiK k n = z := Option.some.inj h3
      subst e4
      exact isi_ty I l h1 r1 rv1 r2 rv2
    | tup cs =>
      obtain ⟨ns, h5, h6⟩ := Option.bind_eq_some_iff.mp h3
      have e4 : ns.any (isiK k) = z := Option.some.inj h6
      subst e4
      exact isi_tup I l h1 h5 r1 rv1 r2 rv2
    | _ => cases h3
  cases as with
  | nil => cases q
  | cons a as =>
    cases as with
    | nil => cases q
    | cons b as =>
      cases as with
      | nil => exact main a b rfl q
      | cons c as => cases q

/-! ### int, max, min -/
def D.toI : D → Option Int
  | .int i => some i
  | .bl b => some (if b then 1 else 0)
  | _ => none
def rInt1 : List D → Option O
  | [a] => a.toI.bind fun i => some (.val (.int i))
  | _ => none
theorem CbV.ofInts {f : Value} {r' : List V → Hp → VK → Prop} {r : List D → Option O} (h : CallR X f r') (hr : ∀ H Hf as xs o, RsA X.K X.w C H Hf as xs → r as = some o → ∃ d z, o = .val d ∧ Rp X.K X.w C Hf d z ∧ ∀ Q : VK, Q z H → r' xs H Q) : CbV X C f r := by
  intro pins s g H Hf xs us as o I l rv ra q
  obtain ⟨d, z, e, rz, k⟩ := hr H Hf as xs o ra q
  subst e
  refine thn (h pins s g H xs us (fun y H' => y = z ∧ H' = H) I rv (k _ ⟨rfl, rfl⟩)) fun u s' ⟨y, H', I', ry, e1, e2⟩ => ?_
  subst e1 e2
  exact PO.flat I' l ry rz
theorem rs_one {as : List D} {xs : List V} {a : D} (e : as = [a]) (ra : RsA X.K X.w C H Hf as xs) : ∃ x, xs = [x] ∧ Rs X.K X.w C H Hf a x := by
  subst e
  obtain ⟨x, _, e0, r1, e1⟩ := ra
  have e1 : _ = ([] : List V) := e1
  subst e0 e1
  exact ⟨x, rfl, r1⟩
theorem rs_two' {as : List D} {xs : List V} {a b : D} (e : as = [a, b]) (ra : RsA X.K X.w C H Hf as xs) : ∃ x y, xs = [x, y] ∧ Rs X.K X.w C H Hf a x ∧ Rs X.K X.w C H Hf b y := by
  subst e
  obtain ⟨x, _, e0, r1, y, _, e1, r2, e2⟩ := ra
  have e2 : _ = ([] : List V) := e2
  subst e0 e1 e2
  exact ⟨x, y, rfl, r1, r2⟩
theorem cb_int : CbV X C (.type "int") rInt1 := CbV.ofInts call_int1 fun H Hf as xs o ra q => by
  cases as with
  | nil => cases q
  | cons a as =>
    cases as with
    | cons b as => cases q
    | nil =>
      obtain ⟨x, e, r1⟩ := rs_one rfl ra
      subst e
      obtain ⟨i, h1, h2⟩ := Option.bind_eq_some_iff.mp q
      cases h2
      cases a with
      | int j =>
        have h1 : j = i := Option.some.inj h1
        subst h1
        have r1 : x = .int j := r1
        subst r1
        exact ⟨_, .int j, rfl, rfl, fun Q q => .inl ⟨j, rfl, q⟩⟩
      | bl b =>
        have h1 : (if b then (1 : Int) else 0) = i := Option.some.inj h1
        subst h1
        have r1 : x = .bl b := r1
        subst r1
        exact ⟨_, .int (if b then 1 else 0), rfl, rfl, fun Q q => .inr ⟨b, rfl, q⟩⟩
      | _ => cases h1
def rMax : List D → Option O
  | [a, b] => a.asInt.bind fun i => b.asInt.bind fun j => some (.val (.int (if j > i then j else i)))
  | _ => none
def rMin : List D → Option O
  | [a, b] => a.asInt.bind fun i => b.asInt.bind fun j => some (.val (.int (if j < i then j else i)))
  | _ => none
theorem cb_max (hc : X.calm = true) : CbV X C (.builtin "max") rMax := CbV.ofInts (call_max2 hc) fun H Hf as xs o ra q => by
  cases as with
  | nil => cases q
  | cons a as => cases as with
  | nil => cases q
  | cons b as => cases as with
  | cons c as => cases q
  | nil =>
    obtain ⟨x, y, e, r1, r2⟩ := rs_two' rfl ra
    subst e
    obtain ⟨i, h1, q⟩ := Option.bind_eq_some_iff.mp q
    obtain ⟨j, h2, q⟩ := Option.bind_eq_some_iff.mp q
    cases q
    have z1 := asInt_eq h1
    have z2 := asInt_eq h2
    subst z1 z2
    have r1 : x = .int i := r1
    have r2 : y = .int j := r2
    subst r1 r2
    exact ⟨_, .int (if j > i then j else i), rfl, rfl, fun Q q => ⟨i, j, rfl, q⟩⟩
theorem cb_min (hc : X.calm = true) : CbV X C (.builtin "min") rMin := CbV.ofInts (call_min2 hc) fun H Hf as xs o ra q => by
  cases as with
  | nil => cases q
  | cons a as => cases as with
  | nil => cases q
  | cons b as => cases as with
  | cons c as => cases q
  | nil =>
    obtain ⟨x, y, e, r1, r2⟩ := rs_two' rfl ra
    subst e
    obtain ⟨i, h1, q⟩ := Option.bind_eq_some_iff.mp q
    obtain ⟨j, h2, q⟩ := Option.bind_eq_some_iff.mp q
    cases q
    have z1 := asInt_eq h1
    have z2 := asInt_eq h2
    subst z1 z2
    have r1 : x = .int i := r1
    have r2 : y = .int j := r2
    subst r1 r2
    exact ⟨_, .int (if j < i then j else i), rfl, rfl, fun Q q => ⟨i, j, rfl, q⟩⟩

/-! ### types, globals, constants as operands -/
theorem den_ty {x : Str} {n : Ty} {pos : Pos} (hg : Gl X x) (hm : X.mg x = none) (hv : bootBuiltins x = some (.type n.name)) (hn : x ≠ "__name__") (hd : (x == ("__debug__" : Str)) = false) : Den X C (.Name x pos) (evC (.ty n)) := den_c (v := .ty n.name) (pe_bltn hg hm hv rfl hn hd) fun _ => rfl
theorem den_glo {x : Str} {a : Addr} {pos : Pos} (hg : Gl X x) (hm : X.mg x = some (.ref a)) (hC : C x = some a) (hd : (x == ("__debug__" : Str)) = false) : Den X C (.Name x pos) (evC (.glo x)) := den_c (v := .ref a) (pe_glob hg hm rfl hd) fun _ => ⟨a, rfl, hC⟩
theorem den_gint {x : Str} {i : Int} {t : Tok} {pos : Pos} (hg : Gl X x) (hm : X.mg x = some (.int i t)) (hd : (x == ("__debug__" : Str)) = false) : Den X C (.Name x pos) (evC (.int i)) := den_c (v := .int i) (pe_glob hg hm ⟨t, rfl⟩ hd) fun _ => rfl
theorem den_gstr {x y : Str} {t : Tok} {pos : Pos} (hg : Gl X x) (hm : X.mg x = some (.str y t)) (hd : (x == ("__debug__" : Str)) = false) : Den X C (.Name x pos) (evC (.str y)) := den_c (v := .str y) (pe_glob hg hm ⟨t, rfl⟩ hd) fun _ => rfl
end
end Pd
set_option maxHeartbeats 1000000
/-! Pd25: defs whose first argument stays the caller's own and is changed. -/
namespace Pd
open PySem L2 PyProof.Rows
section
variable {K : PySem.W.Frag} {w : World} {C : Str → Option Addr} {H H' Hf Hf' : Hp} {d : PEnv} {g : L2.St} {t : Tmp} {F : Fps}
/-- one slot's part of a state -/
theorem ST.sub1 (S : ST K w C H Hf d g t F) {i : Nat} {o : O} {v : V} (hi : d[i]? = some (some o)) (hv : g[i]? = some (some v)) : ST K w C H Hf [some o] [some v] [] (fun k => if k = 0 then F i else []) := by
  obtain ⟨v', hv', r⟩ := S.env i o hi
  rw [hv] at hv'
  cases hv'
  refine ⟨rfl, fun k q e => ?_, fun j o v e => by simp at e, fun k h1 h2 => ?_, fun k => ?_, fun k j a hk ha hb => ?_, fun k a ha => ?_, S.le⟩
  · cases k with
    | zero =>
      cases e
      exact ⟨v, rfl, r⟩
    | succ k => simp at e
  · cases k with
    | zero => exact absurd rfl (h1 o)
    | succ k => rfl
  · cases k with
    | zero => exact S.nd i
    | succ k => exact List.nodup_nil
  · cases k with
    | zero =>
      cases j with
      | zero => exact hk rfl
      | succ j => cases hb
    | succ k => cases ha
  · cases k with
    | zero => exact S.fz i a ha
    | succ k => cases ha
/-- .. put back, changed, with a new value on top -/
theorem ST.join1 (S : ST K w C H Hf d g t F) {i : Nat} {o o' r : O} {v0 v : V} {F2 : Fps} (hi : d[i]? = some (some o)) (hv : g[i]? = some (some v0)) (S2 : ST K w C H' Hf' [some o'] [some v0] [(r, v)] F2) (go : Go H Hf (fun k => if k = 0 then F i else []) H' Hf' F2) :
    ∃ F', ST K w C H' Hf' (d.set i (some o')) g (t ++ [(r, v)]) F' ∧ Go H Hf F H' Hf' F' := by
  have hil := (List.getElem?_eq_some_iff.mp hi).1
  have foot : ∀ k a, a ∈ F2 k → a ∈ F i ∨ H a = none := fun k a ha => by
    rcases go.foot k a ha with ⟨j, z⟩ | z
    · cases j with
      | zero => exact .inl z
      | succ j => cases z
    · exact .inr z
  have kp : ∀ j a, j ≠ i → a ∈ F j → H' a = H a := fun j a hj ha => by
    obtain ⟨u, hu⟩ := S.there ha
    rw [hu]
    refine go.keep a u hu fun k z => ?_
    cases k with
    | zero => exact S.dj j i a hj ha z
    | succ k => cases z
  have nofz : ∀ j a, j ≠ i → a ∈ F j → Hf' a = none := fun j a hj ha => by
    cases q : Hf' a with
    | none => rfl
    | some u =>
      rcases go.new a u q with z | ⟨k, z⟩ | z
      · rw [S.fz j a ha] at z; cases z
      · cases k with
        | zero => exact absurd z (S.dj j i a hj ha)
        | succ k => cases z
      · obtain ⟨u', hu⟩ := S.there ha
        rw [z] at hu
        cases hu
  have apart : ∀ j k a, j ≠ i → a ∈ F j → a ∉ F2 k := fun j k a hj ha hb => by
    rcases foot k a hb with z | z
    · exact S.dj j i a hj ha z
    · obtain ⟨u, hu⟩ := S.there ha
      rw [z] at hu
      cases hu
  have look : ∀ j, (if j = i then F2 0 else if j = d.length + t.length then F2 1 else F j) = if j = i then F2 0 else if j = d.length + t.length then F2 1 else F j := fun _ => rfl
  have cas : ∀ j a, a ∈ (if j = i then F2 0 else if j = d.length + t.length then F2 1 else F j) → (j = i ∧ a ∈ F2 0) ∨ (j = d.length + t.length ∧ j ≠ i ∧ a ∈ F2 1) ∨ (j ≠ i ∧ j ≠ d.length + t.length ∧ a ∈ F j) := fun j a h => by
    split at h
    · exact .inl ⟨by assumption, h⟩
    · split at h
      · exact .inr (.inl ⟨by assumption, by assumption, h⟩)
      · exact .inr (.inr ⟨by assumption, by assumption, h⟩)
  refine ⟨fun j => if j = i then F2 0 else if j = d.length + t.length then F2 1 else F j, ⟨by rw [List.length_set]; exact S.len, fun j q e => ?_, fun j q u e => ?_, fun j h1 h2 => ?_, fun j => ?_, fun j k a hjk ha hb => ?_, fun j a ha => ?_, S2.le⟩, ⟨fun a u h n => go.keep a u h fun k z => ?_, go.grow, fun a u h => ?_, fun j a ha => ?_⟩⟩
  · by_cases hj : j = i
    · subst hj
      rw [List.getElem?_set_self hil] at e
      cases e
      obtain ⟨v', h1, h2⟩ := S2.env 0 o' rfl
      cases h1
      exact ⟨v0, hv, by simpa using h2⟩
    · rw [List.getElem?_set_ne (Ne.symm hj)] at e
      have hjl := (List.getElem?_eq_some_iff.mp e).1
      obtain ⟨v', h1, h2⟩ := S.env j q e
      refine ⟨v', h1, ?_⟩
      try dsimp only
      rw [if_neg hj, if_neg (by omega)]
      exact Or.mono go.grow q v' _ (fun a ha => kp j a hj ha) h2
  · rw [List.length_set]
    try dsimp only
    rw [if_neg (by omega)]
    by_cases hj : j = t.length
    · subst hj
      rw [app_at rfl] at e
      cases e
      rw [if_pos rfl]
      have z := S2.tmp 0 r v rfl
      simpa using z
    · rw [app_ne hj] at e
      rw [if_neg (by omega)]
      exact Or.mono go.grow q u _ (fun a ha => kp _ a (by omega) ha) (S.tmp j q u e)
  · try dsimp only
    by_cases hj : j = i
    · subst hj
      exact absurd (List.getElem?_set_self hil) (h1 o')
    · rw [if_neg hj]
      by_cases hj2 : j = d.length + t.length
      · exact absurd (h2 t.length (by rw [List.length_set]; exact hj2)) (by simp)
      · rw [if_neg hj2]
        refine S.emp j (fun q e => h1 q (by rw [List.getElem?_set_ne (Ne.symm hj)]; exact e)) fun k e => ?_
        have z := h2 k (by rw [List.length_set]; exact e)
        simp at z
        omega
  · try dsimp only
    split
    · exact S2.nd 0
    · split
      · exact S2.nd 1
      · exact S.nd j
  · rcases cas j a ha with ⟨e1, x1⟩ | ⟨e1, n1, x1⟩ | ⟨n1, m1, x1⟩ <;> rcases cas k a hb with ⟨e2, x2⟩ | ⟨e2, n2, x2⟩ | ⟨n2, m2, x2⟩
    · exact hjk (e1.trans e2.symm)
    · exact S2.dj 0 1 a (by decide) x1 x2
    · exact apart k 0 a n2 x2 x1
    · exact S2.dj 0 1 a (by decide) x2 x1
    · exact hjk (e1.trans e2.symm)
    · exact apart k 1 a n2 x2 x1
    · exact apart j 0 a n1 x1 x2
    · exact apart j 1 a n1 x1 x2
    · exact S.dj j k a hjk x1 x2
  · rcases cas j a ha with ⟨_, x1⟩ | ⟨_, _, x1⟩ | ⟨n1, _, x1⟩
    · exact S2.fz 0 a x1
    · exact S2.fz 1 a x1
    · exact nofz j a n1 x1
  · cases k with
    | zero => exact n i z
    | succ k => cases z
  · rcases go.new a u h with z | ⟨k, z⟩ | z
    · exact .inl z
    · cases k with
      | zero => exact .inr (.inl ⟨i, z⟩)
      | succ k => cases z
    · exact .inr (.inr z)
  · rcases cas j a ha with ⟨_, x1⟩ | ⟨_, _, x1⟩ | ⟨_, _, x1⟩
    · exact (foot 0 a x1).imp (fun z => ⟨i, z⟩) id
    · exact (foot 1 a x1).imp (fun z => ⟨i, z⟩) id
    · exact .inl ⟨j, x1⟩
/-- a state's first slot and top value alone -/
theorem ST.two {o r : O} {v0 v : V} (S : ST K w C H Hf d g ([] ++ [(r, v)]) F) (hd : d[0]? = some (some o)) (hg : g[0]? = some (some v0)) : ∃ F', ST K w C H Hf [some o] [some v0] [(r, v)] F' ∧ ∀ i a, a ∈ F' i → ∃ j, a ∈ F j := by
  have hl := (List.getElem?_eq_some_iff.mp hd).1
  obtain ⟨v', h1, h2⟩ := S.env 0 o hd
  rw [hg] at h1
  cases h1
  have h3 : Or K w C H Hf r v (F (d.length + 0)) := S.tmp 0 r v rfl
  have cas : ∀ j a, a ∈ (if j = 0 then F 0 else if j = 1 then F d.length else []) → (j = 0 ∧ a ∈ F 0) ∨ (j = 1 ∧ a ∈ F d.length) := fun j a h => by
    split at h
    · exact .inl ⟨by assumption, h⟩
    · split at h
      · exact .inr ⟨by assumption, h⟩
      · cases h
  refine ⟨fun j => if j = 0 then F 0 else if j = 1 then F d.length else [], ⟨rfl, fun j q e => ?_, fun j q u e => ?_, fun j k1 k2 => ?_, fun j => ?_, fun j k a hjk ha hb => ?_, fun j a ha => ?_, S.le⟩, fun j a ha => ?_⟩
  · cases j with
    | zero =>
      cases e
      exact ⟨v0, rfl, h2⟩
    | succ j => simp at e
  · cases j with
    | zero =>
      cases e
      exact h3
    | succ j => simp at e
  · cases j with
    | zero => exact absurd rfl (k1 o)
    | succ j =>
      cases j with
      | zero => exact absurd (k2 0 rfl) (by simp)
      | succ j => rfl
  · try dsimp only
    split
    · exact S.nd 0
    · split
      · exact S.nd _
      · exact List.nodup_nil
  · rcases cas j a ha with ⟨e1, x1⟩ | ⟨e1, x1⟩ <;> rcases cas k a hb with ⟨e2, x2⟩ | ⟨e2, x2⟩
    · exact hjk (e1.trans e2.symm)
    · exact S.dj 0 d.length a (by omega) x1 x2
    · exact S.dj 0 d.length a (by omega) x2 x1
    · exact hjk (e1.trans e2.symm)
  · rcases cas j a ha with ⟨_, x1⟩ | ⟨_, x1⟩
    · exact S.fz _ a x1
    · exact S.fz _ a x1
  · rcases cas j a ha with ⟨_, x1⟩ | ⟨_, x1⟩
    · exact ⟨_, x1⟩
    · exact ⟨_, x1⟩
/-- the slots at the entry -/
def startM (n : Nat) (o : O) (ds : List D) : PEnv := (some o :: ds.map fun x => some (.val x)) ++ List.replicate (n - (ds.length + 1)) none
theorem start_stM {N : List Str} {o : O} {v0 : V} {ds : List D} {vs : List V} (S : ST K w C H Hf [some o] [some v0] [] F) (r : RpL K w C Hf ds vs) : ST K w C H Hf (startM N.length o ds) (L2.start N (v0 :: vs)) [] F := by
  have hl := r.length
  have he : ∀ i, i ≠ 0 → F i = [] := fun i hi => S.emp i (fun q e => by
    cases i with
    | zero => exact hi rfl
    | succ i => simp at e) fun j e => Nat.zero_le _
  refine ⟨?_, fun i q e => ?_, fun j q v e => by simp at e, fun i h1 h2 => ?_, S.nd, S.dj, S.fz, S.le⟩
  · unfold L2.start startM
    simp [hl]
  · cases i with
    | zero =>
      cases e
      obtain ⟨v', h1, h2⟩ := S.env 0 o rfl
      cases h1
      exact ⟨v0, rfl, h2⟩
    | succ i =>
      have e : (ds.map (fun x => some (O.val x)) ++ List.replicate (N.length - (ds.length + 1)) none)[i]? = some (some q) := e
      rw [he (i + 1) (by omega)]
      rcases Nat.lt_or_ge i ds.length with hi | hi
      · rw [List.getElem?_append_left (by simpa using hi), List.getElem?_map] at e
        obtain ⟨x, h1, h2⟩ := Option.map_eq_some_iff.mp e
        cases h2
        obtain ⟨v, hv, rv⟩ := r.get h1
        refine ⟨v, ?_, rfl, rv⟩
        show ((vs.map some) ++ _)[i]? = _
        rw [List.getElem?_append_left (by rw [List.length_map, hl]; exact hi), List.getElem?_map, hv]
        rfl
      · rw [List.getElem?_append_right (by simpa using hi), List.getElem?_replicate] at e
        split at e <;> cases e
  · cases i with
    | zero => exact absurd rfl (h1 o)
    | succ i => exact he _ (by omega)
end
/-- such a def's promise -/
def spM (K : PySem.W.Frag) (w : World) (C : Str → Option Addr) (n : Nat) (fn : O → List D → Option (O × O)) : Sp := fun vs H Q _ => ∃ (Hf : Hp) (o : O) (ds : List D) (r o' : O) (F : Fps) (v0 : V) (vs' : List V), vs = v0 :: vs' ∧ ST K w C H Hf [some o] [some v0] [] F ∧ RpL K w C Hf ds vs' ∧ ds.length = n ∧ fn o ds = some (r, o') ∧
  ∀ v H' Hf' F', ST K w C H' Hf' [some o'] [some v0] [(r, v)] F' → Go H Hf F H' Hf' F' → Q v H'
section
variable {P : Program} {w : World} {K : PySem.W.Frag} {mg : Str → Option Value} {base : Heap} {C : Str → Option Addr}
theorem fn_denM {is : List Nat} {x qual : Str} {st : Stmt} {f : Addr} {fd : FuncData} {N ps : List Str} {k n : Nat} {bf : Ex} {fn : O → List D → Option (O × O)} (F : Fun K x qual st f fd) (S : FnScope N ps (defScope st)) (hn : ps.length = n + 1) (h0 : 0 ∉ is)
    (hb : ∀ X, In P w K mg base k N (defScope st) X → PassesOwn (model X.prog X.w) X.A X.env X.xe → DenB X C is (defBody st) bf)
    (hf : ∀ o ds r o', ds.length = n → fn o ds = some (r, o') → (∃ d', bf (startM N.length o ds) = some (.ret r, d') ∧ d'[0]? = some (some o')) ∨ (r = .val .non ∧ ∃ d', bf (startM N.length o ds) = some (.nx, d') ∧ d'[0]? = some (some o'))) :
    FnOk P w K mg base CX0 (k + 1) f fd ps (spM K w C n fn) := by
  refine F.ok S (fun vs H Q E h => ?_) fun cdv A outer s H vs Q E hr h => ?_
  · obtain ⟨Hf, o, ds, r, o', F1, v0, vs', e, _, rp, hl, _⟩ := h
    rw [e, List.length_cons, rp.length, hl, hn]
  · obtain ⟨Hf, o, ds, r, o', F1, v0, vs', e, S1, rp, hl, hq, kk⟩ := h
    subst e
    have B := hb (cxOf CX0 P w K mg base N qual (defScope st) f cdv A outer s H E).nox (in_cx hr) PassesOwn.never
    refine ⟨_, B.pss, Hf, startM N.length o ds, [], F1, ?_⟩
    have S0 := start_stM (N := N) S1 rp
    have g0 : ∀ g' : L2.St, Same is (L2.start N (v0 :: vs')) g' → g'[0]? = some (some v0) := fun g' sm => by
      rw [sm.2 0 h0]
      rfl
    rcases hf o ds r o' hl hq with ⟨d', e, hd⟩ | ⟨e0, d', e, hd⟩
    · refine ⟨.ret r, d', S0, e, fun z => (nomatch z), fun o2 z v g' H' Hf' F' S' go sm => ?_⟩
      cases z
      obtain ⟨F2, S2, sub⟩ := S'.two hd (g0 g' sm)
      exact kk v H' Hf' F2 S2 (go.trans (Go.sub sub))
    · subst e0
      refine ⟨.nx, d', S0, e, fun _ g' H' Hf' F' S' go sm => ?_, fun o z => (nomatch z)⟩
      obtain ⟨S3, go3⟩ := S'.pushV (x := .non) (v := .non) rfl
      obtain ⟨F2, S2, sub⟩ := S3.two hd (g0 g' sm)
      exact kk .non H' Hf' F2 S2 ((go.trans go3).trans (Go.sub sub))
end
/-- the function of the table -/
structure FeM where
  name : Str
  n : Nat
  lvl : Nat
  fn : O → List D → Option (O × O)
def FeMOk (X : Cx) (C : Str → Option Addr) (e : FeM) : Prop :=
  ∃ (f : Addr) (fd : FuncData) (ps : List Str), X.mg e.name = some (.ref f) ∧ PySem.W.keepIn X.K (.ref f) = true ∧ Binds X.K fd ps [] ∧ (e.name == ("__debug__" : Str)) = false ∧
    FnOk X.prog X.w X.K X.mg X.base CX0 e.lvl f fd ps (spM X.K X.w C e.n e.fn) ∧ Room e.lvl X.A
def evM (i : Nat) (ps : List Opn) (n : Nat) (fn : O → List D → Option (O × O)) : Ev := fun d => (d.getD i none).bind fun _ => (goL ps d).bind fun a => (a.2.getD i none).bind fun o => if (O.ds a.1).length = n then (fn o (O.ds a.1)).bind fun z => some (z.1, a.2.set i (some z.2)) else none
section
variable {X : Cx} {C : Str → Option Addr}
/-- behind the arguments, the first a slot -/
theorem run_spM {CX : CXT} {k : Nat} {f : Addr} {fd : FuncData} {ps : List Str} {n : Nat} {fn : O → List D → Option (O × O)} {E : XK} {pins : List (Addr × Obj)} {g : L2.St} {s : Shared} {H Hf : Hp} {d : PEnv} {t : Tmp} {Fp : Fps} {u0 : Value} {us : List Value} {v0 : V} {vs : List V} {ds : List D} {i : Nat} {o o' r : O}
    (F : FnOk X.prog X.w X.K X.mg X.base CX k f fd ps (spM X.K X.w C n fn)) (hr : Room k X.A) (hb : Binds X.K fd ps []) (hx : Passes CX X E) (I : Inv X pins g H s) (S : ST X.K X.w C H Hf d g t Fp) (hi : d[i]? = some (some o)) (hv : g[i]? = some (some v0)) (r0 : RelV v0 u0) (rv : Vals vs us) (rp : RpL X.K X.w C Hf ds vs) (hn : ds.length = n) (hf : fn o ds = some (r, o')) :
    wpAny (model X.prog X.w) X.A (call (.ref f) (u0 :: us)) (Post X C pins g H Hf Fp t r (d.set i (some o'))) X.xe s := by
  refine thn (run_fn (dvs := []) (ds := []) (Q := fun v H' => ∃ Hf' F', ST X.K X.w C H' Hf' [some o'] [some v0] [(r, v)] F' ∧ Go H Hf (fun k => if k = 0 then Fp i else []) H' Hf' F') F hr hb .nil hx I (.cons r0 rv) (by
    rw [List.append_nil]
    exact ⟨Hf, o, ds, r, o', _, v0, vs, rfl, S.sub1 hi hv, rp, hn, hf, fun v H' Hf' F' S' go => ⟨Hf', F', S', go⟩⟩)) fun u s' ⟨v, H', I', r', Hf', F', S', go⟩ => ?_
  obtain ⟨F2, S2, g2⟩ := S.join1 hi hv S' go
  exact ⟨v, H', Hf', F2, I', r', S2, g2⟩
theorem den_callM {fe : FeM} {i : Nat} {x : Str} {px p pos : Pos} {es : List Expr} {ps : List Opn} (hg : Gl X fe.name) (hF : FeMOk X C fe) (hN : X.N[i]? = some x) (hv : Vis X.env.scope x) (hd : (x == ("__debug__" : Str)) = false) (hcd : (x == ("__classdict__" : Str)) = false) (hp : allEx ps = true) (ha : DenA X C es ps)
    (he : starEach (.Name x px :: es) X.env = (false, eval (.Name x px) X.env) :: starEach es X.env) (hpl : (backTo pos (starEach es X.env)).any (·.1) = false) : Den X C (.Call (.Name fe.name p) (.Name x px :: es) [] pos) (evM i ps fe.n fe.fn) := by
  refine ⟨fun pins s g H Hf d t F o d' I S q => ?_⟩
  obtain ⟨oz, e0, q⟩ := Option.bind_eq_some_iff.mp q
  obtain ⟨⟨ta, d1⟩, h1, q⟩ := Option.bind_eq_some_iff.mp q
  obtain ⟨o1, e1, q⟩ := Option.bind_eq_some_iff.mp q
  split at q
  · rename_i hn
    obtain ⟨⟨r, o2⟩, h2, q⟩ := Option.bind_eq_some_iff.mp q
    cases q
    obtain ⟨f, fd, pn, hm, hk, hb, hdb, FO, hr⟩ := hF
    refine wpAny_Call_Name_kw (ld_glob I hg hm ?_ hdb)
    have hA : DenA X C (.Name x px :: es) (.slot i :: ps) := denA_cons (denP_slot hN hv hd hcd) ha he
    refine PySem.W.callWith_K (h₀ := X.base) I.ok.mod.kin hk (thn (hA.run pos pins s g H Hf d t F ([] ++ ta) d1 I S (by
      show ((d.getD i none).bind fun _ => some ([], d)).bind _ = _
      rw [e0]
      show (goL ps d).bind _ = _
      rw [h1]
      rfl)) fun us s1 ⟨vs, H2, Hf2, F2, tv, I2, rv, S2, g2, _, hlv, sls, an⟩ => ?_) he hpl
    obtain ⟨v0, hv0, hg0⟩ := sls i 0 rfl
    have rA := an (o1 :: ta) (by
      show ((d1.getD i none).bind fun o => some (o, [] ++ ta)).bind _ = _
      rw [show d1.getD i none = some o1 from e1]
      show (lookL ps d1 ta).bind _ = _
      rw [look_vals hp h1]
      rfl)
    obtain ⟨w0, vs', ev, _, rA2⟩ := rA
    subst ev
    cases hv0
    obtain ⟨ds, eds⟩ := vals_go hp h1
    rw [eds] at rA2
    have rp := orA_vals rA2
    obtain ⟨F3, S3, g3⟩ := ST.popAll _ S2
    cases rv with
    | cons q1 q2 =>
      refine ⟨I2.kIn, thn (run_spM FO hr hb pass0 I2 S3 (getD_some e1) hg0 q1 q2 (by rw [eds, ds_vals] at hn; exact rp) (by rw [eds, ds_vals] at hn; exact hn) (by rw [eds, ds_vals] at h2; exact h2)) fun u s2 z => z.after (g2.trans g3)⟩
  · cases q
end
end Pd
set_option maxHeartbeats 1000000
/-! Pd26: instances. -/
namespace Pd
open PySem L2 PyProof.Rows
section
variable {X : Cx} {C : Str → Option Addr} {pins : List (Addr × Obj)} {g : L2.St} {H Hf : Hp} {s : Shared}
/-- a class of the program: no attribute hooks -/
structure ClsF (X : Cx) (C : Str → Option Addr) (c : Str) (cl : Addr) : Prop where
  at_ : C c = some cl
  cls : Cls X.K cl
def insOf (c f : Str) : D → Option O
  | .ins c' fs => if c' = c then (fs.lookup f).map O.val else none
  | _ => none
theorem insOf_eq {c f : Str} {a : D} {o : O} (h : insOf c f a = some o) : ∃ fs d, a = .ins c fs ∧ fs.lookup f = some d ∧ o = .val d := by
  cases a with
  | ins c' fs =>
    have h : (if c' = c then (fs.lookup f).map O.val else none) = some o := h
    by_cases e : c' = c
    · rw [if_pos e] at h
      obtain ⟨d, h1, h2⟩ := Option.map_eq_some_iff.mp h
      exact ⟨fs, d, by rw [e], h1, h2.symm⟩
    · rw [if_neg e] at h
      cases h
  | _ => cases h
/-- e.f -/
theorem den_attr {c f : Str} {cl : Addr} {e : Expr} {p : Opn} {pos : Pos} (hc : ClsF X C c cl) (hn : NoAttr X.K cl f) (he : DenP X C e p) (hab : attributeBase e f X.env (eval e X.env) = eval e X.env) : Den X C (.Attribute e f pos) (evN [p] (r1 (insOf c f))) := by
  refine ⟨fun pins s g H Hf d t F o d' I S q => ?_⟩
  obtain ⟨ta, os, xs, h1, h2, h3, h4⟩ := evN_inv q
  refine attr_of hab (thn (one he I S h1) fun v s1 k => fin_op k h2 h3 fun vs H2 Hf2 I2 l2 rv ra => ?_)
  cases xs with
  | nil => cases h4
  | cons a as =>
    cases as with
    | cons b as => cases h4
    | nil =>
      obtain ⟨x, ex, r1⟩ := rs_one rfl ra
      subst ex
      obtain ⟨fs, dd, e1, e2, e3⟩ := insOf_eq h4
      subst e1 e3
      obtain ⟨pa, cl', dx, us, e4, e5, e6, rf⟩ := r1
      rw [hc.at_] at e5
      cases e5
      subst e4
      cases rv with
      | cons q1 q2 =>
        obtain rfl : v = .ref pa := q1
        obtain ⟨w, h5, h6⟩ := rf.look e2
        exact getattr_ok I2 e6 hc.cls hn h5 fun u s3 I3 ru => PO.flat I3 l2 ru h6

/-! ### owned instances -/
def putO (f : Str) (o : O) : List (Str × O) → List (Str × O)
  | [] => [(f, o)]
  | (n, x) :: r => if n = f then (n, o) :: r else (n, x) :: putO f o r
theorem orF_put {f : Str} {o : O} {v : V} {fo : List Addr} (ro : Or X.K X.w C H Hf o v fo) : ∀ {fs : List (Str × O)} {vs : List (Str × V)} {fp : List Addr}, OrF X.K X.w C H Hf fs vs fp → ∃ f1 f2, OrF X.K X.w C H Hf (putO f o fs) (putF f v vs) (f1 ++ fo ++ f2) ∧ (f1 ++ f2).Sublist fp
  | [], _, _, ⟨e1, e2⟩ => by
    subst e1 e2
    exact ⟨[], [], ⟨v, [], fo, [], rfl, by simp, ro, rfl, rfl⟩, by simp⟩
  | (n, x) :: r, _, _, ⟨v', us, f1, f2, e1, e2, rx, rs⟩ => by
    subst e1 e2
    show ∃ f3 f4, OrF X.K X.w C H Hf (if n = f then (n, o) :: r else (n, x) :: putO f o r) (if n = f then (n, v) :: us else (n, v') :: putF f v us) _ ∧ _
    by_cases hb : n = f
    · rw [if_pos hb, if_pos hb]
      exact ⟨[], f2, ⟨v, us, fo, f2, rfl, by simp, ro, rs⟩, by simp⟩
    · rw [if_neg hb, if_neg hb]
      obtain ⟨f3, f4, h1, h2⟩ := orF_put ro rs
      exact ⟨f1 ++ f3, f4, ⟨v', putF f v us, f1, f3 ++ fo ++ f4, rfl, by simp, rx, h1⟩, by rw [List.append_assoc]; exact (List.Sublist.refl f1).append h2⟩
theorem OrF.length : ∀ {fs : List (Str × O)} {vs : List (Str × V)} {fp : List Addr}, OrF X.K X.w C H Hf fs vs fp → vs.length = fs.length
  | [], _, _, ⟨e, _⟩ => by rw [e]; rfl
  | (n, x) :: r, _, _, ⟨v', us, f1, f2, e1, _, _, rs⟩ => by rw [e1, List.length_cons, List.length_cons, OrF.length rs]
/-- a field of an owned instance, and what a change of it makes -/
theorem orF_at {f : Str} {o : O} : ∀ {fs : List (Str × O)} {vs : List (Str × V)} {fp : List Addr}, OrF X.K X.w C H Hf fs vs fp → fs.lookup f = some o → ∃ v fo f1 f2, vs.lookup f = some v ∧ Or X.K X.w C H Hf o v fo ∧ fp = f1 ++ fo ++ f2 ∧
    ∀ H' o' fo', (∀ a, a ∈ f1 ++ f2 → H' a = H a) → Or X.K X.w C H' Hf o' v fo' → OrF X.K X.w C H' Hf (putO f o' fs) vs (f1 ++ fo' ++ f2)
  | [], _, _, _, h => by cases h
  | (n, x) :: r, _, _, ⟨v', us, f1, f2, e1, e2, rx, rs⟩, h => by
    subst e1 e2
    rw [List.lookup_cons] at h
    by_cases hb : f = n
    · subst hb
      rw [beq_self_eq_true] at h
      cases h
      refine ⟨v', f1, [], f2, by rw [List.lookup_cons, beq_self_eq_true], rx, by simp, fun H' o' fo' kp ro' => ?_⟩
      show OrF X.K X.w C H' Hf (if f = f then (f, o') :: r else _) _ _
      rw [if_pos rfl]
      exact ⟨v', us, fo', f2, rfl, by simp, ro', OrF.mono Le.rfl r us f2 (fun b hb' => kp b (by simpa using hb')) rs⟩
    · have hbf : (f == n) = false := beq_eq_false_iff_ne.mpr hb
      rw [hbf] at h
      obtain ⟨v, fo, f3, f4, h1, h2, h3, h4⟩ := orF_at rs h
      subst h3
      refine ⟨v, fo, f1 ++ f3, f4, by rw [List.lookup_cons, hbf]; exact h1, h2, by simp, fun H' o' fo' kp ro' => ?_⟩
      show OrF X.K X.w C H' Hf (if n = f then (n, o') :: r else (n, x) :: putO f o' r) _ _
      rw [if_neg fun e => hb e.symm]
      exact ⟨v', us, f1, f3 ++ fo' ++ f4, rfl, by simp, Or.mono Le.rfl x v' f1 (fun b hb' => kp b (by simp [hb'])) rx, h4 H' o' fo' (fun b hb' => kp b (by
        rcases List.mem_append.mp hb' with z | z
        · simp [z]
        · simp [z])) ro'⟩
/-- self.f = e -/
def xSetF (c f : Str) (i : Nat) (fe : Ev) : Ex := fun d => (fe d).bind fun a => match a.2.getD i none with
  | some (.ins c' fs) => if c' = c ∧ fs.length < 100 then some (.nx, a.2.set i (some (.ins c' (putO f a.1 fs)))) else none
  | _ => none
theorem denS_setF {is : List Nat} {c f x : Str} {cl : Addr} {i : Nat} {ev : Expr} {fe : Ev} {p pos' pos : Pos} (hc : ClsF X C c cl) (hn : NoAttr X.K cl f) (hN : X.N[i]? = some x) (hv : Vis X.env.scope x) (hd : (x == ("__debug__" : Str)) = false) (hcd : (x == ("__classdict__" : Str)) = false) (he : Den X C ev fe)
    (hs : swapsWith ev (some (.Attribute (.Name x p) f pos')) pos.line X.env = pure false) : DenS X C is (.Assign [.Attribute (.Name x p) f pos'] ev pos) (xSetF c f i fe) := by
  refine ⟨fun pins s g H Hf d t F r d' I S q => ?_⟩
  obtain ⟨⟨o1, d1⟩, q1, q2⟩ := Option.bind_eq_some_iff.mp q
  have q3 : (match d1.getD i none with
    | some (.ins c' fs) => if c' = c ∧ fs.length < 100 then some (Fl.nx, d1.set i (some (.ins c' (putO f o1 fs)))) else none
    | _ => none) = some (r, d') := q2
  clear q2
  split at q3
  · rename_i c' fs ex
    split at q3
    · rename_i hz
      obtain ⟨ec, hz⟩ := hz
      cases q3
      subst ec
      refine plainObj_wpAny_Assign_Attribute (thn (he.run pins s g H Hf d t F o1 d1 I S q1) fun r1 s1 ⟨v1, H1, Hf1, F1, I1, rv1, S1, g1⟩ => ?_) hs
      obtain ⟨v0, hv0, pa, cl', dx, us, fp, e1, e2, e3, e4, rf⟩ := S1.env i _ (getD_some ex)
      rw [hc.at_] at e3
      cases e3
      subst e1
      refine thn ((pe_var (X := X) hN hv hd hcd (pos := p)).run pins s1 g H1 (fun z H' => z = .ref pa ∧ H' = H1) I1 ⟨.ref pa, hv0, rfl, rfl⟩) fun u s2 ⟨z, H2, I2, ru, ez, eH⟩ => ?_
      subst ez eH
      obtain rfl : u = .ref pa := ru
      refine setattr_ok I2 e4 hc.cls hn (by rw [rf.length]; omega) rv1 fun s3 I3 => ?_
      have r1' : Or X.K X.w C H2 Hf1 o1 v1 (F1 (d1.length + t.length)) := S1.tmp t.length o1 v1 (by simp)
      obtain ⟨f1, f2, od, sb⟩ := orF_put (f := f) r1' rf
      have nda := S1.nd i
      rw [e2] at nda
      have hil := (List.getElem?_eq_some_iff.mp (getD_some ex)).1
      have hdj : ∀ b, b ∈ F1 (d1.length + t.length) → b ∉ pa :: fp := fun b hb hz => S1.dj (d1.length + t.length) i b (by omega) hb (by rw [e2]; exact hz)
      have hpa : pa ∉ F1 (d1.length + t.length) := fun z => hdj pa z List.mem_cons_self
      have nd2 := (List.nodup_cons.mp nda).2
      have n1 : (f1 ++ f2).Nodup := nd2.sublist sb
      have n2 := List.nodup_append.mp n1
      have ndn : (pa :: (f1 ++ F1 (d1.length + t.length) ++ f2)).Nodup := by
        refine List.nodup_cons.mpr ⟨fun z => ?_, ?_⟩
        · simp only [List.mem_append] at z
          rcases z with (z | z) | z
          · exact (List.nodup_cons.mp nda).1 (sb.subset (List.mem_append_left _ z))
          · exact hpa z
          · exact (List.nodup_cons.mp nda).1 (sb.subset (List.mem_append_right _ z))
        · refine List.nodup_append.mpr ⟨List.nodup_append.mpr ⟨n2.1, S1.nd _, fun a ha b hb e => ?_⟩, n2.2.1, fun a ha b hb e => ?_⟩
          · subst e
            exact hdj a hb (List.mem_cons_of_mem _ (sb.subset (List.mem_append_left _ ha)))
          · subst e
            rcases List.mem_append.mp ha with z | z
            · exact n2.2.2 a z a hb rfl
            · exact hdj a z (List.mem_cons_of_mem _ (sb.subset (List.mem_append_right _ hb)))
      obtain ⟨F7, S7, g7, _⟩ := S1.mutSlot' (k := i) (H' := upd H2 pa (.ins cl dx (putF f v1 us))) (o' := .ins c' (putO f o1 fs)) (f' := pa :: (f1 ++ F1 (d1.length + t.length) ++ f2)) (getD_some ex) hv0 (fun a u q n => by
          rw [upd_ne fun z => n (by rw [z, e2]; exact List.mem_cons_self)]
          exact q) ndn (fun a ha => by
          rcases List.mem_cons.mp ha with z | z
          · exact .inl (by rw [z, e2]; exact List.mem_cons_self)
          · simp only [List.mem_append] at z
            rcases z with (z | z) | z
            · exact .inl (by rw [e2]; exact List.mem_cons_of_mem _ (sb.subset (List.mem_append_left _ z)))
            · exact .inr (.inl z)
            · exact .inl (by rw [e2]; exact List.mem_cons_of_mem _ (sb.subset (List.mem_append_right _ z))))
        ⟨pa, cl, dx, _, _, rfl, rfl, hc.at_, upd_same, OrF.mono Le.rfl _ _ _ (fun a ha => upd_ne (nd_not ndn a ha)) od⟩
      exact ⟨g, _, Hf1, F7, I3, S7, g1.trans g7, Same.rfl⟩
    · cases q3
  · cases q3
end
end Pd
set_option maxHeartbeats 1000000
/-! Pd27: fields of owned instances that are dicts; making instances. -/
namespace Pd
open PySem L2 PyProof.Rows
section
variable {X : Cx} {C : Str → Option Addr} {pins : List (Addr × Obj)} {g : L2.St} {H Hf : Hp} {s : Shared}
/-- the field of an owned instance -/
def fldAt (c f : Str) (i : Nat) (d : PEnv) : Option O := match d.getD i none with
  | some (.ins c' fs) => if c' = c then fs.lookup f else none
  | _ => none
theorem fldAt_eq {c f : Str} {i : Nat} {d : PEnv} {o : O} (h : fldAt c f i d = some o) : ∃ fs, d.getD i none = some (.ins c fs) ∧ fs.lookup f = some o := by
  unfold fldAt at h
  split at h
  · rename_i c' fs e
    by_cases hc : c' = c
    · rw [if_pos hc] at h
      exact ⟨fs, by rw [e, hc], h⟩
    · rw [if_neg hc] at h
      cases h
  · cases h
/-- self.f is read: its value, nothing changed -/
theorem read_fld {c f x : Str} {cl : Addr} {i : Nat} {p pos : Pos} {d : PEnv} {t : Tmp} {F : Fps} {o : O} (hc : ClsF X C c cl) (hn : NoAttr X.K cl f) (hN : X.N[i]? = some x) (hv : Vis X.env.scope x) (hd : (x == ("__debug__" : Str)) = false) (hcd : (x == ("__classdict__" : Str)) = false)
    (hab : attributeBase (.Name x p) f X.env (eval (.Name x p) X.env) = eval (.Name x p) X.env) (I : Inv X pins g H s) (S : ST X.K X.w C H Hf d g t F) (h : fldAt c f i d = some o) :
    wpAny (model X.prog X.w) X.A (eval (.Attribute (.Name x p) f pos) X.env) (fun u s' => ∃ (v : V) (pa dx : Addr) (fs : List (Str × O)) (vs : List (Str × V)) (fp : List Addr), Inv X pins g H s' ∧ RelV v u ∧ g[i]? = some (some (.ref pa)) ∧ d.getD i none = some (.ins c fs) ∧ fs.lookup f = some o ∧ F i = pa :: fp ∧ H pa = some (.ins cl dx vs) ∧ OrF X.K X.w C H Hf fs vs fp ∧ vs.lookup f = some v) X.xe s := by
  obtain ⟨fs, e1, e2⟩ := fldAt_eq h
  obtain ⟨v0, hv0, pa, cl', dx, vs, fp, e3, e4, e5, e6, rf⟩ := S.env i _ (getD_some e1)
  rw [hc.at_] at e5
  cases e5
  subst e3
  obtain ⟨v, fo, f1, f2, h1, h2, h3, h4⟩ := orF_at rf e2
  refine attr_of hab (thn ((pe_var (X := X) hN hv hd hcd (pos := p)).run pins s g H (fun z H' => z = .ref pa ∧ H' = H) I ⟨.ref pa, hv0, rfl, rfl⟩) fun u s2 ⟨z, H2, I2, ru, ez, eH⟩ => ?_)
  subst ez eH
  obtain rfl : u = .ref pa := ru
  exact getattr_ok I2 e6 hc.cls hn h1 fun u s3 I3 ru => ⟨v, pa, dx, fs, vs, fp, I3, ru, hv0, e1, e2, e4, e6, rf, h1⟩
def evCmpF (pa : Opn) (c f : Str) (i : Nat) (r : D → D → Option O) : Ev := fun d => (pa.go d).bind fun a => (fldAt c f i a.2).bind fun o => o.sh.bind fun y => (pa.look a.2 a.1).bind fun z => z.1.sh.bind fun x => (r x y).bind fun o => some (o, a.2)
theorem cmpF_run {op : CmpOp} {r : D → D → Option O} {ea : Expr} {pa : Opn} {c f x : Str} {cl : Addr} {i : Nat} {p fpos : Pos} {d d' : PEnv} {t : Tmp} {F : Fps} {o : O} (ho : Op2 X C (compareOp op) r) (ha : DenP X C ea pa) (hc : ClsF X C c cl) (hn : NoAttr X.K cl f) (hN : X.N[i]? = some x) (hv : Vis X.env.scope x) (hd : (x == ("__debug__" : Str)) = false) (hcd : (x == ("__classdict__" : Str)) = false)
    (hab : attributeBase (.Name x p) f X.env (eval (.Name x p) X.env) = eval (.Name x p) X.env) (I : Inv X pins g H s) (S : ST X.K X.w C H Hf d g t F) (q : evCmpF pa c f i r d = some (o, d')) :
    wpAny (model X.prog X.w) X.A (eval ea X.env) (fun v s1 => wpAny (model X.prog X.w) X.A (eval (.Attribute (.Name x p) f fpos) X.env) (fun u s2 => wpAny (model X.prog X.w) X.A (compareOp op v u) (Post X C pins g H Hf F t o d') X.xe s2) X.xe s1) X.xe s := by
  obtain ⟨⟨t1, d1⟩, q1, q⟩ := Option.bind_eq_some_iff.mp q
  obtain ⟨of, q2, q⟩ := Option.bind_eq_some_iff.mp q
  obtain ⟨y, q3, q⟩ := Option.bind_eq_some_iff.mp q
  obtain ⟨⟨z, l⟩, q4, q⟩ := Option.bind_eq_some_iff.mp q
  obtain ⟨xd, q5, q⟩ := Option.bind_eq_some_iff.mp q
  obtain ⟨o', q6, q⟩ := Option.bind_eq_some_iff.mp q
  cases q
  refine thn (ha.run pins s g H Hf d t F t1 d1 I S q1) fun v s1 ⟨vx, H1, Hf1, F1, I1, r1, S1, g1, sl1⟩ => ?_
  obtain ⟨f0, ro⟩ := opn_or q1 q4 S1 sl1
  refine thn (read_fld hc hn hN hv hd hcd hab I1 S1 q2) fun u s2 ⟨vf, pa', dx, fs, vs, fp, I2, ru, hg, e1, e2, e3, e4, rf, e5⟩ => ?_
  obtain ⟨v', fo, f1, f2, h1, h2, h3, h4⟩ := orF_at rf e2
  rw [e5] at h1
  cases h1
  obtain ⟨F3, S3, g3⟩ := ST.popAll _ S1
  exact thn (ho pins s2 g H1 Hf1 vx vf v u xd y o I2 S1.le r1 ru (Or.sh S1.le q5 ro) (Or.sh S1.le q3 h2) q6) fun w s3 k => Post.al S3 (g1.trans g3) k
theorem den_cmpF {op : CmpOp} {r : D → D → Option O} {ea : Expr} {pa : Opn} {c f x : Str} {cl : Addr} {i : Nat} {p fpos pos : Pos} (ho : Op2 X C (compareOp op) r) (ha : DenP X C ea pa) (hc : ClsF X C c cl) (hn : NoAttr X.K cl f) (hN : X.N[i]? = some x) (hv : Vis X.env.scope x) (hd : (x == ("__debug__" : Str)) = false) (hcd : (x == ("__classdict__" : Str)) = false)
    (hab : attributeBase (.Name x p) f X.env (eval (.Name x p) X.env) = eval (.Name x p) X.env) (hm : behindInMarks op (.Attribute (.Name x p) f fpos) = false) : Den X C (.Compare ea [op] [.Attribute (.Name x p) f fpos] pos) (evCmpF pa c f i r) := by
  refine ⟨fun pins s g H Hf d t F o d' I S q => ?_⟩
  exact wpAny_Compare1 (cmpF_run ho ha hc hn hN hv hd hcd hab I S q) hm
theorem denT_cmpF {op : CmpOp} {r : D → D → Option O} {ea : Expr} {pa : Opn} {c f x : Str} {cl : Addr} {i : Nat} {p fpos pos : Pos} (ho : Op2 X C (compareOp op) r) (ha : DenP X C ea pa) (hc : ClsF X C c cl) (hn : NoAttr X.K cl f) (hN : X.N[i]? = some x) (hv : Vis X.env.scope x) (hd : (x == ("__debug__" : Str)) = false) (hcd : (x == ("__classdict__" : Str)) = false)
    (hab : attributeBase (.Name x p) f X.env (eval (.Name x p) X.env) = eval (.Name x p) X.env) (hm : behindInMarks op (.Attribute (.Name x p) f fpos) = false) : DenT X C (.Compare ea [op] [.Attribute (.Name x p) f fpos] pos) (evB (evCmpF pa c f i r)) := by
  refine ⟨fun pins s g H Hf d t F b d' I S q => ?_⟩
  refine wpAny_isTrue_Compare1 (thn (cmpF_run ho ha hc hn hN hv hd hcd hab I S (evB_inv q)) fun v s1 k1 => thn k1 fun u s2 k2 => thn k2 fun c s3 k => ?_) hm
  obtain ⟨e1, k3⟩ := k.bool
  subst e1
  exact wpAny_truthy_bool ⟨rfl, k3⟩

/-! ### self.f[k] = e -/
def xSetFK (c f : Str) (i : Nat) (qk : EvQ) (fv : Ev) : Ex := fun d => (fv d).bind fun a => (qk a.2).bind fun k => match a.2.getD i none, fldAt c f i a.2 with
  | some (.ins c' fs), some (.dic kvs) => if k.kOk 8 = true ∧ kvs.length < 100000 then some (.nx, a.2.set i (some (.ins c' (putO f (.dic (putD k (.val a.1.d) kvs)) fs)))) else none
  | _, _ => none
theorem denS_setFK {is : List Nat} {c f x : Str} {cl : Addr} {i : Nat} {ek ev : Expr} {qk : EvQ} {fv : Ev} {p fpos pos' pos : Pos} (hu : X.A.units + 20 < cLine) (hc : ClsF X C c cl) (hn : NoAttr X.K cl f) (hN : X.N[i]? = some x) (hv : Vis X.env.scope x) (hd : (x == ("__debug__" : Str)) = false) (hcd : (x == ("__classdict__" : Str)) = false)
    (hab : attributeBase (.Name x p) f X.env (eval (.Name x p) X.env) = eval (.Name x p) X.env) (hk : DenQ X C ek qk) (he : Den X C ev fv) (hs : swapsWith ev (some (.Subscript (.Attribute (.Name x p) f fpos) ek pos')) pos.line X.env = pure false) :
    DenS X C is (.Assign [.Subscript (.Attribute (.Name x p) f fpos) ek pos'] ev pos) (xSetFK c f i qk fv) := by
  refine ⟨fun pins s g H Hf d t F r d' I S q => ?_⟩
  obtain ⟨⟨o1, d1⟩, q1, q2⟩ := Option.bind_eq_some_iff.mp q
  obtain ⟨k, q3, q4⟩ := Option.bind_eq_some_iff.mp q2
  have q5 : (match d1.getD i none, fldAt c f i d1 with
    | some (.ins c' fs), some (.dic kvs) => if k.kOk 8 = true ∧ kvs.length < 100000 then some (Fl.nx, d1.set i (some (.ins c' (putO f (.dic (putD k (.val o1.d) kvs)) fs)))) else none
    | _, _ => none) = some (r, d') := q4
  clear q4 q2
  split at q5
  · rename_i c' fs kvs ex ef
    split at q5
    · rename_i hz
      cases q5
      refine wpAny_Assign_Subscript (thn (he.run pins s g H Hf d t F o1 d1 I S q1) fun r1 s1 ⟨v1, H1, Hf1, F1, I1, rv1, S1, g1⟩ => ?_) hs
      obtain ⟨Hf2, S2, g2, rp1⟩ := S1.freezeTop
      refine thn (read_fld hc hn hN hv hd hcd hab I1 S2 ef) fun u s2 ⟨vf, pa, dx, fs', vs, fp, I2, ru, hg, e1, e2, e3, e4, rf, e5⟩ => ?_
      rw [ex] at e1
      cases e1
      refine thn (hk.run pins s2 g H1 Hf2 d1 _ _ k I2 S2 q3) fun uk s3 ⟨vk, I3, rk, rpk⟩ => ?_
      obtain ⟨S4, g4⟩ := S2.pop
      obtain ⟨v', fo, f1, f2, h1, h2, h3, h4⟩ := orF_at rf e2
      rw [e5] at h1
      cases h1
      obtain ⟨pd, e, fd, e6, e7, ok, hh, rd⟩ := h2
      subst e6
      obtain rfl : u = .ref pd := ru
      have nda := S2.nd i
      rw [e3, h3, e7] at nda
      have nd2 := (List.nodup_cons.mp nda).2
      have hpa : pa ∉ f1 ++ (pd :: fd) ++ f2 := (List.nodup_cons.mp nda).1
      have hpd : pd ∉ f1 ∧ pd ∉ fd ∧ pd ∉ f2 := by
        rw [List.append_assoc, List.cons_append] at nd2
        have z := List.nodup_append.mp nd2
        have z2 := (List.nodup_cons.mp z.2.1).1
        exact ⟨fun q => z.2.2 pd q pd List.mem_cons_self rfl, fun q => z2 (List.mem_append_left _ q), fun q => z2 (List.mem_append_right _ q)⟩
      have hne : pa ≠ pd := fun z => hpa (by rw [z]; simp)
      refine setItem_d (by omega) I3 hh ok (OrD.k S2.le rd) hz.1 (Rp.mono S2.le _ _ rpk) rk rv1 (by simpa using hz.2) fun ob s5 I5 => ?_
      obtain ⟨g3, g4', od, sb⟩ := orD_put (k := k) (x := .val o1.d) (y := vk) (v := v1) (fx := []) rpk ⟨rfl, rp1⟩ rd
      have sb2 : (g3 ++ [] ++ g4').Sublist fd := by simpa using sb
      have hil := (List.getElem?_eq_some_iff.mp (getD_some ex)).1
      have e3' : (uf (uf F1 (d1.length + t.length) []) (d1.length + t.length) []) i = pa :: (f1 ++ (pd :: fd) ++ f2) := by
        rw [uf_ne (by omega)]
        rw [e3, h3, e7]
      have sbl : (f1 ++ (pd :: (g3 ++ [] ++ g4')) ++ f2).Sublist (f1 ++ (pd :: fd) ++ f2) := ((List.Sublist.refl f1).append (sb2.cons_cons pd)).append (List.Sublist.refl f2)
      have ndn : (pa :: (f1 ++ (pd :: (g3 ++ [] ++ g4')) ++ f2)).Nodup := nda.sublist (sbl.cons_cons pa)
      obtain ⟨F7, S7, g7⟩ := S4.mutSlot0 (k := i) (H' := upd H1 pd (hoDic pd (ob, putE (kIdx k (kvs.map (·.1))) vk (k.hash X.w) v1 e.2))) (o' := .ins c (putO f (.dic (putD k (.val o1.d) kvs)) fs)) (f' := pa :: (f1 ++ (pd :: (g3 ++ [] ++ g4')) ++ f2)) (getD_some ex) hg (fun a u q n => by
          rw [upd_ne fun z => n (by rw [z, e3']; simp)]
          exact q) ndn (fun a ha => .inl (by rw [e3']; exact (sbl.cons_cons pa).subset ha))
        ⟨pa, cl, dx, vs, _, rfl, rfl, hc.at_, by rw [upd_ne hne]; exact e4, h4 _ _ _ (fun a ha => upd_ne fun z => (by rw [z] at ha; exact (List.mem_append.mp ha).elim hpd.1 hpd.2.2)) ⟨pd, _, _, rfl, rfl, keysOk_put ok hz.1, upd_same, OrD.mono Le.rfl _ _ _ (fun a ha => upd_ne fun z => hpd.2.1 (by rw [← z]; exact sb2.subset ha)) od⟩⟩
      exact ⟨g, _, Hf2, F7, I5, S7, (((g1.trans g2).trans g4)).trans g7, Same.rfl⟩
    · cases q5
  · cases q5
end
end Pd
set_option maxHeartbeats 1000000
/-! Pd28: instances made; properties; methods of frozen instances. -/
namespace Pd
open PySem L2 PyProof.Rows
section
variable {X : Cx} {C : Str → Option Addr} {pins : List (Addr × Obj)} {g : L2.St} {H Hf : Hp} {s : Shared}
/-! ### C(..) -/
structure FeC where
  name : Str
  n : Nat
  lvl : Nat
  fn : O → List D → Option (O × O)
def FeCOk (X : Cx) (C : Str → Option Addr) (e : FeC) : Prop :=
  ∃ (cl f : Addr) (fd : FuncData) (ps : List Str), C e.name = some cl ∧ X.mg e.name = some (.ref cl) ∧ Mk X.K cl f ∧ Binds X.K fd ps [] ∧ (e.name == ("__debug__" : Str)) = false ∧ FnOk X.prog X.w X.K X.mg X.base CX0 e.lvl f fd ps (spM X.K X.w C e.n e.fn) ∧ Room (e.lvl + 1) X.A
def mkOf (c : Str) (n : Nat) (fn : O → List D → Option (O × O)) (xs : List D) : Option O := if xs.length = n then (fn (.ins c []) xs).bind fun z => match z.1 with
  | .val .non => some z.2
  | _ => none else none
theorem mkOf_eq {c : Str} {n : Nat} {fn : O → List D → Option (O × O)} {xs : List D} {o : O} (h : mkOf c n fn xs = some o) : xs.length = n ∧ fn (.ins c []) xs = some (.val .non, o) := by
  unfold mkOf at h
  split at h
  · rename_i hn
    obtain ⟨⟨a, b⟩, h1, h2⟩ := Option.bind_eq_some_iff.mp h
    split at h2
    · rename_i e
      have e : a = .val .non := e
      cases h2
      rw [e] at h1
      exact ⟨hn, h1⟩
    · cases h2
  · cases h
theorem make_val {e : FeC} {us : List Value} {vs : List V} {ds : List D} {o : O} {cl : Addr} (hF : FeCOk X C e) (hcl : C e.name = some cl) (I : Inv X pins g H s) (l : Le Hf H) (rv : Vals vs us) (rp : RpL X.K X.w C Hf ds vs) (h : mkOf e.name e.n e.fn ds = some o) :
    wpAny (model X.prog X.w) X.A (call (.ref cl) us) (PO X C pins g H Hf o) X.xe s := by
  obtain ⟨cl', f, fd, pn, h1, h2, M, hb, _, FO, hr⟩ := hF
  rw [hcl] at h1
  cases h1
  obtain ⟨hn, hf⟩ := mkOf_eq h
  refine thn (run_make (dvs := []) (ds := []) (vs := vs) (Q := fun v H' => ∃ Hf' f', Al H Hf H' Hf' f' ∧ Or X.K X.w C H' Hf' o v f') M FO hr hb .nil pass0 I rv fun x dx hx hdx hne => ?_) fun u s' ⟨v, H', I', r', Hf', f', a, ro⟩ => ⟨v, H', Hf', f', I', r', a, ro⟩
  rw [List.append_nil]
  have hfx : Hf x = none := by
    cases q : Hf x with
    | none => rfl
    | some u => rw [l x u q] at hx; cases hx
  have up : ∀ a u, H a = some u → (upd (upd H dx (.own x)) x (.ins cl dx [])) a = some u := fun a u q => by
    rw [upd_ne (fun z => (by rw [z, hx] at q; cases q)), upd_ne (fun z => (by rw [z, hdx] at q; cases q))]
    exact q
  have S0 : ST X.K X.w C (upd (upd H dx (.own x)) x (.ins cl dx [])) Hf [some (.ins e.name [])] [some (.ref x)] [] (fun k => if k = 0 then [x] else []) := by
    refine ⟨rfl, fun k q z => ?_, fun j q v z => by simp at z, fun k k1 k2 => ?_, fun k => ?_, fun k j a hk ha hb => ?_, fun k a ha => ?_, fun a u q => up a u (l a u q)⟩
    · cases k with
      | zero =>
        cases z
        exact ⟨.ref x, rfl, x, cl, dx, [], [], rfl, rfl, hcl, upd_same, rfl, rfl⟩
      | succ k => simp at z
    · cases k with
      | zero => exact absurd rfl (k1 _)
      | succ k => rfl
    · cases k with
      | zero => exact List.nodup_cons.mpr ⟨by simp, List.nodup_nil⟩
      | succ k => exact List.nodup_nil
    · cases k with
      | zero =>
        cases j with
        | zero => exact hk rfl
        | succ j => cases hb
      | succ k => cases ha
    · cases k with
      | zero =>
        have ha : a ∈ [x] := ha
        rw [List.mem_singleton.mp ha]
        exact hfx
      | succ k => cases ha
  have inF : ∀ k a, a ∈ (if k = 0 then [x] else []) → a = x := fun k a ha => by
    split at ha
    · exact List.mem_singleton.mp ha
    · cases ha
  have old : ∀ a, (upd (upd H dx (.own x)) x (.ins cl dx [])) a = none → H a = none := fun a q => by
    cases z : H a with
    | none => rfl
    | some u => rw [up a u z] at q; cases q
  refine ⟨Hf, .ins e.name [], ds, .val .non, o, _, .ref x, vs, rfl, S0, rp, hn, hf, fun v H' Hf' F' S' go => ?_⟩
  have hv : v = .non := (S'.tmp 0 (.val .non) v rfl).2
  obtain ⟨v2, w1, w2⟩ := S'.env 0 o rfl
  cases w1
  refine ⟨hv, Hf', F' 0, ⟨fun a u q => go.keep a u (up a u q) fun k z => ?_, go.grow, fun a u q => ?_, S'.le, fun a ha => ?_, S'.nd 0, fun a ha => S'.fz 0 a ha⟩, w2⟩
  · have z := inF k a z
    rw [z, hx] at q
    cases q
  · rcases go.new a u q with z | ⟨k, z⟩ | z
    · exact .inl z
    · exact .inr (by rw [inF k a z]; exact hx)
    · exact .inr (old a z)
  · rcases go.foot 0 a ha with ⟨k, z⟩ | z
    · rw [inF k a z]; exact hx
    · exact old a z
theorem den_make {fe : FeC} {e : Expr} {es : List Expr} {ps : List Opn} {p pos : Pos} (hg : Gl X fe.name) (hF : FeCOk X C fe) (hp : allEx ps = true) (ha : DenA X C (e :: es) ps) (he : starEach (e :: es) X.env = (false, eval e X.env) :: starEach es X.env) (hpl : (backTo pos (starEach es X.env)).any (·.1) = false) :
    Den X C (.Call (.Name fe.name p) (e :: es) [] pos) (evV ps (mkOf fe.name fe.n fe.fn)) := by
  refine ⟨fun pins s g H Hf d t F o d' I S q => ?_⟩
  obtain ⟨⟨ta, d1⟩, h1, q⟩ := Option.bind_eq_some_iff.mp q
  obtain ⟨r, h2, q⟩ := Option.bind_eq_some_iff.mp q
  cases q
  have hF0 := hF
  obtain ⟨cl, f, fd, pn, hC, hm, M, _, hdb, _, _⟩ := hF
  refine wpAny_Call_Name_kw (ld_glob I hg hm ?_ hdb)
  refine PySem.W.callWith_K (h₀ := X.base) I.ok.mod.kin M.kp (thn (ha.run pos pins s g H Hf d t F ta d1 I S h1) fun us s1 k => ?_) he hpl
  obtain ⟨vs, H2, Hf2, F2, I2, rv, rp, S2, g2⟩ := drop_val hp h1 k
  exact ⟨I2.kIn, thn (make_val hF0 hC I2 S2.le rv rp h2) fun u s2 z => Post.al S2 g2 z⟩

/-! ### properties -/
structure FeP where
  cls : Str
  name : Str
  lvl : Nat
  fn : List D → Option O
def FePOk (X : Cx) (C : Str → Option Addr) (e : FeP) : Prop :=
  ∃ (cl p f : Addr) (fd : FuncData) (ps : List Str), C e.cls = some cl ∧ Cls X.K cl ∧ PropOf X.K cl e.name p f ∧ Binds X.K fd ps [] ∧ FnOk X.prog X.w X.K X.mg X.base CX0 e.lvl f fd ps (spV X.K X.w C 1 e.fn) ∧ Room (e.lvl + 1) X.A
def isIns (c : Str) : D → Bool
  | .ins c' _ => decide (c' = c)
  | _ => false
theorem isIns_eq {c : Str} {a : D} (h : isIns c a = true) : ∃ fs, a = .ins c fs := by
  cases a with
  | ins c' fs =>
    have h := of_decide_eq_true h
    exact ⟨fs, by rw [h]⟩
  | _ => cases h
def evProp (c : Str) (fn : List D → Option O) (f : Ev) : Ev := fun d => (f d).bind fun a => if isIns c a.1.d = true then (fn [a.1.d]).bind fun o => some (o, a.2) else none
theorem den_prop {fe : FeP} {e : Expr} {f : Ev} {pos : Pos} (hF : FePOk X C fe) (he : Den X C e f) (hab : attributeBase e fe.name X.env (eval e X.env) = eval e X.env) : Den X C (.Attribute e fe.name pos) (evProp fe.cls fe.fn f) := by
  refine ⟨fun pins s g H Hf d t F o d' I S q => ?_⟩
  obtain ⟨⟨o1, d1⟩, q1, q2⟩ := Option.bind_eq_some_iff.mp q
  split at q2
  · rename_i hi
    obtain ⟨o2, q3, q4⟩ := Option.bind_eq_some_iff.mp q2
    cases q4
    obtain ⟨fs, ei⟩ := isIns_eq hi
    have ei : o1.d = .ins fe.cls fs := ei
    obtain ⟨cl, p, fa, fd, ps, hC, hcl, hp, hb, FO, hr⟩ := hF
    refine attr_of hab (thn (he.run pins s g H Hf d t F o1 d1 I S q1) fun u s1 ⟨v, H1, Hf1, F1, I1, r1, S1, g1⟩ => ?_)
    obtain ⟨Hf2, S2, g2, rp⟩ := S1.freezeTop
    obtain ⟨S3, g3⟩ := S2.pop
    have rp0 := rp
    rw [ei] at rp
    obtain ⟨pa, cl', dx, vs, e1, e2, e3, rf⟩ := rp
    rw [hC] at e2
    cases e2
    subst e1
    obtain rfl : u = .ref pa := r1
    refine thn (getprop_ok (Q := fun v H' => ∃ Hf' f', Al H1 Hf2 H' Hf' f' ∧ Or X.K X.w C H' Hf' o v f') (dvs := []) (ds := []) I1 (S3.le _ _ e3) hcl hp FO hr hb .nil pass0
      ⟨Hf2, [o1.d], o, S3.le, ⟨.ref pa, [], rfl, rp0, rfl⟩, rfl, q3, fun v H' Hf' f a ro => ⟨Hf', f, a, ro⟩⟩) fun u' s' ⟨v', H', I', r', Hf', f', a, ro⟩ => ?_
    exact Post.al S3 ((g1.trans g2).trans g3) ⟨v', H', Hf', f', I', r', a, ro⟩
  · cases q2

/-! ### methods of frozen instances -/
structure FeS where
  cls : Str
  name : Str
  n : Nat
  lvl : Nat
  fn : List D → Option O
def FeSOk (X : Cx) (C : Str → Option Addr) (e : FeS) : Prop :=
  ∃ (cl f : Addr) (fd : FuncData) (ps : List Str), C e.cls = some cl ∧ Cls X.K cl ∧ Meth X.K cl e.name f ∧ Binds X.K fd ps [] ∧ FnOk X.prog X.w X.K X.mg X.base CX0 e.lvl f fd ps (spV X.K X.w C (e.n + 1) e.fn) ∧ Room e.lvl X.A
def hasM (c m : Str) : D → Bool
  | .ins c' fs => decide (c' = c) && (fs.lookup m).isNone
  | _ => false
theorem hasM_eq {c m : Str} {a : D} (h : hasM c m a = true) : ∃ fs, a = .ins c fs ∧ fs.lookup m = none := by
  cases a with
  | ins c' fs =>
    have h : (decide (c' = c) && (fs.lookup m).isNone) = true := h
    rw [Bool.and_eq_true, decide_eq_true_eq, Option.isNone_iff_eq_none] at h
    exact ⟨fs, by rw [h.1], h.2⟩
  | _ => cases h
def evMethV (c m : Str) (n : Nat) (fn : List D → Option O) (f : Ev) (ps : List Opn) : Ev := fun d => (f d).bind fun a => if hasM c m a.1.d = true then (goL ps a.2).bind fun b => if (O.ds b.1).length = n then (fn (a.1.d :: O.ds b.1)).bind fun o => some (o, b.2) else none else none
theorem den_methV {fe : FeS} {e e1 : Expr} {es : List Expr} {f : Ev} {ps : List Opn} {apos pos : Pos} {pl : Sem Bool} (hF : FeSOk X C fe) (he : Den X C e f) (hp : allEx ps = true) (ha : DenA X C (e1 :: es) ps) (hst : starEach (e1 :: es) X.env = (false, eval e1 X.env) :: starEach es X.env) (hpl : (backTo pos (starEach es X.env)).any (·.1) = false)
    (ht : eval (.Call (.Attribute e fe.name apos) (e1 :: es) [] pos) X.env = (do
      let ov ← eval e X.env
      standAt apos.atName
      let (f, first) ← holding [ov] (getMethod ov fe.name pl)
      callWith pos f first (backTo pos (starEach (e1 :: es) X.env)) (backToKw pos (keywordEach [] X.env)))) : Den X C (.Call (.Attribute e fe.name apos) (e1 :: es) [] pos) (evMethV fe.cls fe.name fe.n fe.fn f ps) := by
  refine ⟨fun pins s g H Hf d t F o d' I S q => ?_⟩
  obtain ⟨⟨o1, d1⟩, q1, q2⟩ := Option.bind_eq_some_iff.mp q
  split at q2
  · rename_i hi
    obtain ⟨⟨ta, d2⟩, q3, q4⟩ := Option.bind_eq_some_iff.mp q2
    split at q4
    · rename_i hn
      obtain ⟨o2, q5, q6⟩ := Option.bind_eq_some_iff.mp q4
      cases q6
      obtain ⟨fs, ei, el⟩ := hasM_eq hi
      have ei : o1.d = .ins fe.cls fs := ei
      obtain ⟨cl, fa, fd, pn, hC, hcl, hm, hb, FO, hr⟩ := hF
      refine PySem.W.methodCall_KW (pl := pl) (thn (he.run pins s g H Hf d t F o1 d1 I S q1) fun u s1 ⟨v, H1, Hf1, F1, I1, r1, S1, g1⟩ => ?_) ht
      obtain ⟨Hf2, S2, g2, rp⟩ := S1.freezeTop
      have rp0 := rp
      rw [ei] at rp
      obtain ⟨pa, cl', dx, vs, e2, e3, e4, rf⟩ := rp
      rw [hC] at e3
      cases e3
      subst e2
      obtain rfl : u = .ref pa := r1
      refine getmeth_ok I1 (S2.le _ _ e4) hcl hm (rf.none el) ?_
      refine PySem.W.callWith_K (first := [.ref pa]) (h₀ := X.base) I.ok.mod.kin hm.kp (thn (ha.run pos pins s1 g H1 Hf2 d1 _ _ ta d2 I1 S2 q3) fun us s2 k => ?_) hst hpl
      obtain ⟨vs', H2, Hf3, F3, I2, rv, rp', S3, g3⟩ := drop_val hp q3 k
      obtain ⟨S4, g4⟩ := S3.pop
      refine ⟨I2.kIn, thn (run_spV (us := .ref pa :: us) (vs := .ref pa :: vs') (ds := o1.d :: O.ds ta) FO hr hb pass0 I2 S4.le (.cons rfl rv) ⟨.ref pa, vs', rfl, Rp.mono g3.grow _ _ rp0, rp'⟩ ?_ q5) fun u s2 z => Post.al S4 (((g1.trans g2).trans g3).trans g4) z⟩
      have hn : (O.ds ta).length = fe.n := hn
      rw [List.length_cons, hn]
    · cases q4
  · cases q2
end
end Pd
set_option maxHeartbeats 1000000
/-! Pd29: {}; d.values(). -/
namespace Pd
open PySem L2 PyProof.Rows
section
variable {X : Cx} {C : Str → Option Addr} {pins : List (Addr × Obj)} {g : L2.St} {H Hf : Hp} {s : Shared}
def newDic : Obj := { cls := .type "dict", data := .dict #[] }
theorem empty_ok (h : Heap) (hb : sysModules < h.objs.size) : ObjOk X.prog X.w (upd H h.objs.size (hoDic h.objs.size (newDic, []))) (h.push newDic) h.objs.size (hoDic h.objs.size (newDic, [])) := by
  have e : (h.push newDic).get? h.objs.size = some newDic := Heap.get?_push_size _ rfl
  refine ⟨⟨e, ?_, Nat.zero_le _, ⟨rfl, rfl, rfl⟩, #[], 0, rfl, .nil⟩, ⟨_, e⟩, fun h1 h2 x y => dicPhi_stay x y⟩
  exact beq_eq_false_iff_ne.mpr (Nat.ne_of_gt hb)
def evDic0 : Ev := fun d => some (.dic [], d)
theorem den_dict0 {pos : Pos} : Den X C (.Dict [] [] pos) evDic0 := by
  refine ⟨fun pins s g H Hf d t F o d' I S q => ?_⟩
  cases q
  refine wpAny_Dict_empty ?_
  have hn : H s.heap.objs.size = none := I.hok.fresh (Nat.le_refl _)
  have I1 : Inv X pins g (upd H s.heap.objs.size (hoDic s.heap.objs.size (newDic, []))) { s with heap := s.heap.push newDic } := I.laid (t' := s.toks) (fun _ _ q => Heap.get?_push_of_some _ q) (Nat.le_refl _) (empty_ok s.heap I.big)
  have al : Al H Hf (upd H s.heap.objs.size (hoDic s.heap.objs.size (newDic, []))) Hf [s.heap.objs.size] := Al.own S.le hn
  obtain ⟨S2, g2⟩ := S.push (o := .dic []) (v := .ref s.heap.objs.size) al.lH al.lF al.nw al.l' al.fr al.nd al.fz ⟨s.heap.objs.size, (newDic, []), [], rfl, rfl, ⟨fun _ h => (by cases h), List.nodup_nil⟩, upd_same, rfl, rfl⟩
  exact ⟨.ref s.heap.objs.size, _, _, _, I1, rfl, S2, g2⟩

/-! ### d.values() -/
def Itv0 (a : Addr) (e : DE) : It := ⟨fun i H => H a = some (hoDic a e) ∧ i < e.2.length, fun i H v H' => H' = H ∧ ∃ en : Ent, e.2[i]? = some en ∧ v = en.2.2, fun i H => H a = some (hoDic a e) ∧ e.2.length ≤ i⟩
theorem turn_vals0 {P : Program} {w : World} {K : PySem.W.Frag} {tg : Expr} {a : Addr} {e : DE} {es : Array DictEntry} {ep : Nat} (it : Addr) (hd : e.1.data = .dict es ep) (he : EntsR es.toList e.2) : Turn P w K tg (Itv0 a e) [it] it (fun i h => h.IsValIter it a i e.2.length ep) where
  mem := by simp
  obj := fun i h st b hb => by
    have e : b = it := by simpa using hb
    subst e
    obtain ⟨oi, e, c, dd⟩ := st
    exact ⟨oi, e, fun v z => by rw [dd] at z; cases z⟩
  keep := fun i h h' st k => st.at fun oi e => k it (by simp) oi e
  item := by
    intro X hP hw hK hc i pins s σ H E I hf st hg
    subst hP hw hK
    obtain ⟨ha, hi⟩ := hg
    obtain ⟨f0, f1, f2, f3, f4, f5⟩ := hf it (by simp)
    have p := Inv.dic I ha
    have hsz : es.size = e.2.length := by rw [paired_len he, Array.length_toList]
    obtain ⟨en, hen, r⟩ := L2.paired_get (G := fun (x : Ent) (e : DictEntry) => EntR e x.1 x.2.1 x.2.2) he (List.getElem?_eq_getElem hi)
    rw [Array.getElem?_toList] at hen
    have hi' : i < es.size := by omega
    have hen' : es[i] = en := by
      rw [Array.getElem?_eq_getElem hi'] at hen
      exact Option.some.inj hen
    rw [← hsz] at st
    refine PySem.wpAny_pyNext_values_item_raw st ⟨_, p.1, p.2.2.2.1, hd⟩ hi' fun h' st' sb => ?_
    rw [hsz] at st'
    have I1 : Inv X pins σ H { s with heap := h' } := I.turned (t' := s.toks) (fun b ob hb e => (sb.2 b hb).trans e) f0 f1 f3 f4 f5
    obtain ⟨oi, q, c, dd⟩ := id st'
    exact ⟨es[i].val, rfl, go_of (s := { s with heap := h' }) q c dd (by decide) ⟨e.2[i].2.2, H, I1, by rw [hen']; exact r.val, ⟨rfl, e.2[i], List.getElem?_eq_getElem hi, rfl⟩, st', fun b hb => (hf b hb).1⟩⟩
  done := by
    intro X hP hw hK hc i pins s σ H E I hf st hg
    subst hP hw hK
    obtain ⟨ha, hi⟩ := hg
    obtain ⟨f0, f1, f2, f3, f4, f5⟩ := hf it (by simp)
    have p := Inv.dic I ha
    have hsz : es.size = e.2.length := by rw [paired_len he, Array.length_toList]
    rw [← hsz] at st
    exact PySem.wpAny_pyNext_values_end_raw (I.ok.hd hc) st ⟨_, p.1, p.2.2.2.1, hd⟩ (by omega) fun h' eb => ⟨rfl, I.turned (t' := s.toks) (fun b ob hb e => eb b ob hb e) f0 f1 f3 f4 f5⟩
  self := fun A i s Q E st h => wpAny_pyIter_valiter st h
def valsOf (kvs : List (D × D)) : List D := kvs.map (·.2)
theorem wks_vals {K : PySem.W.Frag} {w : World} {H0 : Hp} {a : Addr} {kvs : List (D × D)} {e : DE} (h : H0 a = some (hoDic a e)) (r : RpD K w C H0 kvs e.2) : Wks K w C (Itv0 a e) (valsOf kvs) H0 := by
  have hl : (valsOf kvs).length = e.2.length := by rw [rpD_length r]; simp [valsOf]
  refine ⟨fun i x H Hf q l1 l2 => ?_, fun i x H Hf v H' q l1 l2 y => ?_, fun i H Hf q l1 l2 => ⟨l2 _ _ (l1 _ _ h), by rw [hl] at q; exact q⟩⟩
  · exact ⟨l2 _ _ (l1 _ _ h), by rw [← hl]; exact (List.getElem?_eq_some_iff.mp q).1⟩
  · obtain ⟨e1, en, h1, h2⟩ := y
    subst e1 h2
    unfold valsOf at q
    rw [List.getElem?_map] at q
    obtain ⟨p, h3, h4⟩ := Option.map_eq_some_iff.mp q
    obtain ⟨en', z1, _, z2, _⟩ := rpD_get r h3
    rw [h1] at z1
    cases z1
    subst h4
    exact ⟨Hf, Al.rfl l2, Rp.mono l1 _ _ z2⟩
def evVals (f : Ev) : EvI := fun d => (f d).bind fun p => p.1.d.asDic.bind fun kvs => some (valsOf kvs, p.2)
theorem den_values {tg e : Expr} {f : Ev} {apos cpos : Pos} (he : Den X C e f) (hbase : attributeBase e "values" X.env (eval e X.env) = eval e X.env) (hline : (apos.endLine == cpos.line) = true) : DenI X C tg (.Call (.Attribute e "values" apos) [] [] cpos) (evVals f) := by
  refine ⟨fun pins s g H Hf d t F ds d' I S q => ?_⟩
  obtain ⟨⟨o, d1⟩, q1, q⟩ := Option.bind_eq_some_iff.mp q
  obtain ⟨kvs, q2, q⟩ := Option.bind_eq_some_iff.mp q
  cases q
  have ho : o.d = .dic kvs := asDic_eq q2
  refine wpAny_Call_method (T := "dict") (id := "dict.values") hbase rfl hline PySem.F.plainAttrs_dict PySem.F.slot_dict_values PySem.F.type_dict_values (thn (he.run pins s g H Hf d t F o d1 I S q1) fun u s1 ⟨v, H1, Hf1, F1, I1, r1, S1, g1⟩ => ?_)
  obtain ⟨Hf2, S2, g2, rp⟩ := S1.freezeTop
  obtain ⟨S3, g3⟩ := S2.pop
  rw [ho] at rp
  obtain ⟨a, e, e1, ok, h1, rd⟩ := rp
  subst e1
  obtain rfl : u = Value.ref a := r1
  have hH := S3.le _ _ h1
  obtain ⟨hT, hm, hdd⟩ := dic_type I1 hH
  obtain ⟨p1, p2, p3, p4, es, ep, p5, p6⟩ := Inv.dic I1 hH
  refine ⟨hT, hdd, ?_⟩
  have hsz : es.size = e.2.length := by rw [paired_len p6, Array.length_toList]
  have I2 : Inv X pins g H1 { s1 with heap := s1.heap.push { cls := .type "dict_values", data := .fields #[.ref a] } } := I1.kept (t' := s1.toks) fun b ob q => Heap.get?_push_of_some _ q
  have fin : wpAny (model X.prog X.w) X.A (pyIter (.ref s1.heap.objs.size)) (PIE X pins g tg fun J H' => ∃ Hf' F', ST X.K X.w C H' Hf' d1 g t F' ∧ Go H Hf F H' Hf' F' ∧ Wks X.K X.w C J (valsOf kvs) Hf') X.xe { s1 with heap := s1.heap.push { cls := .type "dict_values", data := .fields #[.ref a] } } := by
    refine PySem.wpAny_pyIter_values_raw (d := a) (es := es) (ep := ep) ⟨_, Heap.get?_push_size _ rfl, rfl, rfl⟩ ⟨_, Heap.get?_push_of_some _ p1, p4, p5⟩ (pi_one (tk := s1.toks) I2 _ (turn_vals0 _ p5 p6) ⟨_, Heap.get?_push_size _ rfl, rfl, ?_⟩ ⟨Hf2, _, S3, (g1.trans g2).trans g3, wks_vals h1 rd⟩)
    rw [hsz] <;> rfl
  show wpAny _ _ (callWith cpos (.builtin "dict.values") [.ref a] [] []) _ X.xe s1
  exact method_meetsIn PySem.F.slot_dict_values PySem.F.entry_dict_values rfl (PySem.evalArgs_none ⟨rfl, hT, PySem.F.args_dict_values_1 _, _, PySem.meets_dict_values_raw a hm, ⟨⟨es, ep, ⟨_, p1, p4, p5⟩⟩, fin⟩⟩)
end
end Pd
set_option maxHeartbeats 1000000
/-! Pd30: a dict at the top that takes a pair; {k: v, ..}. -/
namespace Pd
open PySem L2 PyProof.Rows
section
variable {X : Cx} {C : Str → Option Addr} {pins : List (Addr × Obj)} {g : L2.St} {H Hf : Hp} {s : Shared} {d : PEnv} {t : Tmp} {F : Fps}
/-- what is seen of the dict at the top -/
theorem ST.dacc {kvs : List (D × O)} {p : Addr} (S : ST X.K X.w C H Hf d g (t ++ [(.dic kvs, .ref p)]) F) : ∃ e f, F (d.length + t.length) = p :: f ∧ KeysOk (kvs.map (·.1)) ∧ H p = some (hoDic p e) ∧ OrD X.K X.w C H Hf kvs e.2 f := by
  have r : Or X.K X.w C H Hf (.dic kvs) (.ref p) (F (d.length + t.length)) := S.tmp t.length _ _ (by simp)
  obtain ⟨a, e, f, e1, e2, ok, h, r⟩ := r
  cases e1
  exact ⟨e, f, e2, ok, h, r⟩
/-- one pair more -/
theorem ST.dput {kvs : List (D × O)} {p : Addr} {e : DE} {f : List Addr} {k x : D} {y v : V} {ob : Obj} (S : ST X.K X.w C H Hf d g (t ++ [(.dic kvs, .ref p)]) F) (hF : F (d.length + t.length) = p :: f) (ok : KeysOk (kvs.map (·.1))) (rd : OrD X.K X.w C H Hf kvs e.2 f)
    (hk : k.kOk 8 = true) (rk : Rp X.K X.w C Hf k y) (rx : Rp X.K X.w C Hf x v) :
    ∃ F', ST X.K X.w C (upd H p (hoDic p (ob, putE (kIdx k (kvs.map (·.1))) y (k.hash X.w) v e.2))) Hf d g (t ++ [(.dic (putD k (.val x) kvs), .ref p)]) F' ∧ Go H Hf F (upd H p (hoDic p (ob, putE (kIdx k (kvs.map (·.1))) y (k.hash X.w) v e.2))) Hf F' := by
  have nd := S.nd (d.length + t.length)
  rw [hF] at nd
  obtain ⟨f1, f2, od, sb⟩ := orD_put (X := X) (k := k) (x := .val x) (y := y) (v := v) (fx := []) rk ⟨rfl, rx⟩ rd
  have sb' : (f1 ++ [] ++ f2).Sublist f := by simpa using sb
  obtain ⟨S1, g1⟩ := S.pushV (x := .non) (v := .non) rfl
  have hF1 : (uf F (d.length + (t ++ [(O.dic kvs, V.ref p)]).length) []) (d.length + t.length) = p :: f := by
    rw [uf_ne (by simp)]
    exact hF
  obtain ⟨F4, S4, g4⟩ := S1.mutTop (H' := upd H p (hoDic p (ob, putE (kIdx k (kvs.map (·.1))) y (k.hash X.w) v e.2))) (o' := .dic (putD k (.val x) kvs)) (f' := p :: (f1 ++ [] ++ f2)) (fun a u q n => by
    rw [hF1] at n
    rw [upd_ne fun z => n (by rw [z]; exact List.mem_cons_self)]
    exact q) (nd.sublist (sb'.cons_cons p)) (fun a ha => .inl (by rw [hF1]; exact (sb'.cons_cons p).subset ha)) ⟨p, _, _, rfl, rfl, keysOk_put ok hk, upd_same, OrD.mono Le.rfl _ _ _ (fun a ha => upd_ne (nd_not nd a (sb'.subset ha))) od⟩
  exact ⟨F4, S4, g1.trans g4⟩
/-- .. and the walk that puts it there -/
theorem put_top {A : Around} {E : Value → Shared → Prop} {kvs : List (D × O)} {p : Addr} {k x : D} {y v : V} {u r : Value} {Q : Unit → Shared → Prop} (hu : A.units + 8 < cLine) (I : Inv X pins g H s) (S : ST X.K X.w C H Hf d g (t ++ [(.dic kvs, .ref p)]) F)
    (hk : k.kOk 8 = true) (rk : Rp X.K X.w C Hf k y) (rx : Rp X.K X.w C Hf x v) (ru : RelV y u) (rv : RelV v r) (hz : kvs.length < 100000)
    (q : ∀ s' H' F', Inv X pins g H' s' → ST X.K X.w C H' Hf d g (t ++ [(.dic (putD k (.val x) kvs), .ref p)]) F' → Go H Hf F H' Hf F' → Q () s') : wpAny (model X.prog X.w) A (dictSet p u r) Q E s := by
  obtain ⟨e, f, hF, ok, hd, rd⟩ := S.dacc
  refine set_d hu I hd ok (OrD.k S.le rd) hk (Rp.mono S.le _ _ rk) ru rv (by simpa using hz) fun ob s' I' => ?_
  obtain ⟨F', S', g'⟩ := S.dput (ob := ob) hF ok rd hk rk rx
  exact q s' _ _ I' S' g'

/-! ### {k: v, ..} -/
def evPs : List (Ev × Ev) → PEnv → Option (List (D × D) × PEnv)
  | [], d => some ([], d)
  | (fk, fv) :: r, d => (fk d).bind fun p => (fv p.2).bind fun q => (evPs r q.2).bind fun z => some ((p.1.d, q.1.d) :: z.1, z.2)
/-- the pairs as values -/
def RpPs (X : Cx) (C : Str → Option Addr) (Hf : Hp) : List (D × D) → List (Value × Value) → Prop
  | [], us => us = []
  | (k, x) :: r, us => ∃ y v u w us', us = (u, w) :: us' ∧ RelV y u ∧ RelV v w ∧ Rp X.K X.w C Hf k y ∧ Rp X.K X.w C Hf x v ∧ RpPs X C Hf r us'
structure DenPs (X : Cx) (C : Str → Option Addr) (pos : Pos) (keys : List (Option Expr)) (values : List Expr) (fs : List (Ev × Ev)) : Prop where
  run : ∀ (pins : List (Addr × Obj)) (s : Shared) (g : L2.St) (H Hf : Hp) (d : PEnv) (t : Tmp) (F : Fps) (rs : List (D × D)) (d' : PEnv), Inv X pins g H s → ST X.K X.w C H Hf d g t F → evPs fs d = some (rs, d') →
    wpAny (model X.prog X.w) X.A (evalPairs (pairTrees keys values X.env pos)) (fun us s' => ∃ H' Hf' F', Inv X pins g H' s' ∧ RpPs X C Hf' rs us ∧ ST X.K X.w C H' Hf' d' g t F' ∧ Go H Hf F H' Hf' F') X.xe s
theorem denPs_nil {pos : Pos} : DenPs X C pos [] [] [] := ⟨fun pins s g H Hf d t F rs d' I S q => by
  cases q
  exact pairTrees_nil_walk ⟨H, Hf, F, I, rfl, S, Go.refl⟩⟩
theorem denPs_cons {pos : Pos} {k v : Expr} {ks : List (Option Expr)} {vs : List Expr} {fk fv : Ev} {fs : List (Ev × Ev)} (hk : Den X C k fk) (hv : Den X C v fv) (hr : DenPs X C pos ks vs fs) : DenPs X C pos (some k :: ks) (v :: vs) ((fk, fv) :: fs) := by
  refine ⟨fun pins s g H Hf d t F rs d' I S q => ?_⟩
  obtain ⟨⟨o1, d1⟩, q1, q⟩ := Option.bind_eq_some_iff.mp q
  obtain ⟨⟨o2, d2⟩, q2, q⟩ := Option.bind_eq_some_iff.mp q
  obtain ⟨⟨rs3, d3⟩, q3, q⟩ := Option.bind_eq_some_iff.mp q
  cases q
  refine pairTrees_cons_walk (thn (hk.run pins s g H Hf d t F o1 d1 I S q1) fun u1 s1 ⟨v1, H1, Hf1, F1, I1, r1, S1, g1⟩ => ?_)
  obtain ⟨Hf2, S2, g2, rp1⟩ := S1.freezeTop
  obtain ⟨S3, g3⟩ := S2.pop
  refine thn (hv.run pins s1 g H1 Hf2 d1 t _ o2 d2 I1 S3 q2) fun u2 s2 ⟨v2, H4, Hf4, F4, I4, r2, S4, g4⟩ => ?_
  obtain ⟨Hf5, S5, g5, rp2⟩ := S4.freezeTop
  obtain ⟨S6, g6⟩ := S5.pop
  refine thn (hr.run pins s2 g H4 Hf5 d2 t _ rs3 d3 I4 S6 q3) fun us s3 ⟨H7, Hf7, F7, I7, r7, S7, g7⟩ => ?_
  exact ⟨H7, Hf7, F7, I7, ⟨v1, v2, u1, u2, us, rfl, r1, r2, Rp.mono ((g4.grow.trans g5.grow).trans g7.grow) _ _ rp1, Rp.mono g7.grow _ _ rp2, r7⟩, S7, (((((g1.trans g2).trans g3).trans g4).trans g5).trans g6).trans g7⟩
def putPs : List (D × D) → List (D × O) → List (D × O)
  | [], acc => acc
  | (k, x) :: r, acc => putPs r (putD k (.val x) acc)
theorem length_putD {α : Type} {k : D} {x : α} : ∀ {kvs : List (D × α)}, (putD k x kvs).length ≤ kvs.length + 1
  | [] => by simp [putD]
  | p :: r => by
    have ih := length_putD (k := k) (x := x) (kvs := r)
    unfold putD
    split
    · simp
    · simp; omega
theorem store_top {A : Around} {E : Value → Shared → Prop} {p : Addr} (hu : A.units + 8 < cLine) : ∀ (rs : List (D × D)) (us : List (Value × Value)) (kvs : List (D × O)) (s : Shared) (H : Hp) (F : Fps) (Q : PUnit → Shared → Prop), Inv X pins g H s → ST X.K X.w C H Hf d g (t ++ [(.dic kvs, .ref p)]) F → (rs.all fun k => k.1.kOk 8) = true → RpPs X C Hf rs us → kvs.length + rs.length < 100000 →
    (∀ s' H' F', Inv X pins g H' s' → ST X.K X.w C H' Hf d g (t ++ [(.dic (putPs rs kvs), .ref p)]) F' → Go H Hf F H' Hf F' → Q PUnit.unit s') →
    wpAny (model X.prog X.w) A (forIn us PUnit.unit fun (x : Value × Value) (_ : PUnit) => (do dictSet p x.1 x.2; pure (ForInStep.yield PUnit.unit) : Sem (ForInStep PUnit))) Q E s
  | [], us, kvs, s, H, F, Q, I, S, _, h, _, q => by
    have h : us = [] := h
    subst h
    rw [List.forIn_nil]
    exact wpAny_pure (q s H F I S Go.refl)
  | (k, x) :: rs, _, kvs, s, H, F, Q, I, S, hk, ⟨y, v, u, w, us', e, ru, rw', rk, rx, rr⟩, hz, q => by
    subst e
    rw [List.all_cons, Bool.and_eq_true] at hk
    rw [List.length_cons] at hz
    rw [List.forIn_cons]
    refine wpAny_bind (wpAny_bind (put_top hu I S hk.1 rk rx ru rw' (by omega) fun s1 H1 F1 I1 S1 g1 => wpAny_pure ?_))
    exact store_top hu rs us' _ s1 H1 F1 Q I1 S1 hk.2 rr (by
      show (putD k (O.val x) kvs).length + rs.length < 100000
      have z := length_putD (k := k) (x := O.val x) (kvs := kvs)
      omega) fun s' H' F' I' S' g' => q s' H' F' I' S' (g1.trans g')
def evDisp (fs : List (Ev × Ev)) : Ev := fun d => (evPs fs d).bind fun z => if (z.1.all fun k => k.1.kOk 8) = true then some (.dic (putPs z.1 []), z.2) else none
theorem evPs_len : ∀ {fs : List (Ev × Ev)} {d : PEnv} {rs : List (D × D)} {d' : PEnv}, evPs fs d = some (rs, d') → rs.length = fs.length
  | [], _, _, _, q => by cases q; rfl
  | (fk, fv) :: r, d, rs, d', q => by
    obtain ⟨⟨o1, d1⟩, q1, q⟩ := Option.bind_eq_some_iff.mp q
    obtain ⟨⟨o2, d2⟩, q2, q⟩ := Option.bind_eq_some_iff.mp q
    obtain ⟨⟨rs3, d3⟩, q3, q⟩ := Option.bind_eq_some_iff.mp q
    cases q
    rw [List.length_cons, List.length_cons, evPs_len q3]
theorem den_disp {pos : Pos} {keys : List (Option Expr)} {values : List Expr} {fs : List (Ev × Ev)} (hu : X.A.units + 8 < cLine) (h : DenPs X C pos keys values fs) (hall : keys.all (·.isSome) = true) (hl : keys.length = values.length) (h0 : keys ≠ []) (h15 : keys.length ≤ 15) (hf : fs.length ≤ 15) : Den X C (.Dict keys values pos) (evDisp fs) := by
  refine ⟨fun pins s g H Hf d t F o d' I S q => ?_⟩
  obtain ⟨⟨rs, d1⟩, q1, q⟩ := Option.bind_eq_some_iff.mp q
  split at q
  · rename_i hk
    cases q
    have hn := pairTrees_length keys values X.env pos hall hl
    have hne : pairTrees keys values X.env pos ≠ [] := fun e => by
      rw [e] at hn
      exact h0 (List.length_eq_zero_iff.mp hn.symm)
    rw [arm_eval_Dict, zip_pairTrees keys values X.env pos hall hl, dictDisplay_pairs _ hne (by omega)]
    refine wpAny_bind (wpAny_standAt (wpAny_bind ?_))
    unfold subDict
    refine wpAny_bind (wpAny_alloc ?_)
    refine wpAny_bind (wpAny_holding ?_)
    rw [if_pos (by omega)]
    have hnn : H s.heap.objs.size = none := I.hok.fresh (Nat.le_refl _)
    have I1 : Inv X pins g (upd H s.heap.objs.size (hoDic s.heap.objs.size (newDic, []))) { s with heap := s.heap.push newDic } := I.laid (t' := s.toks) (fun _ _ q => Heap.get?_push_of_some _ q) (Nat.le_refl _) (empty_ok s.heap I.big)
    have al : Al H Hf (upd H s.heap.objs.size (hoDic s.heap.objs.size (newDic, []))) Hf [s.heap.objs.size] := Al.own S.le hnn
    obtain ⟨S2, g2⟩ := S.push (o := .dic []) (v := .ref s.heap.objs.size) al.lH al.lF al.nw al.l' al.fr al.nd al.fz ⟨s.heap.objs.size, (newDic, []), [], rfl, rfl, ⟨fun _ h => (by cases h), List.nodup_nil⟩, upd_same, rfl, rfl⟩
    refine wpAny_bind (thn (h.run pins _ g _ _ d _ _ rs d1 I1 S2 q1) fun us s3 ⟨H3, Hf3, F3, I3, r3, S3, g3⟩ => ?_)
    refine wpAny_holding ?_
    refine wpAny_bind (store_top hu rs us [] s3 H3 F3 _ I3 S3 hk r3 (by have z := evPs_len q1; simp; omega) fun s4 H4 F4 I4 S4 g4 => wpAny_pure (wpAny_pure (wpAny_pure ⟨.ref s.heap.objs.size, H4, Hf3, F4, I4, rfl, S4, (g2.trans g3).trans g4⟩)))
  · cases q
end
end Pd
set_option maxHeartbeats 1000000
/-! Pd31: {k: v for .. in .. if ..}, keys nested. -/
namespace Pd
open PySem L2 PyProof.Rows
section
variable {X : Cx} {C : Str → Option Addr}
theorem rpK_blk {s : Shared} {H0 H : Hp} {scope : Scope} {ce : Env} {fp : List Addr} : ∀ {ks : List D} {es : List Ent}, RpK X C H ks es → RpK (X.blk s H0 scope ce fp) C H ks es
  | [], _, h => h
  | _ :: _, _, ⟨a, v, us, e, rk, rs⟩ => ⟨a, v, us, e, rk, rpK_blk rs⟩
/-- a pair is put into the dict at p, and then R -/
def PutR (X : Cx) (C : Str → Option Addr) (p : Addr) (R : Hp → Prop) (y z : V) (H : Hp) : Prop := ∃ (e : DE) (ks : List D) (k : D), H p = some (hoDic p e) ∧ KeysOk ks ∧ RpK X C H ks e.2 ∧ k.kOk 8 = true ∧ Rp X.K X.w C H k y ∧ ks.length < 100000 ∧
  ∀ ob, R (upd H p (hoDic p (ob, putE (kIdx k ks) y (k.hash X.w) z e.2)))
/-- one turn of the block -/
def turnD (X : Cx) (C : Str → Option Addr) (g : TG) (tt : TT) (tk tv : TE) (vs : List Nat) (p : Addr) (σ : L2.St) (R : Hp → Prop) (x : V) (H : Hp) : Prop :=
  g x (wipe σ vs) H fun σ2 H2 => wipe σ2 vs = wipe σ vs ∧ tt σ2 H2 fun b H3 => if b = true then tk σ2 H3 fun y H4 => tv σ2 H4 fun z H5 => PutR X C p R y z H5 else R H3
def tDk (X : Cx) (C : Str → Option Addr) (wi : TI) (g : TG) (tt : TT) (tk tv : TE) (vs : List Nat) : TE := fun σ H Q => wi σ H fun J H1 => ∀ p, H1 p = none → ∃ W : Nat → Nat → Hp → Prop, (∃ m, W 0 m (upd H1 p (hoDic p (newDic, [])))) ∧
  ∀ i m H, W i m H → (J.stop i H ∧ Q (.ref p) H) ∨ (J.go i H ∧ ∃ R : Hp → Prop, (∀ H', R H' → ∃ m', m' < m ∧ W (i + 1) m' H') ∧ ∀ x H', J.yld i H x H' → turnD X C g tt tk tv vs p σ R x H')
theorem dk_val {kx vx tg iter : Expr} {ifs : List Expr} {scope : Scope} {own : List (Str × Nat)} {pos : Pos} {wi : TI} {g : TG} {tt : TT} {tk tv : TE} (hu : X.A.units + 8 < cLine) (hc : X.calm = true) (hN : X.N.Nodup) (hi : PI X tg iter wi) (ok : BlkOk X.N X.env.scope scope own)
    (hg : ∀ (s : Shared) (H : Hp) (a : Addr) (cl : List (Str × Addr)) (fp : List Addr), PG (X.blk s H scope (compEnvC scope cl a X.env) fp) tg g) (ht : ∀ (s : Shared) (H : Hp) (a : Addr) (cl : List (Str × Addr)) (fp : List Addr), PTs (X.blk s H scope (compEnvC scope cl a X.env) fp) ifs tt)
    (hk : ∀ (s : Shared) (H : Hp) (a : Addr) (cl : List (Str × Addr)) (fp : List Addr), PE (X.blk s H scope (compEnvC scope cl a X.env) fp) kx tk) (hv : ∀ (s : Shared) (H : Hp) (a : Addr) (cl : List (Str × Addr)) (fp : List Addr), PE (X.blk s H scope (compEnvC scope cl a X.env) fp) vx tv)
    (hs : ∀ x, foldedSetIterable iter X.env x = pure x) : PE X (.DictComp kx vx [⟨tg, iter, ifs, 0⟩] scope pos) (tDk X C wi g tt tk tv (own.map (·.2))) := by
  refine ⟨fun pins s σ H Q I h => ?_⟩
  rw [arm_eval_DictComp]
  refine wpAny_comprehension_free (use := none) rfl hs (closure_ok fun y hy e => (ok.free y hy e).elim (fun z => I.ok.has _ (.inl z)) fun z => I.ok.has _ (.inr z)) ok.kind (fun y hy e => by rw [ok.uniq y hy, e])
    (thn (hi.run pins s σ H _ I h) fun _ _ hx => thn hx fun _ sa ⟨it, fp, tn, J, Ha, ev, Ia, T, sta, fa, q⟩ => ?_)
  subst ev
  refine wpAny_newObj_type (newEnv_comp ?_)
  have new : Ha sa.heap.objs.size = none := Ia.hok.fresh (Nat.le_refl _)
  obtain ⟨W, ⟨m0, w0⟩, turn⟩ := q _ new
  have Ib : Inv X pins σ (upd Ha sa.heap.objs.size (hoDic sa.heap.objs.size (newDic, []))) { sa with heap := sa.heap.push { cls := .type "dict", data := .dict #[] } } := Ia.laid (t' := sa.toks) (fun _ _ q => Heap.get?_push_of_some _ q) (Nat.le_refl _) (empty_ok sa.heap Ia.big)
  have fb : ∀ b ∈ fp, FpOk X pins (upd Ha sa.heap.objs.size (hoDic sa.heap.objs.size (newDic, []))) b ∧ b < (sa.heap.push newDic).objs.size := fun b hb => by
    obtain ⟨ob, e, _⟩ := T.obj _ _ sta b hb
    have lt := Heap.lt_size e
    exact ⟨⟨(upd_ne (Nat.ne_of_lt lt)).trans (fa b hb).1, (fa b hb).2⟩, by rw [Heap.size_push]; exact Nat.lt_succ_of_lt lt⟩
  have stb : tn 0 (sa.heap.push newDic) := T.keep _ _ _ sta fun b _ ob e => Heap.get?_push_of_some _ e
  generalize sa.heap.objs.size = p at w0 turn Ib fb
  generalize esb : ({ sa with heap := sa.heap.push { cls := .type "dict", data := .dict #[] } } : Shared) = sb at Ib ⊢
  have ehb : sa.heap.push newDic = sb.heap := by
    rw [← esb]
    rfl
  rw [ehb] at fb stb
  generalize upd Ha p (hoDic p (newDic, [])) = Hb at w0 Ib fb
  have Ic := block_start Ib ok hN fb
  have pg := hg sb Hb sb.heap.objs.size (cellsFrom (sb.heap.objs.size + 1) scope.names (cloFrom X.env.cells scope.names [])) fp
  have pt := ht sb Hb sb.heap.objs.size (cellsFrom (sb.heap.objs.size + 1) scope.names (cloFrom X.env.cells scope.names [])) fp
  have pk := hk sb Hb sb.heap.objs.size (cellsFrom (sb.heap.objs.size + 1) scope.names (cloFrom X.env.cells scope.names [])) fp
  have pv := hv sb Hb sb.heap.objs.size (cellsFrom (sb.heap.objs.size + 1) scope.names (cloFrom X.env.cells scope.names [])) fp
  show codeAny _ _ (.compStart (.DictComp kx vx [⟨tg, iter, ifs, 0⟩] scope pos) 0 (.ref it) (.ref p) (compEnvC scope (cellsFrom (sb.heap.objs.size + 1) scope.names (cloFrom X.env.cells scope.names [])) sb.heap.objs.size X.env)) (compPost (model X.prog X.w) X.A X.xe none _ (.ref p) sb.heap.objs.size) { sb with heap := pushCells (sb.heap.push newDic) scope.names }
  have home : ({ sb with heap := pushCells (sb.heap.push newDic) scope.names } : Shared).heap = pushCells (sb.heap.push newDic) scope.names := rfl
  have stc : tn 0 (pushCells (sb.heap.push newDic) scope.names) := T.keep _ _ _ stb fun b _ ob e => pushCells_keeps _ _ _ _ (Heap.get?_push_of_some _ e)
  have locE : (compEnvC scope (cellsFrom (sb.heap.objs.size + 1) scope.names (cloFrom X.env.cells scope.names [])) sb.heap.objs.size X.env).locals = sb.heap.objs.size := rfl
  generalize compEnvC scope (cellsFrom (sb.heap.objs.size + 1) scope.names (cloFrom X.env.cells scope.names [])) sb.heap.objs.size X.env = ce at Ic pg pt pk pv locE ⊢
  have fpB : ∀ {σ' : L2.St} {H' : Hp} {s' : Shared}, Inv (X.blk sb Hb scope ce fp) [] σ' H' s' → (∀ b ∈ fp, H' b = none) → ∀ b ∈ fp, FpOk (X.blk sb Hb scope ce fp) [] H' b := fun I' n b hb =>
    ⟨n b hb, (I'.ok.exf b hb).1, I'.ok.exfs b hb, .inl hb, fun x c e => (I'.ok.exf b hb).2 x c e, fun _ hp => by cases (show _ ∈ ([] : List (Addr × Obj)) from hp)⟩
  have loop : codeAny (model X.prog X.w) X.A (.compLoop (.DictComp kx vx [⟨tg, iter, ifs, 0⟩] scope pos) 0 (.ref it) (.ref p) ce) (compPost (model X.prog X.w) X.A X.xe none (fun u s' => ∃ v H', Inv X pins σ H' s' ∧ RelV v u ∧ Q v H') (.ref p) sb.heap.objs.size) { sb with heap := pushCells (sb.heap.push newDic) scope.names } := by
    refine compLoop_anyD (fun n s' => ∃ i H', Inv (X.blk sb Hb scope ce fp) [] (wipe σ (own.map (·.2))) H' s' ∧ tn i s'.heap ∧ (∀ b ∈ fp, H' b = none) ∧ W i n H') ?_ m0 ⟨0, Hb, Ic, stc, fun b hb => (fb b hb).1.1, w0⟩
    rintro n s5 ⟨i, H5, I5, st5, n5, w5⟩
    rcases turn i n H5 w5 with ⟨stop, qq⟩ | ⟨go, R, hR, step⟩
    · refine thnF (T.done (X.blk sb Hb scope ce fp) rfl rfl rfl hc i [] s5 _ H5 (fun _ _ => False) I5 (fpB I5 n5) st5 stop) fun r s6 ⟨hr, I6⟩ => ?_
      subst hr
      have I7 : Inv X pins σ H5 s6 := Ib.call' (ch := fp) I6.os I6.base I6.hok I6.bare fun b hb => ⟨(fb b hb).1.2.2.2.1, (fb b hb).1.2.1, (fb b hb).1.2.2.2.2.1, (fb b hb).1.2.2.2.2.2⟩
      have away : H5 sb.heap.objs.size = none := locE ▸ (show H5 ce.locals = none from I6.free)
      obtain ⟨m, hn, _⟩ := I6.loc
      have hn : s6.heap.Ns sb.heap.objs.size m := locE ▸ (show s6.heap.Ns ce.locals m from hn)
      obtain ⟨f0, f1, f2, f3, f4, f5⟩ := Ib.fpOk (Nat.le_refl _) away
      exact ⟨m, hn, fun h'' sbt => ⟨.ref p, H5, I7.turned (t' := s6.toks) (fun b ob hb e => (sbt.2 b hb).trans e) f0 f1 f3 f4 f5, rfl, qq⟩⟩
    · refine thnF (T.item (X.blk sb Hb scope ce fp) rfl rfl rfl hc i [] s5 _ H5 (fun _ _ => False) I5 (fpB I5 n5) st5 go) fun r s6 ⟨u, hr, h6⟩ => ?_
      subst hr
      refine thnF h6 fun _ s7 ⟨x, H7, I7, r7, y7, st7, n7⟩ => ?_
      refine thnF (pg.run _ s7 _ H7 x u _ (I7.pinned (fpB I7 n7) (T.obj _ _ st7)) r7 (step x H7 y7)) fun _ s8 ⟨σ8, H8, I8, w8, q8⟩ => ?_
      refine thnF (pt.run _ s8 σ8 H8 _ I8 q8) fun b s9 ⟨H9, I9, q9⟩ => ?_
      have fin : ∀ {s' : Shared} {H' : Hp}, Inv (X.blk sb Hb scope ce fp) ([] ++ pinsAt fp s7.heap) σ8 H' s' → R H' → ∃ m, m < n ∧ ∃ i H', Inv (X.blk sb Hb scope ce fp) [] (wipe σ (own.map (·.2))) H' s' ∧ tn i s'.heap ∧ (∀ b ∈ fp, H' b = none) ∧ W i m H' := fun {s' H'} I' nx => by
        obtain ⟨m', hm, w'⟩ := hR H' nx
        have held : ∀ b ∈ fp, ∀ ob, s7.heap.get? b = some ob → s'.heap.get? b = some ob ∧ H' b = none := fun b hb ob e =>
          have z := I'.pin (b, ob) (List.mem_append_right _ (List.mem_append_right _ (mem_pinsAt hb e)))
          ⟨z.1, z.2.1⟩
        refine ⟨m', hm, i + 1, H', (I'.unpinned (pins := [])).weak (by rw [← w8, wipe_length]) (fun j v e => (wipe_some (w8.symm ▸ e)).1), T.keep _ _ _ st7 fun b hb ob e => (held b hb ob e).1, fun b hb => ?_, w'⟩
        obtain ⟨ob, e, _⟩ := T.obj _ _ st7 b hb
        exact (held b hb ob e).2
      cases b with
      | false => exact fin I9 q9
      | true =>
        refine thnF (pk.run _ s9 σ8 H9 _ I9 q9) fun z s10 ⟨yk, H10, I10, r10, q10⟩ => ?_
        refine thnF (pv.run _ s10 σ8 H10 _ I10 q10) fun z2 s11 ⟨yv, H11, I11, r11, e, ks, k, hd, kok, rk, k8, rpk, hz, nx⟩ => ?_
        exact set_d (X := X.blk sb Hb scope ce fp) (C := C) hu I11 hd kok (rpK_blk rk) k8 rpk r10 r11 hz fun ob s12 I12 => fin I12 (nx ob)
  exact codeAny_compStart_dict loop (T.self X.A 0 _ _ _ stc loop)
end
end Pd
set_option maxHeartbeats 1000000
/-! Pd32: {k: v for .. in .. if ..} by values. -/
namespace Pd
open PySem L2 PyProof.Rows
def compD (vs : List Nat) (k : Tg) (c : EvB) (ek ev : Ev) : List D → List (D × O) → PEnv → Option (List (D × O) × PEnv)
  | [], acc, d => some (acc, d)
  | x :: xs, acc, d => (bindT k x d).bind fun d1 => (c d1).bind fun p => if p.1 = true then (ek p.2).bind fun q => (ev q.2).bind fun z => if q.1.d.kOk 8 = true then compD vs k c ek ev xs (putD q.1.d (.val z.1.d) acc) (over [] vs z.2) else none
    else compD vs k c ek ev xs acc (over [] vs p.2)
def evDc (vs : List Nat) (f : EvI) (k : Tg) (c : EvB) (ek ev : Ev) : Ev := fun d => (f d).bind fun p => if saved p.2 vs && decide (p.1.length < 100000) then (compD vs k c ek ev p.1 [] (over [] vs p.2)).bind fun z => some (.dic z.1, over p.2 vs z.2) else none
section
variable {X : Cx} {C : Str → Option Addr}
theorem tdk_ok {vs : List Nat} {f : EvI} {k : Tg} {c : EvB} {ek ev : Ev} {g : L2.St} {H Hf : Hp} {d d1 de : PEnv} {t : Tmp} {F : Fps} {ds : List D} {rs : List (D × O)} {Q : VK} (hk : ∀ i, i ∈ k.is → i ∈ vs) (S : ST X.K X.w C H Hf d g t F) (q1 : f d = some (ds, d1)) (sv : saved d1 vs = true) (hn : ds.length < 100000)
    (q3 : compD vs k c ek ev ds [] (over [] vs d1) = some (rs, de)) (kQ : ∀ v H' Hf' F', ST X.K X.w C H' Hf' (over d1 vs de) g (t ++ [(.dic rs, v)]) F' → Go H Hf F H' Hf' F' → Q v H') : tDk X C (tI X C f) (tG X C k) (tT X C c) (tE X C ek) (tE X C ev) vs g H Q := by
  refine ⟨Hf, d, t, F, ds, d1, S, q1, fun J H1 Hf1 F1 S1 go1 wk => ?_⟩
  intro p hp
  let P : Nat → Hp → Prop := fun i H2 => ∃ Hf2 d2 F2 acc, ST X.K X.w C H2 Hf2 d2 (wipe g vs) (t ++ [(.dic acc, .ref p)]) F2 ∧ Go H Hf F H2 Hf2 F2 ∧ Le Hf1 Hf2 ∧ acc.length ≤ i ∧ compD vs k c ek ev (ds.drop i) acc d2 = some (rs, de)
  refine ⟨fun i m H2 => m = ds.length - i ∧ P i H2, ?_, ?_⟩
  · obtain ⟨F2, S2, go2⟩ := S1.wiped vs
    have al : Al H1 Hf1 (upd H1 p (hoDic p (newDic, []))) Hf1 [p] := Al.own S1.le hp
    obtain ⟨S3, go3⟩ := S2.push (o := .dic []) (v := .ref p) al.lH al.lF al.nw al.l' al.fr al.nd al.fz ⟨p, (newDic, []), [], rfl, rfl, ⟨fun _ h => (by cases h), List.nodup_nil⟩, upd_same, rfl, rfl⟩
    exact ⟨ds.length, rfl, Hf1, _, _, [], S3, (go1.trans go2).trans go3, Le.rfl, Nat.zero_le _, q3⟩
  · rintro i m H2 ⟨em, Hf2, d2, F2, acc, S2, go2, l2, ha, q5⟩
    by_cases hi : i < ds.length
    · have hx : ds[i]? = some ds[i] := List.getElem?_eq_getElem hi
      rw [List.drop_eq_getElem_cons hi] at q5
      obtain ⟨d3, q6, q7⟩ := Option.bind_eq_some_iff.mp q5
      obtain ⟨⟨b, d4⟩, q8, q9⟩ := Option.bind_eq_some_iff.mp q7
      refine .inr ⟨wk.go i _ H2 Hf2 hx l2 S2.le, P (i + 1), fun H' h => ⟨ds.length - (i + 1), by omega, rfl, h⟩, fun v H3 y => ?_⟩
      obtain ⟨Hf3, al, rp⟩ := wk.yld i _ H2 Hf2 v H3 hx l2 S2.le y
      obtain ⟨F3, S3, go3⟩ := S2.grow al
      refine ⟨Hf3, d2, _, F3, ds[i], d3, S3, rp, q6, fun g4 F4 S4 go4 sm => ?_⟩
      have hw : wipe g4 vs = wipe g vs := same_wipe sm hk
      refine ⟨hw, Hf3, d3, _, F4, b, d4, S4, q8, fun H5 Hf5 F5 S5 go5 => ?_⟩
      have l5 : Le Hf1 Hf5 := l2.trans (al.lF.trans go5.grow)
      have go25 := ((go2.trans go3).trans go4).trans go5
      cases b with
      | false =>
        try dsimp only
        rw [if_neg Bool.false_ne_true]
        obtain ⟨F6, S6, go6⟩ := S5.wiped vs
        rw [hw] at S6
        exact ⟨Hf5, _, F6, acc, S6, go25.trans go6, l5, by omega, q9⟩
      | true =>
        try dsimp only
        rw [if_pos rfl]
        obtain ⟨⟨o6, d6⟩, q10, q11⟩ := Option.bind_eq_some_iff.mp q9
        obtain ⟨⟨o7, d7⟩, q12, q13⟩ := Option.bind_eq_some_iff.mp q11
        have q13 : (if o6.d.kOk 8 = true then compD vs k c ek ev (ds.drop (i + 1)) (putD o6.d (.val o7.d) acc) (over [] vs d7) else none) = some (rs, de) := q13
        by_cases k8 : o6.d.kOk 8 = true
        · rw [if_pos k8] at q13
          refine ⟨Hf5, d4, _, F5, o6, d6, S5, q10, fun y6 H6 Hf6 F6 S6 go6 => ?_⟩
          obtain ⟨Hg, Sg, gg, rpk⟩ := S6.freezeTop
          obtain ⟨Sh, gh⟩ := Sg.pop
          refine ⟨Hg, d6, _, _, o7, d7, Sh, q12, fun z7 H7 Hf7 F7 S7 go7 => ?_⟩
          obtain ⟨Hi, Si, gi, rpv⟩ := S7.freezeTop
          obtain ⟨Sj, gj⟩ := Si.pop
          have rpk' := Rp.mono (go7.grow.trans gi.grow) _ _ rpk
          obtain ⟨e, fp, hF, kok, hd, rd⟩ := Sj.dacc
          refine ⟨e, _, o6.d, hd, kok, OrD.k Sj.le rd, k8, Rp.mono Sj.le _ _ rpk', by simp; omega, fun ob => ?_⟩
          obtain ⟨F8, S8, go8⟩ := Sj.dput (ob := ob) hF kok rd k8 rpk' rpv
          obtain ⟨F9, S9, go9⟩ := S8.wiped vs
          rw [hw] at S9
          have hl := length_putD (k := o6.d) (x := O.val o7.d) (kvs := acc)
          exact ⟨Hi, _, F9, _, S9, ((((((go25.trans go6).trans gg).trans gh).trans go7).trans gi).trans gj).trans (go8.trans go9), (((l5.trans go6.grow).trans gg.grow).trans go7.grow).trans gi.grow, by omega, q13⟩
        · rw [if_neg k8] at q13
          cases q13
    · rw [List.drop_eq_nil_of_le (by omega)] at q5
      cases q5
      obtain ⟨F3, S3, go3⟩ := S1.restore sv l2 S2
      exact .inl ⟨wk.stop i H2 Hf2 (by omega) l2 S2.le, kQ _ H2 Hf2 F3 S3 (go2.trans go3)⟩
theorem den_dc {kx vx tg iter : Expr} {ifs : List Expr} {scope : Scope} {own : List (Str × Nat)} {pos : Pos} {f : EvI} {k : Tg} {c : EvB} {ek ev : Ev} (hu : X.A.units + 8 < cLine) (hc : X.calm = true) (hN : X.N.Nodup) (hi : DenI X C tg iter f) (ok : BlkOk X.N X.env.scope scope own)
    (hg : ∀ (s : Shared) (H : Hp) (a : Addr) (cl : List (Str × Addr)) (fp : List Addr), DenG (X.blk s H scope (compEnvC scope cl a X.env) fp) C tg k) (ht : ∀ (s : Shared) (H : Hp) (a : Addr) (cl : List (Str × Addr)) (fp : List Addr), PTs (X.blk s H scope (compEnvC scope cl a X.env) fp) ifs (tT X C c))
    (hkx : ∀ (s : Shared) (H : Hp) (a : Addr) (cl : List (Str × Addr)) (fp : List Addr), Den (X.blk s H scope (compEnvC scope cl a X.env) fp) C kx ek) (hvx : ∀ (s : Shared) (H : Hp) (a : Addr) (cl : List (Str × Addr)) (fp : List Addr), Den (X.blk s H scope (compEnvC scope cl a X.env) fp) C vx ev)
    (hs : ∀ x, foldedSetIterable iter X.env x = pure x) (hk : ∀ i, i ∈ k.is → i ∈ own.map (·.2)) :
    Den X C (.DictComp kx vx [⟨tg, iter, ifs, 0⟩] scope pos) (evDc (own.map (·.2)) f k c ek ev) := by
  refine ⟨fun pins s g H Hf d t F o d' I S q => ?_⟩
  obtain ⟨⟨ds, d1⟩, q1, q2⟩ := Option.bind_eq_some_iff.mp q
  split at q2
  · rename_i hz
    rw [Bool.and_eq_true, decide_eq_true_eq] at hz
    obtain ⟨⟨rs, de⟩, q3, q4⟩ := Option.bind_eq_some_iff.mp q2
    cases q4
    exact thn ((dk_val (X := X) (C := C) (pos := pos) (g := tG X C k) (tk := tE X C ek) (tv := tE X C ev) hu hc hN hi.pi ok (fun s H a cl fp => (hg s H a cl fp).pg) ht (fun s H a cl fp => (hkx s H a cl fp).pe) (fun s H a cl fp => (hvx s H a cl fp).pe) hs).run pins s g H
      (fun v H' => ∃ Hf' F', ST X.K X.w C H' Hf' (over d1 (own.map (·.2)) de) g (t ++ [(.dic rs, v)]) F' ∧ Go H Hf F H' Hf' F') I (tdk_ok hk S q1 hz.1 hz.2 q3 fun v H' Hf' F' S' go => ⟨Hf', F', S', go⟩)) fun u s' ⟨v, H', I', rv, Hf', F', S', go⟩ => ⟨v, H', Hf', F', I', rv, S', go⟩
  · cases q2
end
end Pd
set_option maxHeartbeats 1000000
/-! Pd33: {k: v for .. in .. if .. for .. in .. if ..}: the block's loops and the core. -/
namespace Pd
open PySem L2 PyProof.Rows
section
variable {P : Program} {w : World} {A : Around} {R : Result → Shared → Prop} {s : Shared} {kx vx t0 i0 t1 i1 : Expr} {ifs0 ifs1 : List Expr} {scope : Scope} {pos : Pos} {it : Value} {p : Addr} {env : Env}
abbrev dc2 (kx vx t0 i0 t1 i1 : Expr) (ifs0 ifs1 : List Expr) (scope : Scope) (pos : Pos) : Expr := .DictComp kx vx [⟨t0, i0, ifs0, 0⟩, ⟨t1, i1, ifs1, 0⟩] scope pos
theorem dturn_out : compTurn (dc2 kx vx t0 i0 t1 i1 ifs0 ifs1 scope pos) 0 it (.ref p) env = (do
    standAt i0.pos
    match ← pyNext it with
    | none => pure (.done .next)
    | some v =>
      letOwnedTupleGo t0 it v
      assign t0 env v
      let mut good := true
      for c in ifs0 do
        if good then good ← isTrue c env (eval c env)
      if good then
        let x ← eval i1 env
        standAt i1.pos
        let x ← foldedSetIterable i1 env x
        let _ ← runOwn (.compStart (dc2 kx vx t0 i0 t1 i1 ifs0 ifs1 scope pos) 1 (← holding [x] (pyIter x)) (.ref p) env) env
      again (.compLoop (dc2 kx vx t0 i0 t1 i1 ifs0 ifs1 scope pos) 0 it (.ref p) env)) := by rfl
theorem dturn_in : compTurn (dc2 kx vx t0 i0 t1 i1 ifs0 ifs1 scope pos) 1 it (.ref p) env = (do
    standAt i1.pos
    match ← pyNext it with
    | none => pure (.done .next)
    | some v =>
      letOwnedTupleGo t1 it v
      assign t1 env v
      let mut good := true
      for c in ifs1 do
        if good then good ← isTrue c env (eval c env)
      if good then
        (do
          let kv ← eval kx env
          let vv ← holding [kv] (eval vx env)
          standAt { kx.pos with endLine := vx.pos.endLine, endCol := vx.pos.endCol }
          holding [kv, vv] (dictSet p kv vv))
      again (.compLoop (dc2 kx vx t0 i0 t1 i1 ifs0 ifs1 scope pos) 1 it (.ref p) env)) := by rfl
/-- the tests of a clause -/
abbrev testsOf (ifs : List Expr) (env : Env) : Sem Bool := forIn ifs true fun c r => if r = true then do let z ← isTrue c env (eval c env); pure (ForInStep.yield z) else pure (ForInStep.yield r)
abbrev noted (P : Program) (w : World) (A : Around) (env : Env) (R : Result → Shared → Prop) : Value → Shared → Prop := notedBy (model P w) A env fun e s' => R (.error e) s'
theorem dloop_out (hs : ∀ x, foldedSetIterable i1 env x = pure x) (M : Nat → Shared → Prop)
    (turn : ∀ n s, M n s → wpAny (model P w) A (pyNext it) (fun r sa => match r with
      | none => R (.ok .next) sa
      | some v => wpAny (model P w) A (letOwnedTupleGo t0 it v) (fun _ sb => wpAny (model P w) A (assign t0 env v) (fun _ sc => wpAny (model P w) A (testsOf ifs0 env) (fun b sd =>
          if b = true then wpAny (model P w) A (eval i1 env) (fun x se => wpAny (model P w) A (pyIter x) (fun it1 sf =>
            codeAny (model P w) A (.compStart (dc2 kx vx t0 i0 t1 i1 ifs0 ifs1 scope pos) 1 it1 (.ref p) env) (fun r s' => match r with
              | .ok _ => ∃ m, m < n ∧ M m s'
              | .error _ => False) sf) (noted P w A env R) se) (noted P w A env R) sd
          else ∃ m, m < n ∧ M m sd) (noted P w A env R) sc) (noted P w A env R) sb) (noted P w A env R) sa) (noted P w A env R) s)
    (n : Nat) (h : M n s) : codeAny (model P w) A (.compLoop (dc2 kx vx t0 i0 t1 i1 ifs0 ifs1 scope pos) 0 it (.ref p) env) R s := by
  refine codeAny_loop rfl M (fun n s hM => ?_) n h
  show wpAny _ A ((compTurn (dc2 kx vx t0 i0 t1 i1 ifs0 ifs1 scope pos) 0 it (.ref p) env).onRaise (fun x => do noteFrame x env; theTreesLotGoes x)) _ _ s
  refine wpAny_noted ?_
  rw [dturn_out]
  refine wpAny_bind (wpAny_standAt (wpAny_bind (thn (turn n s hM) fun r sa ha => ?_)))
  cases r with
  | none => exact wpAny_pure ha
  | some v =>
    refine wpAny_bind (thn ha fun _ sb hb => wpAny_bind (thn hb fun _ sc hc => wpAny_bind (thn hc fun b sd hd => ?_)))
    cases b with
    | false => exact wpAny_pure ⟨rfl, hd⟩
    | true =>
      refine wpAny_bind (thn hd fun x se he => wpAny_bind (wpAny_standAt (wpAny_bind (wpAny_of_eq (hs x) (wpAny_bind (wpAny_holding (thn he fun it1 sf hf => ?_)))))))
      refine wpAny_bind (wpAny_runOwn ?_)
      rw [Around.mark_none]
      refine codeAny_mono hf fun r s' hr => ?_
      cases r with
      | ok f =>
        first
          | exact wpAny_pure ⟨rfl, hr⟩
          | exact wpAny_bind (wpAny_pure (wpAny_pure ⟨rfl, hr⟩))
      | error e => exact hr.elim
theorem dloop_in (M : Nat → Shared → Prop)
    (turn : ∀ n s, M n s → wpAny (model P w) A (pyNext it) (fun r sa => match r with
      | none => R (.ok .next) sa
      | some v => wpAny (model P w) A (letOwnedTupleGo t1 it v) (fun _ sb => wpAny (model P w) A (assign t1 env v) (fun _ sc => wpAny (model P w) A (testsOf ifs1 env) (fun b sd =>
          if b = true then wpAny (model P w) A (eval kx env) (fun kv se => wpAny (model P w) A (eval vx env) (fun vv sf => wpAny (model P w) A (dictSet p kv vv) (fun _ sg => ∃ m, m < n ∧ M m sg) (noted P w A env R) sf) (noted P w A env R) se) (noted P w A env R) sd
          else ∃ m, m < n ∧ M m sd) (noted P w A env R) sc) (noted P w A env R) sb) (noted P w A env R) sa) (noted P w A env R) s)
    (n : Nat) (h : M n s) : codeAny (model P w) A (.compLoop (dc2 kx vx t0 i0 t1 i1 ifs0 ifs1 scope pos) 1 it (.ref p) env) R s := by
  refine codeAny_loop rfl M (fun n s hM => ?_) n h
  show wpAny _ A ((compTurn (dc2 kx vx t0 i0 t1 i1 ifs0 ifs1 scope pos) 1 it (.ref p) env).onRaise (fun x => do noteFrame x env; theTreesLotGoes x)) _ _ s
  refine wpAny_noted ?_
  rw [dturn_in]
  refine wpAny_bind (wpAny_standAt (wpAny_bind (thn (turn n s hM) fun r sa ha => ?_)))
  cases r with
  | none => exact wpAny_pure ha
  | some v =>
    refine wpAny_bind (thn ha fun _ sb hb => wpAny_bind (thn hb fun _ sc hc => wpAny_bind (thn hc fun b sd hd => ?_)))
    cases b with
    | false => exact wpAny_pure ⟨rfl, hd⟩
    | true => exact wpAny_bind (wpAny_bind (thn hd fun kv se he => wpAny_bind (wpAny_holding (thn he fun vv sf hf => wpAny_bind (wpAny_standAt (wpAny_holding (thn hf fun _ sg hg => wpAny_pure ⟨rfl, hg⟩)))))))
theorem dstart_in (h0 : codeAny (model P w) A (.compLoop (dc2 kx vx t0 i0 t1 i1 ifs0 ifs1 scope pos) 1 it (.ref p) env) R s)
    (h : wpAny (model P w) A (pyIter it) (fun it' s' => codeAny (model P w) A (.compLoop (dc2 kx vx t0 i0 t1 i1 ifs0 ifs1 scope pos) 1 it' (.ref p) env) R s') (noted P w A env R) s) :
    codeAny (model P w) A (.compStart (dc2 kx vx t0 i0 t1 i1 ifs0 ifs1 scope pos) 1 it (.ref p) env) R s := by
  refine codeAny_of_tree ?_
  show wpAny _ _ ((compStart (dc2 kx vx t0 i0 t1 i1 ifs0 ifs1 scope pos) 1 it (.ref p) env).onRaise (fun x => do noteFrame x env; standAt theWindowsPlace)) _ _ s
  refine wpAny_notedAt ?_
  unfold compStart
  show wpAny _ _ (ask >>= _) _ _ s
  refine wpAny_bind (wpAny_askSetting (wpAny_ite ?_))
  split
  · first
      | exact wpAny_bind (wpAny_pure (wpAny_pure (And.intro rfl h0)))
      | exact wpAny_pure (And.intro rfl h0)
  · first
      | exact wpAny_bind (wpAny_rule (wpAny_bind (wpAny_standAt (wpAny_bind (wpAny_mono h (fun it' s' h' => wpAny_pure (And.intro rfl h')) fun _ _ x => x)))))
      | (refine wpAny_bind (wpAny_rule ?_); show wpAny _ _ (standAt i1.pos >>= _) _ _ s; exact wpAny_bind (wpAny_standAt (wpAny_bind (wpAny_mono h (fun it' s' h' => wpAny_pure (And.intro rfl h')) fun _ _ x => x))))
end
end Pd
set_option maxHeartbeats 1000000
/-! Pd34: dict comprehensions of two clauses: the walk. -/
namespace Pd
open PySem L2 PyProof.Rows
section
variable {X : Cx} {C : Str → Option Addr}
def tDk2 (X : Cx) (C : Str → Option Addr) (wi : TI) (g : TG) (tt : TT) (wi1 : TI) (g1 : TG) (tt1 : TT) (tk tv : TE) (vs vs1 : List Nat) : TE := fun σ H Q => wi σ H fun J H1 => ∀ p, H1 p = none → ∃ W : Nat → Nat → Hp → Prop, (∃ m, W 0 m (upd H1 p (hoDic p (newDic, [])))) ∧
  ∀ i m H, W i m H → (J.stop i H ∧ Q (.ref p) H) ∨ (J.go i H ∧ ∃ R : Hp → Prop, (∀ H', R H' → ∃ m', m' < m ∧ W (i + 1) m' H') ∧ ∀ x H', J.yld i H x H' → g x (wipe σ vs) H' fun σ2 H2 => wipe σ2 vs = wipe σ vs ∧ tt σ2 H2 fun b H3 =>
    if b = true then wi1 σ2 H3 fun J1 H4 => ∃ W1 : Nat → Nat → Hp → Prop, (∃ m, W1 0 m H4) ∧ ∀ j l H, W1 j l H → (J1.stop j H ∧ R H) ∨ (J1.go j H ∧ ∃ R1 : Hp → Prop, (∀ H', R1 H' → ∃ l', l' < l ∧ W1 (j + 1) l' H') ∧ ∀ x H', J1.yld j H x H' → turnD X C g1 tt1 tk tv vs1 p σ2 R1 x H')
    else R H3)
theorem dk2_val {kx vx tg iter tg1 iter1 : Expr} {ifs ifs1 : List Expr} {vs1 : List Nat} {scope : Scope} {own : List (Str × Nat)} {pos : Pos} {wi wi1 : TI} {g g1 : TG} {tt tt1 : TT} {tk tv : TE} (hu : X.A.units + 8 < cLine) (hc : X.calm = true) (hN : X.N.Nodup) (hi : PI X tg iter wi) (ok : BlkOk X.N X.env.scope scope own) (hw : ∀ i, i ∈ vs1 → i ∈ own.map (·.2))
    (hg : ∀ (s : Shared) (H : Hp) (a : Addr) (cl : List (Str × Addr)) (fp : List Addr), PG (X.blk s H scope (compEnvC scope cl a X.env) fp) tg g) (ht : ∀ (s : Shared) (H : Hp) (a : Addr) (cl : List (Str × Addr)) (fp : List Addr), PTs (X.blk s H scope (compEnvC scope cl a X.env) fp) ifs tt)
    (hk : ∀ (s : Shared) (H : Hp) (a : Addr) (cl : List (Str × Addr)) (fp : List Addr), PE (X.blk s H scope (compEnvC scope cl a X.env) fp) kx tk) (hv : ∀ (s : Shared) (H : Hp) (a : Addr) (cl : List (Str × Addr)) (fp : List Addr), PE (X.blk s H scope (compEnvC scope cl a X.env) fp) vx tv)
    (hi1 : ∀ (s : Shared) (H : Hp) (a : Addr) (cl : List (Str × Addr)) (fp : List Addr), PI (X.blk s H scope (compEnvC scope cl a X.env) fp) tg1 iter1 wi1)
    (hg1 : ∀ (s : Shared) (H : Hp) (a : Addr) (cl : List (Str × Addr)) (fp : List Addr), PG (X.blk s H scope (compEnvC scope cl a X.env) fp) tg1 g1) (ht1 : ∀ (s : Shared) (H : Hp) (a : Addr) (cl : List (Str × Addr)) (fp : List Addr), PTs (X.blk s H scope (compEnvC scope cl a X.env) fp) ifs1 tt1)
    (hs : ∀ x, foldedSetIterable iter X.env x = pure x) (hs1 : ∀ env x, foldedSetIterable iter1 env x = pure x) : PE X (dc2 kx vx tg iter tg1 iter1 ifs ifs1 scope pos) (tDk2 X C wi g tt wi1 g1 tt1 tk tv (own.map (·.2)) vs1) := by
  refine ⟨fun pins s σ H Q I h => ?_⟩
  unfold dc2
  rw [arm_eval_DictComp]
  refine wpAny_comprehension_free (use := none) rfl hs (closure_ok fun y hy e => (ok.free y hy e).elim (fun z => I.ok.has _ (.inl z)) fun z => I.ok.has _ (.inr z)) ok.kind (fun y hy e => by rw [ok.uniq y hy, e])
    (thn (hi.run pins s σ H _ I h) fun _ _ hx => thn hx fun _ sa ⟨it, fp, tn, J, Ha, ev, Ia, T, sta, fa, q⟩ => ?_)
  subst ev
  refine wpAny_newObj_type (newEnv_comp ?_)
  have new : Ha sa.heap.objs.size = none := Ia.hok.fresh (Nat.le_refl _)
  obtain ⟨W, ⟨m0, w0⟩, turn⟩ := q _ new
  have Ib : Inv X pins σ (upd Ha sa.heap.objs.size (hoDic sa.heap.objs.size (newDic, []))) { sa with heap := sa.heap.push { cls := .type "dict", data := .dict #[] } } := Ia.laid (t' := sa.toks) (fun _ _ q => Heap.get?_push_of_some _ q) (Nat.le_refl _) (empty_ok sa.heap Ia.big)
  have fb : ∀ b ∈ fp, FpOk X pins (upd Ha sa.heap.objs.size (hoDic sa.heap.objs.size (newDic, []))) b ∧ b < (sa.heap.push newDic).objs.size := fun b hb => by
    obtain ⟨ob, e, _⟩ := T.obj _ _ sta b hb
    have lt := Heap.lt_size e
    exact ⟨⟨(upd_ne (Nat.ne_of_lt lt)).trans (fa b hb).1, (fa b hb).2⟩, by rw [Heap.size_push]; exact Nat.lt_succ_of_lt lt⟩
  have stb : tn 0 (sa.heap.push newDic) := T.keep _ _ _ sta fun b _ ob e => Heap.get?_push_of_some _ e
  generalize sa.heap.objs.size = p at w0 turn Ib fb
  generalize esb : ({ sa with heap := sa.heap.push { cls := .type "dict", data := .dict #[] } } : Shared) = sb at Ib ⊢
  have ehb : sa.heap.push newDic = sb.heap := by
    rw [← esb]
    rfl
  rw [ehb] at fb stb
  generalize upd Ha p (hoDic p (newDic, [])) = Hb at w0 Ib fb
  have Ic := block_start Ib ok hN fb
  have pg := hg sb Hb sb.heap.objs.size (cellsFrom (sb.heap.objs.size + 1) scope.names (cloFrom X.env.cells scope.names [])) fp
  have pt := ht sb Hb sb.heap.objs.size (cellsFrom (sb.heap.objs.size + 1) scope.names (cloFrom X.env.cells scope.names [])) fp
  have pk := hk sb Hb sb.heap.objs.size (cellsFrom (sb.heap.objs.size + 1) scope.names (cloFrom X.env.cells scope.names [])) fp
  have pv := hv sb Hb sb.heap.objs.size (cellsFrom (sb.heap.objs.size + 1) scope.names (cloFrom X.env.cells scope.names [])) fp
  have pi1 := hi1 sb Hb sb.heap.objs.size (cellsFrom (sb.heap.objs.size + 1) scope.names (cloFrom X.env.cells scope.names [])) fp
  have pg1 := hg1 sb Hb sb.heap.objs.size (cellsFrom (sb.heap.objs.size + 1) scope.names (cloFrom X.env.cells scope.names [])) fp
  have pt1 := ht1 sb Hb sb.heap.objs.size (cellsFrom (sb.heap.objs.size + 1) scope.names (cloFrom X.env.cells scope.names [])) fp
  show codeAny _ _ (.compStart (dc2 kx vx tg iter tg1 iter1 ifs ifs1 scope pos) 0 (.ref it) (.ref p) (compEnvC scope (cellsFrom (sb.heap.objs.size + 1) scope.names (cloFrom X.env.cells scope.names [])) sb.heap.objs.size X.env)) (compPost (model X.prog X.w) X.A X.xe none _ (.ref p) sb.heap.objs.size) { sb with heap := pushCells (sb.heap.push newDic) scope.names }
  have home : ({ sb with heap := pushCells (sb.heap.push newDic) scope.names } : Shared).heap = pushCells (sb.heap.push newDic) scope.names := rfl
  have stc : tn 0 (pushCells (sb.heap.push newDic) scope.names) := T.keep _ _ _ stb fun b _ ob e => pushCells_keeps _ _ _ _ (Heap.get?_push_of_some _ e)
  have locE : (compEnvC scope (cellsFrom (sb.heap.objs.size + 1) scope.names (cloFrom X.env.cells scope.names [])) sb.heap.objs.size X.env).locals = sb.heap.objs.size := rfl
  generalize compEnvC scope (cellsFrom (sb.heap.objs.size + 1) scope.names (cloFrom X.env.cells scope.names [])) sb.heap.objs.size X.env = ce at Ic pg pt pk pv pi1 pg1 pt1 locE ⊢
  have fpB : ∀ {σ' : L2.St} {H' : Hp} {s' : Shared}, Inv (X.blk sb Hb scope ce fp) [] σ' H' s' → (∀ b ∈ fp, H' b = none) → ∀ b ∈ fp, FpOk (X.blk sb Hb scope ce fp) [] H' b := fun I' n b hb =>
    ⟨n b hb, (I'.ok.exf b hb).1, I'.ok.exfs b hb, .inl hb, fun x c e => (I'.ok.exf b hb).2 x c e, fun _ hp => by cases (show _ ∈ ([] : List (Addr × Obj)) from hp)⟩
  have loop : codeAny (model X.prog X.w) X.A (.compLoop (dc2 kx vx tg iter tg1 iter1 ifs ifs1 scope pos) 0 (.ref it) (.ref p) ce) (compPost (model X.prog X.w) X.A X.xe none (fun u s' => ∃ v H', Inv X pins σ H' s' ∧ RelV v u ∧ Q v H') (.ref p) sb.heap.objs.size) { sb with heap := pushCells (sb.heap.push newDic) scope.names } := by
    refine dloop_out (hs1 ce) (fun n s' => ∃ i H', Inv (X.blk sb Hb scope ce fp) [] (wipe σ (own.map (·.2))) H' s' ∧ tn i s'.heap ∧ (∀ b ∈ fp, H' b = none) ∧ W i n H') ?_ m0 ⟨0, Hb, Ic, stc, fun b hb => (fb b hb).1.1, w0⟩
    rintro n s5 ⟨i, H5, I5, st5, n5, w5⟩
    rcases turn i n H5 w5 with ⟨stop, qq⟩ | ⟨go, R, hR, step⟩
    · refine thnF (T.done (X.blk sb Hb scope ce fp) rfl rfl rfl hc i [] s5 _ H5 (fun _ _ => False) I5 (fpB I5 n5) st5 stop) fun r s6 ⟨hr, I6⟩ => ?_
      subst hr
      have I7 : Inv X pins σ H5 s6 := Ib.call' (ch := fp) I6.os I6.base I6.hok I6.bare fun b hb => ⟨(fb b hb).1.2.2.2.1, (fb b hb).1.2.1, (fb b hb).1.2.2.2.2.1, (fb b hb).1.2.2.2.2.2⟩
      have away : H5 sb.heap.objs.size = none := locE ▸ (show H5 ce.locals = none from I6.free)
      obtain ⟨m, hn, _⟩ := I6.loc
      have hn : s6.heap.Ns sb.heap.objs.size m := locE ▸ (show s6.heap.Ns ce.locals m from hn)
      obtain ⟨f0, f1, f2, f3, f4, f5⟩ := Ib.fpOk (Nat.le_refl _) away
      exact ⟨m, hn, fun h'' sbt => ⟨.ref p, H5, I7.turned (t' := s6.toks) (fun b ob hb e => (sbt.2 b hb).trans e) f0 f1 f3 f4 f5, rfl, qq⟩⟩
    · refine thnF (T.item (X.blk sb Hb scope ce fp) rfl rfl rfl hc i [] s5 _ H5 (fun _ _ => False) I5 (fpB I5 n5) st5 go) fun r s6 ⟨u, hr, h6⟩ => ?_
      subst hr
      refine thnF h6 fun _ s7 ⟨x, H7, I7, r7, y7, st7, n7⟩ => ?_
      refine thnF (pg.run _ s7 _ H7 x u _ (I7.pinned (fpB I7 n7) (T.obj _ _ st7)) r7 (step x H7 y7)) fun _ s8 ⟨σ8, H8, I8, w8, q8⟩ => ?_
      refine thnF (pt.run _ s8 σ8 H8 _ I8 q8) fun b s9 ⟨H9, I9, q9⟩ => ?_
      have fin : ∀ {σ9 : L2.St} {s' : Shared} {H' : Hp}, Inv (X.blk sb Hb scope ce fp) ([] ++ pinsAt fp s7.heap) σ9 H' s' → (wipe σ (own.map (·.2))).length = σ9.length → (∀ (j : Nat) v, (wipe σ (own.map (·.2)))[j]? = some (some v) → σ9[j]? = some (some v)) → R H' →
          ∃ m, m < n ∧ ∃ i H', Inv (X.blk sb Hb scope ce fp) [] (wipe σ (own.map (·.2))) H' s' ∧ tn i s'.heap ∧ (∀ b ∈ fp, H' b = none) ∧ W i m H' := fun {σ9 s' H'} I' hl kn nx => by
        obtain ⟨m', hm, w'⟩ := hR H' nx
        have held : ∀ b ∈ fp, ∀ ob, s7.heap.get? b = some ob → s'.heap.get? b = some ob ∧ H' b = none := fun b hb ob e =>
          have z := I'.pin (b, ob) (List.mem_append_right _ (List.mem_append_right _ (mem_pinsAt hb e)))
          ⟨z.1, z.2.1⟩
        refine ⟨m', hm, i + 1, H', (I'.unpinned (pins := [])).weak hl kn, T.keep _ _ _ st7 fun b hb ob e => (held b hb ob e).1, fun b hb => ?_, w'⟩
        obtain ⟨ob, e, _⟩ := T.obj _ _ st7 b hb
        exact (held b hb ob e).2
      have len8 : (wipe σ (own.map (·.2))).length = σ8.length := by rw [← w8, wipe_length]
      have kn8 : ∀ (j : Nat) v, (wipe σ (own.map (·.2)))[j]? = some (some v) → σ8[j]? = some (some v) := fun j v e => (wipe_some (w8.symm ▸ e)).1
      have kn9 : ∀ (j : Nat) v, (wipe σ (own.map (·.2)))[j]? = some (some v) → (wipe σ8 vs1)[j]? = some (some v) := fun j v e => by
        obtain ⟨ea, eb⟩ := wipe_some (w8.symm ▸ e : (wipe σ8 (own.map (·.2)))[j]? = some (some v))
        rw [L2.wipe_out fun z => eb (hw j z)]
        exact ea
      cases b with
      | false => exact fin I9 len8 kn8 q9
      | true =>
        refine thnF (pi1.run _ s9 σ8 H9 _ I9 q9) fun _ _ hx => thnF hx fun _ sd ⟨it1, fp1, tn1, J1, Hd, e1, Id, T1, std, fd, W1, ⟨m1, w1⟩, turn1⟩ => ?_
        subst e1
        have fpD : ∀ {H' : Hp}, (∀ b ∈ fp1, H' b = none) → ∀ b ∈ fp1, FpOk (X.blk sb Hb scope ce fp) ([] ++ pinsAt fp s7.heap) H' b := fun n b hb => ⟨n b hb, (fd b hb).2⟩
        have inner : codeAny (model X.prog X.w) X.A (.compLoop (dc2 kx vx tg iter tg1 iter1 ifs ifs1 scope pos) 1 (.ref it1) (.ref p) ce)
            (fun r s' => match r with
              | .ok _ => ∃ m, m < n ∧ ∃ i H', Inv (X.blk sb Hb scope ce fp) [] (wipe σ (own.map (·.2))) H' s' ∧ tn i s'.heap ∧ (∀ b ∈ fp, H' b = none) ∧ W i m H'
              | .error _ => False) sd := by
          refine dloop_in (fun l s' => ∃ j H', Inv (X.blk sb Hb scope ce fp) ([] ++ pinsAt fp s7.heap) (wipe σ8 vs1) H' s' ∧ tn1 j s'.heap ∧ (∀ b ∈ fp1, H' b = none) ∧ W1 j l H') ?_ m1 ⟨0, Hd, Id.weak (wipe_length _ _) (fun j v e => (wipe_some e).1), std, fun b hb => (fd b hb).1, w1⟩
          rintro l se ⟨j, He, Ie, ste, ne, we⟩
          rcases turn1 j l He we with ⟨stop1, nx1⟩ | ⟨go1, R1, hR1, step1⟩
          · refine thnF (T1.done (X.blk sb Hb scope ce fp) rfl rfl rfl hc j _ se (wipe σ8 vs1) He (fun _ _ => False) Ie (fpD ne) ste stop1) fun r sf ⟨hr, If⟩ => ?_
            subst hr
            exact fin If (len8.trans (wipe_length σ8 vs1).symm) kn9 nx1
          · refine thnF (T1.item (X.blk sb Hb scope ce fp) rfl rfl rfl hc j _ se (wipe σ8 vs1) He (fun _ _ => False) Ie (fpD ne) ste go1) fun r sf ⟨u1, hr, hf⟩ => ?_
            subst hr
            refine thnF hf fun _ sg ⟨x1, Hg, Ig, rg, yg, stg, ng⟩ => ?_
            refine thnF (pg1.run _ sg (wipe σ8 vs1) Hg x1 u1 _ (Ig.pinned (fpD ng) (T1.obj _ _ stg)) rg (step1 x1 Hg yg)) fun _ sh ⟨σh, Hh, Ih, wh, qh⟩ => ?_
            refine thnF (pt1.run _ sh σh Hh _ Ih qh) fun b1 si ⟨Hi, Ii, qi⟩ => ?_
            have fin1 : ∀ {s' : Shared} {H' : Hp}, Inv (X.blk sb Hb scope ce fp) (([] ++ pinsAt fp s7.heap) ++ pinsAt fp1 sg.heap) σh H' s' → R1 H' → ∃ m, m < l ∧ ∃ j H', Inv (X.blk sb Hb scope ce fp) ([] ++ pinsAt fp s7.heap) (wipe σ8 vs1) H' s' ∧ tn1 j s'.heap ∧ (∀ b ∈ fp1, H' b = none) ∧ W1 j m H' := fun {s' H'} I' nx => by
              obtain ⟨m', hm, w'⟩ := hR1 H' nx
              have held : ∀ b ∈ fp1, ∀ ob, sg.heap.get? b = some ob → s'.heap.get? b = some ob ∧ H' b = none := fun b hb ob e =>
                have z := I'.pin (b, ob) (List.mem_append_right _ (List.mem_append_right _ (mem_pinsAt hb e)))
                ⟨z.1, z.2.1⟩
              refine ⟨m', hm, j + 1, H', I'.unpinned.weak (by rw [← wh, wipe_length]) (fun j v e => (wipe_some (wh.symm ▸ e)).1), T1.keep _ _ _ stg fun b hb ob e => (held b hb ob e).1, fun b hb => ?_, w'⟩
              obtain ⟨ob, e, _⟩ := T1.obj _ _ stg b hb
              exact (held b hb ob e).2
            cases b1 with
            | false => exact fin1 Ii qi
            | true =>
              refine thnF (pk.run _ si σh Hi _ Ii qi) fun z s10 ⟨yk, H10, I10, r10, q10⟩ => ?_
              refine thnF (pv.run _ s10 σh H10 _ I10 q10) fun z2 s11 ⟨yv, H11, I11, r11, e, ks, k, hd, kok, rk, k8, rpk, hz, nx⟩ => ?_
              exact set_d (X := X.blk sb Hb scope ce fp) (C := C) hu I11 hd kok (rpK_blk rk) k8 rpk r10 r11 hz fun ob s12 I12 => fin1 I12 (nx ob)
        exact dstart_in inner (T1.self X.A 0 _ _ _ std inner)
  exact codeAny_compStart_dict loop (T.self X.A 0 _ _ _ stc loop)
end
end Pd
set_option maxHeartbeats 1000000
/-! Pd35: dict comprehensions of two clauses, by values. -/
namespace Pd
open PySem L2 PyProof.Rows
theorem putD_le {α : Type} {k : D} {x : α} : ∀ {kvs : List (D × α)}, kvs.length ≤ (putD k x kvs).length
  | [] => by simp
  | p :: r => by
    have ih := putD_le (k := k) (x := x) (kvs := r)
    unfold putD
    split
    · simp
    · simp; omega
theorem compD_le {vs : List Nat} {k : Tg} {c : EvB} {ek ev : Ev} : ∀ {xs : List D} {acc rs : List (D × O)} {d d' : PEnv}, compD vs k c ek ev xs acc d = some (rs, d') → acc.length ≤ rs.length
  | [], _, _, _, _, q => by cases q; exact Nat.le_refl _
  | x :: xs, acc, rs, d, d', q => by
    obtain ⟨d1, q1, q2⟩ := Option.bind_eq_some_iff.mp q
    obtain ⟨⟨b, d2⟩, q3, q4⟩ := Option.bind_eq_some_iff.mp q2
    cases b with
    | false => exact compD_le (show compD vs k c ek ev xs acc (over [] vs d2) = some (rs, d') from q4)
    | true =>
      obtain ⟨⟨o1, d3⟩, q5, q6⟩ := Option.bind_eq_some_iff.mp q4
      obtain ⟨⟨o2, d4⟩, q7, q8⟩ := Option.bind_eq_some_iff.mp q6
      have q8 : (if o1.d.kOk 8 = true then compD vs k c ek ev xs (putD o1.d (.val o2.d) acc) (over [] vs d4) else none) = some (rs, d') := q8
      split at q8
      · exact Nat.le_trans putD_le (compD_le q8)
      · cases q8
def compD2 (vs vs1 : List Nat) (k : Tg) (c : EvB) (f1 : EvI) (k1 : Tg) (c1 : EvB) (ek ev : Ev) : List D → List (D × O) → PEnv → Option (List (D × O) × PEnv)
  | [], acc, d => some (acc, d)
  | x :: xs, acc, d => (bindT k x d).bind fun d1 => (c d1).bind fun p => if p.1 = true then (f1 p.2).bind fun y => (compD vs1 k1 c1 ek ev y.1 acc (over [] vs1 y.2)).bind fun r => compD2 vs vs1 k c f1 k1 c1 ek ev xs r.1 (over [] vs r.2)
    else compD2 vs vs1 k c f1 k1 c1 ek ev xs acc (over [] vs p.2)
theorem compD2_le {vs vs1 : List Nat} {k k1 : Tg} {f1 : EvI} {c c1 : EvB} {ek ev : Ev} : ∀ {xs : List D} {acc rs : List (D × O)} {d d' : PEnv}, compD2 vs vs1 k c f1 k1 c1 ek ev xs acc d = some (rs, d') → acc.length ≤ rs.length
  | [], _, _, _, _, q => by cases q; exact Nat.le_refl _
  | x :: xs, acc, rs, d, d', q => by
    obtain ⟨d1, q1, q2⟩ := Option.bind_eq_some_iff.mp q
    obtain ⟨⟨b, d2⟩, q3, q4⟩ := Option.bind_eq_some_iff.mp q2
    cases b with
    | false => exact compD2_le (show compD2 vs vs1 k c f1 k1 c1 ek ev xs acc (over [] vs d2) = some (rs, d') from q4)
    | true =>
      obtain ⟨y, q5, q6⟩ := Option.bind_eq_some_iff.mp q4
      obtain ⟨⟨a1, d4⟩, q7, q8⟩ := Option.bind_eq_some_iff.mp q6
      exact Nat.le_trans (compD_le q7) (compD2_le q8)
def evDc2 (vs vs1 : List Nat) (f : EvI) (k : Tg) (c : EvB) (f1 : EvI) (k1 : Tg) (c1 : EvB) (ek ev : Ev) : Ev := fun d => (f d).bind fun p => if saved p.2 vs then (compD2 vs vs1 k c f1 k1 c1 ek ev p.1 [] (over [] vs p.2)).bind fun z => if z.1.length < 100000 then some (.dic z.1, over p.2 vs z.2) else none else none
section
variable {X : Cx} {C : Str → Option Addr}
theorem tdk2_ok {vs vs1 : List Nat} {f f1 : EvI} {k k1 : Tg} {c c1 : EvB} {ek ev : Ev} {g : L2.St} {H Hf : Hp} {d d1 de : PEnv} {t : Tmp} {F : Fps} {ds : List D} {rs : List (D × O)} {Q : VK} (hv : ∀ i, i ∈ vs1 → i ∈ vs) (hk : ∀ i, i ∈ k.is → i ∈ vs) (hk1 : ∀ i, i ∈ k1.is → i ∈ vs1) (S : ST X.K X.w C H Hf d g t F) (q1 : f d = some (ds, d1)) (sv : saved d1 vs = true) (hn : rs.length < 100000)
    (q3 : compD2 vs vs1 k c f1 k1 c1 ek ev ds [] (over [] vs d1) = some (rs, de)) (kQ : ∀ v H' Hf' F', ST X.K X.w C H' Hf' (over d1 vs de) g (t ++ [(.dic rs, v)]) F' → Go H Hf F H' Hf' F' → Q v H') : tDk2 X C (tI X C f) (tG X C k) (tT X C c) (tI X C f1) (tG X C k1) (tT X C c1) (tE X C ek) (tE X C ev) vs vs1 g H Q := by
  refine ⟨Hf, d, t, F, ds, d1, S, q1, fun J H1 Hf1 F1 S1 go1 wk => ?_⟩
  intro p hp
  let P : Nat → Hp → Prop := fun i H2 => ∃ Hf2 d2 F2 acc, ST X.K X.w C H2 Hf2 d2 (wipe g vs) (t ++ [(.dic acc, .ref p)]) F2 ∧ Go H Hf F H2 Hf2 F2 ∧ Le Hf1 Hf2 ∧ compD2 vs vs1 k c f1 k1 c1 ek ev (ds.drop i) acc d2 = some (rs, de)
  refine ⟨fun i m H2 => m = ds.length - i ∧ P i H2, ?_, ?_⟩
  · obtain ⟨F2, S2, go2⟩ := S1.wiped vs
    have al : Al H1 Hf1 (upd H1 p (hoDic p (newDic, []))) Hf1 [p] := Al.own S1.le hp
    obtain ⟨S3, go3⟩ := S2.push (o := .dic []) (v := .ref p) al.lH al.lF al.nw al.l' al.fr al.nd al.fz ⟨p, (newDic, []), [], rfl, rfl, ⟨fun _ h => (by cases h), List.nodup_nil⟩, upd_same, rfl, rfl⟩
    exact ⟨ds.length, rfl, Hf1, _, _, [], S3, (go1.trans go2).trans go3, Le.rfl, q3⟩
  · rintro i m H2 ⟨em, Hf2, d2, F2, acc, S2, go2, l2, q5⟩
    by_cases hi : i < ds.length
    · have hx : ds[i]? = some ds[i] := List.getElem?_eq_getElem hi
      rw [List.drop_eq_getElem_cons hi] at q5
      obtain ⟨d3, q6, q7⟩ := Option.bind_eq_some_iff.mp q5
      obtain ⟨⟨b, d4⟩, q8, q9⟩ := Option.bind_eq_some_iff.mp q7
      refine .inr ⟨wk.go i _ H2 Hf2 hx l2 S2.le, P (i + 1), fun H' h => ⟨ds.length - (i + 1), by omega, rfl, h⟩, fun v H3 y => ?_⟩
      obtain ⟨Hf3, al, rp⟩ := wk.yld i _ H2 Hf2 v H3 hx l2 S2.le y
      obtain ⟨F3, S3, go3⟩ := S2.grow al
      refine ⟨Hf3, d2, _, F3, ds[i], d3, S3, rp, q6, fun g4 F4 S4 go4 sm => ?_⟩
      have hw : wipe g4 vs = wipe g vs := same_wipe sm hk
      refine ⟨hw, Hf3, d3, _, F4, b, d4, S4, q8, fun H5 Hf5 F5 S5 go5 => ?_⟩
      have l5 : Le Hf1 Hf5 := l2.trans (al.lF.trans go5.grow)
      have go25 := ((go2.trans go3).trans go4).trans go5
      cases b with
      | false =>
        try dsimp only
        rw [if_neg Bool.false_ne_true]
        obtain ⟨F6, S6, go6⟩ := S5.wiped vs
        rw [hw] at S6
        exact ⟨Hf5, _, F6, acc, S6, go25.trans go6, l5, q9⟩
      | true =>
        try dsimp only
        rw [if_pos rfl]
        obtain ⟨⟨ys, d6⟩, q10, q11⟩ := Option.bind_eq_some_iff.mp q9
        obtain ⟨⟨ac2, d7⟩, q12, q13⟩ := Option.bind_eq_some_iff.mp q11
        have le2 := compD2_le (show compD2 vs vs1 k c f1 k1 c1 ek ev (ds.drop (i + 1)) ac2 (over [] vs d7) = some (rs, de) from q13)
        refine ⟨Hf5, d4, _, F5, ys, d6, S5, q10, fun J1 H6 Hf6 F6 S6 go6 wk1 => ?_⟩
        have l6 : Le Hf1 Hf6 := l5.trans go6.grow
        let P1 : Nat → Hp → Prop := fun j H7 => ∃ Hf7 d8 F7 acc1, ST X.K X.w C H7 Hf7 d8 (wipe g4 vs1) (t ++ [(.dic acc1, .ref p)]) F7 ∧ Go H Hf F H7 Hf7 F7 ∧ Le Hf6 Hf7 ∧ compD vs1 k1 c1 ek ev (ys.drop j) acc1 d8 = some (ac2, d7)
        refine ⟨fun j n H7 => n = ys.length - j ∧ P1 j H7, ?_, ?_⟩
        · obtain ⟨F7, S7, go7⟩ := S6.wiped vs1
          exact ⟨ys.length, rfl, Hf6, _, F7, acc, S7, (go25.trans go6).trans go7, Le.rfl, q12⟩
        · rintro j n H7 ⟨em1, Hf7, d8, F7, acc1, S7, go7, l7, q16⟩
          by_cases hj : j < ys.length
          · have hy : ys[j]? = some ys[j] := List.getElem?_eq_getElem hj
            have le1 := compD_le q16
            rw [List.drop_eq_getElem_cons hj] at q16
            obtain ⟨d9, q17, q18⟩ := Option.bind_eq_some_iff.mp q16
            obtain ⟨⟨b1, d10⟩, q19, q20⟩ := Option.bind_eq_some_iff.mp q18
            refine .inr ⟨wk1.go j _ H7 Hf7 hy l7 S7.le, P1 (j + 1), fun H' h => ⟨ys.length - (j + 1), by omega, rfl, h⟩, fun v8 H8 y8 => ?_⟩
            obtain ⟨Hf8, al8, rp8⟩ := wk1.yld j _ H7 Hf7 v8 H8 hy l7 S7.le y8
            obtain ⟨F8, S8, go8⟩ := S7.grow al8
            refine ⟨Hf8, d8, _, F8, ys[j], d9, S8, rp8, q17, fun g9 F9 S9 go9 sm9 => ?_⟩
            have hw9 : wipe g9 vs1 = wipe g4 vs1 := same_wipe sm9 hk1
            refine ⟨hw9, Hf8, d9, _, F9, b1, d10, S9, q19, fun H10 Hf10 F10 S10 go10 => ?_⟩
            have l10 : Le Hf6 Hf10 := l7.trans (al8.lF.trans go10.grow)
            have go710 := ((go7.trans go8).trans go9).trans go10
            cases b1 with
            | false =>
              try dsimp only
              rw [if_neg Bool.false_ne_true]
              obtain ⟨F11, S11, go11⟩ := S10.wiped vs1
              rw [hw9] at S11
              exact ⟨Hf10, _, F11, acc1, S11, go710.trans go11, l10, q20⟩
            | true =>
              try dsimp only
              rw [if_pos rfl]
              obtain ⟨⟨o6, d11⟩, q21, q22⟩ := Option.bind_eq_some_iff.mp q20
              obtain ⟨⟨o7, d12⟩, q23, q24⟩ := Option.bind_eq_some_iff.mp q22
              have q24 : (if o6.d.kOk 8 = true then compD vs1 k1 c1 ek ev (ys.drop (j + 1)) (putD o6.d (.val o7.d) acc1) (over [] vs1 d12) else none) = some (ac2, d7) := q24
              by_cases k8 : o6.d.kOk 8 = true
              · rw [if_pos k8] at q24
                refine ⟨Hf10, d10, _, F10, o6, d11, S10, q21, fun y6 H11 Hf11 F11 S11 go11 => ?_⟩
                obtain ⟨Hg, Sg, gg, rpk⟩ := S11.freezeTop
                obtain ⟨Sh, gh⟩ := Sg.pop
                refine ⟨Hg, d11, _, _, o7, d12, Sh, q23, fun z7 H12 Hf12 F12 S12 go12 => ?_⟩
                obtain ⟨Hi, Si, gi, rpv⟩ := S12.freezeTop
                obtain ⟨Sj, gj⟩ := Si.pop
                have rpk' := Rp.mono (go12.grow.trans gi.grow) _ _ rpk
                obtain ⟨e, fp, hF, kok, hd, rd⟩ := Sj.dacc
                refine ⟨e, _, o6.d, hd, kok, OrD.k Sj.le rd, k8, Rp.mono Sj.le _ _ rpk', by simp; omega, fun ob => ?_⟩
                obtain ⟨F13, S13, go13⟩ := Sj.dput (ob := ob) hF kok rd k8 rpk' rpv
                obtain ⟨F14, S14, go14⟩ := S13.wiped vs1
                rw [hw9] at S14
                exact ⟨Hi, _, F14, _, S14, ((((((go710.trans go11).trans gg).trans gh).trans go12).trans gi).trans gj).trans (go13.trans go14), (((l10.trans go11.grow).trans gg.grow).trans go12.grow).trans gi.grow, q24⟩
              · rw [if_neg k8] at q24
                cases q24
          · rw [List.drop_eq_nil_of_le (by omega)] at q16
            cases q16
            obtain ⟨F8, S8, go8⟩ := S7.wiped vs
            rw [wipe_wipe hv, hw] at S8
            exact .inl ⟨wk1.stop j H7 Hf7 (by omega) l7 S7.le, Hf7, _, F8, ac2, S8, go7.trans go8, l6.trans l7, q13⟩
    · rw [List.drop_eq_nil_of_le (by omega)] at q5
      cases q5
      obtain ⟨F3, S3, go3⟩ := S1.restore sv l2 S2
      exact .inl ⟨wk.stop i H2 Hf2 (by omega) l2 S2.le, kQ _ H2 Hf2 F3 S3 (go2.trans go3)⟩
theorem den_dc2 {kx vx tg iter tg1 iter1 : Expr} {ifs ifs1 : List Expr} {scope : Scope} {own : List (Str × Nat)} {vs1 : List Nat} {pos : Pos} {f f1 : EvI} {k k1 : Tg} {c c1 : EvB} {ek ev : Ev} (hu : X.A.units + 8 < cLine) (hc : X.calm = true) (hN : X.N.Nodup) (hi : DenI X C tg iter f) (ok : BlkOk X.N X.env.scope scope own) (hv : ∀ i, i ∈ vs1 → i ∈ own.map (·.2))
    (hg : ∀ (s : Shared) (H : Hp) (a : Addr) (cl : List (Str × Addr)) (fp : List Addr), DenG (X.blk s H scope (compEnvC scope cl a X.env) fp) C tg k) (ht : ∀ (s : Shared) (H : Hp) (a : Addr) (cl : List (Str × Addr)) (fp : List Addr), PTs (X.blk s H scope (compEnvC scope cl a X.env) fp) ifs (tT X C c))
    (hi1 : ∀ (s : Shared) (H : Hp) (a : Addr) (cl : List (Str × Addr)) (fp : List Addr), DenI (X.blk s H scope (compEnvC scope cl a X.env) fp) C tg1 iter1 f1)
    (hg1 : ∀ (s : Shared) (H : Hp) (a : Addr) (cl : List (Str × Addr)) (fp : List Addr), DenG (X.blk s H scope (compEnvC scope cl a X.env) fp) C tg1 k1) (ht1 : ∀ (s : Shared) (H : Hp) (a : Addr) (cl : List (Str × Addr)) (fp : List Addr), PTs (X.blk s H scope (compEnvC scope cl a X.env) fp) ifs1 (tT X C c1))
    (hkx : ∀ (s : Shared) (H : Hp) (a : Addr) (cl : List (Str × Addr)) (fp : List Addr), Den (X.blk s H scope (compEnvC scope cl a X.env) fp) C kx ek) (hvx : ∀ (s : Shared) (H : Hp) (a : Addr) (cl : List (Str × Addr)) (fp : List Addr), Den (X.blk s H scope (compEnvC scope cl a X.env) fp) C vx ev)
    (hs : ∀ x, foldedSetIterable iter X.env x = pure x) (hs1 : ∀ env x, foldedSetIterable iter1 env x = pure x) (hk : ∀ i, i ∈ k.is → i ∈ own.map (·.2)) (hk1 : ∀ i, i ∈ k1.is → i ∈ vs1) :
    Den X C (.DictComp kx vx [⟨tg, iter, ifs, 0⟩, ⟨tg1, iter1, ifs1, 0⟩] scope pos) (evDc2 (own.map (·.2)) vs1 f k c f1 k1 c1 ek ev) := by
  refine ⟨fun pins s g H Hf d t F o d' I S q => ?_⟩
  obtain ⟨⟨ds, d1⟩, q1, q2⟩ := Option.bind_eq_some_iff.mp q
  split at q2
  · rename_i sv
    obtain ⟨⟨rs, de⟩, q3, q4⟩ := Option.bind_eq_some_iff.mp q2
    split at q4
    · rename_i hn
      cases q4
      exact thn ((dk2_val (X := X) (C := C) (pos := pos) (g := tG X C k) (g1 := tG X C k1) (tk := tE X C ek) (tv := tE X C ev) hu hc hN hi.pi ok hv (fun s H a cl fp => (hg s H a cl fp).pg) ht (fun s H a cl fp => (hkx s H a cl fp).pe) (fun s H a cl fp => (hvx s H a cl fp).pe) (fun s H a cl fp => (hi1 s H a cl fp).pi) (fun s H a cl fp => (hg1 s H a cl fp).pg) ht1 hs hs1).run pins s g H
        (fun v H' => ∃ Hf' F', ST X.K X.w C H' Hf' (over d1 (own.map (·.2)) de) g (t ++ [(.dic rs, v)]) F' ∧ Go H Hf F H' Hf' F') I (tdk2_ok hv hk hk1 S q1 sv hn q3 fun v H' Hf' F' S' go => ⟨Hf', F', S', go⟩)) fun u s' ⟨v, H', I', rv, Hf', F', S', go⟩ => ⟨v, H', Hf', F', I', rv, S', go⟩
    · cases q4
  · cases q2
end
end Pd
set_option maxHeartbeats 1000000
/-! Pd36: what a set of texts is, and the add. -/
namespace Pd
open PySem L2 PyProof.Rows
section
variable {P : Program} {w : World} {A : Around} {E : Value → Shared → Prop} {s : Shared}
/-- the payload holds the texts l, each once, and can be walked -/
structure TxD (P : Program) (w : World) (D : Froz.SD) (l : List Str) : Prop where
  ok : Froz.TxOk P w D l
  nd : l.Nodup
  ris : Ris D.2.2.place.toList
  led : w.params.followText "set-order" = true ∨ D.2.2.led = true
theorem tailTx_ris {ep : Nat} {es : Array (Int × Value)} {t : SetTable} {b : Bool} (r : Ris t.place.toList) : Ris (Froz.tailTx ep es t b).2.2.place.toList := by
  unfold Froz.tailTx
  split
  · exact relayAll_ris t es _
  · exact r
theorem tailTx_led {ep : Nat} {es : Array (Int × Value)} {t : SetTable} {b : Bool} : (Froz.tailTx ep es t b).2.2.led = t.led := by
  unfold Froz.tailTx
  split
  · exact relayAll_led t es _
  · rfl
theorem TxD.add {D : Froz.SD} {l : List Str} {k : Str} (u : Tok) (h : TxD P w D l) (hk : k ∉ l) : TxD P w (Froz.addTx (hashStr w k) (.str k u) D) (k :: l) where
  ok := Froz.add_ok u h.ok
  nd := List.nodup_cons.mpr ⟨hk, h.nd⟩
  ris := by
    unfold Froz.addTx
    refine tailTx_ris ?_
    have z := layNew_ris D.2.2 D.1 (hashStr w k) (.str k u) h.ris
    split
    · exact z
    · exact z
  led := by
    unfold Froz.addTx
    rw [tailTx_led]
    have z := layNew_led D.2.2 D.1 (hashStr w k) (.str k u)
    refine h.led.imp id fun q => ?_
    split
    · exact z.trans q
    · exact z.trans q
theorem TxD.nil {t : SetTable} (hf : t.fits 0 = true) (r : Ris t.place.toList) (hl : w.params.followText "set-order" = true ∨ t.led = true) : TxD P w (#[], 0, t) [] := ⟨Froz.TxOk.nil hf, List.nodup_nil, r, hl⟩
def addS (l : List Str) (k : Str) : List Str := if k ∈ l then l else k :: l
/-- a text that is there already -/
theorem there_x {a : Addr} {T : String} {D : Froz.SD} {l : List Str} {k : Str} {u : Tok} {Q : Bool → Shared → Prop} (ho : s.heap.get? a = some (Froz.sObj T D)) (F : Froz.TxOk P w D l) (hk : k ∈ l) (hb : l.length < scanBound) (h : Q false s) :
    wpAny (model P w) A (setAddHashed a (.str k u) (hashStr w k)) Q E s := by
  obtain ⟨es, ep, t⟩ := D
  have hd : (Froz.sObj T (es, ep, t)).data = .set es ep t := rfl
  have hsc : (Value.str k u).scannable = true := rfl
  have hbs : es.size < scanBound := by
    have z : es.size = l.length := F.sz
    omega
  show wpAny _ _ (setAddHashed a (.str k u) ((strKind P w).hash k)) _ _ _
  unfold setAddHashed setAddHashedIn
  refine wpAny_holding (wpAny_bind (wpAny_setState_of ho hd F.fit ?_))
  dsimp only
  rw [byScan_of hsc hbs F.el]
  simp only [↓reduceIte]
  unfold setAddByScan
  refine wpAny_bind (wpAny_bind (wpAny_rule (wpAny_bind (wpAny_setScan_of (Froz.is_str k u) ho hd F.fit F.el ?_))))
  obtain ⟨e, he, q⟩ := (F.mem k).1 hk
  cases hfi : List.findIdx? (fun e => (strKind P w).is k e.2) es.toList with
  | some j => exact wpAny_pure (wpAny_pure h)
  | none =>
    have c := List.findIdx?_eq_none_iff.mp hfi e he
    rw [q] at c
    cases c
theorem addS_x {a : Addr} {D : Froz.SD} {l : List Str} {k : Str} {u : Tok} {Q : Bool → Shared → Prop} (ho : s.heap.get? a = some (Froz.sObj "set" D)) (F : TxD P w D l) (hb : l.length + 1 < scanBound)
    (h : ∀ b h' D', Heap.SameBut a s.heap h' → h'.get? a = some (Froz.sObj "set" D') → TxD P w D' (addS l k) → Q b { s with heap := h' }) : wpAny (model P w) A (setAddHashed a (.str k u) (hashStr w k)) Q E s := by
  by_cases hk : k ∈ l
  · refine there_x ho F.ok hk (by omega) (h false s.heap D (Heap.SameBut.refl a s.heap) ho ?_)
    unfold addS
    rw [if_pos hk]
    exact F
  · refine Froz.add_x ho F.ok hk hb (h true _ _ (Heap.SameBut.update ..) (Froz.get_upd _ ho rfl) ?_)
    unfold addS
    rw [if_neg hk]
    exact F.add u hk
end
end Pd
set_option maxHeartbeats 1000000
/-! Pd37: the loop that makes a set of texts. -/
namespace Pd
open PySem L2 PyProof.Rows
def addAll (l ks : List Str) : List Str := ks.foldl addS l
theorem length_addS {l : List Str} {k : Str} : (addS l k).length ≤ l.length + 1 := by
  unfold addS
  split
  · omega
  · exact Nat.le_refl _
theorem length_addAll : ∀ (ks l : List Str), (addAll l ks).length ≤ l.length + ks.length
  | [], l => Nat.le_refl _
  | k :: ks, l => by
    have z := length_addAll ks (addS l k)
    have y := length_addS (l := l) (k := k)
    show (addAll (addS l k) ks).length ≤ _
    rw [List.length_cons]
    omega
theorem addAll_snoc (l ks : List Str) (k : Str) : addAll l (ks ++ [k]) = addS (addAll l ks) k := by
  unfold addAll
  rw [List.foldl_append] <;> rfl
section
variable {P : Program} {w : World} {A : Around} {E : Value → Shared → Prop} {s : Shared}
theorem set_loop {I : Addr} {fp wr : List Addr} {G : Array GenState → Array GenState → Prop} {n : Nat} {Pv : Nat → Value → Prop} {St : Nat → Shared → Prop} {R : Result → Shared → Prop}
    (W : WalksS P w A.in1 I fp wr G n Pv St) (S : Addr) (hS : S ∉ fp) (ks : List Str) (hn : n = ks.length) (hb : ks.length + 1 < scanBound) (hval : ∀ i v, Pv i v → ∃ k t, ks[i]? = some k ∧ v = .str k t) :
    ∀ (m i : Nat) (s : Shared), n - i = m → i ≤ n → St i s → (∃ D, s.heap.get? S = some (Froz.sObj "set" D) ∧ TxD P w D (addAll [] (ks.take i))) →
      (∀ s' D, Moved (S :: wr) G s s' → s'.heap.get? S = some (Froz.sObj "set" D) → TxD P w D (addAll [] ks) → R (.ok (.ret .none)) s') →
      codeAny (model P w) A (.builtin "set.update.loop" ⟨[.ref S, .ref I], []⟩) R s := by
  have hw : S ∉ wr := fun h => hS (W.sub _ h)
  have sub : ∀ b ∈ wr, b ∈ S :: wr := fun b hb => List.mem_cons_of_mem _ hb
  intro m
  induction m with
  | zero =>
    intro i s hm hi hst ⟨D, ho, hD⟩ hR
    obtain rfl : i = n := by omega
    refine codeAny_builtin F.entry_set_update_loop ?_
    rw [Around.under_plainId F.plain_set_update_loop _]
    show wpAny _ A.in1 (pyNext (.ref I) >>= _) _ _ s
    refine wpAny_bind (W.done s _ _ hst fun s' mv => ?_)
    show wpAny _ A.in1 (ret Value.none) _ _ s'
    rw [List.take_of_length_le (by omega)] at hD
    exact wpAny_pure (hR s' D (mv.mono sub) (mv.heap S _ hw ho) hD)
  | succ m ih =>
    intro i s hm hi hst ⟨D, ho, hD⟩ hR
    have lt : i < n := by omega
    refine codeAny_builtin F.entry_set_update_loop ?_
    rw [Around.under_plainId F.plain_set_update_loop _]
    show wpAny _ A.in1 (pyNext (.ref I) >>= _) _ _ s
    refine wpAny_bind (W.item i s _ _ lt hst fun v s' hP hst' mv => ?_)
    obtain ⟨z, t, hz, rfl⟩ := hval i v hP
    show wpAny _ A.in1 (holding [Value.str z t] (setAdd S (.str z t)) >>= _) _ _ s'
    refine wpAny_bind (wpAny_holding ?_)
    unfold setAdd
    refine wpAny_holding ?_
    refine wpAny_bind ((strKind P w).pyHash (k := z) (Froz.is_str z t) ?_)
    have hl : (addAll [] (ks.take i)).length ≤ i := by
      have q := length_addAll (ks.take i) []
      rw [List.length_take] at q
      simp at q
      omega
    refine addS_x (s := { s' with toks := s'.toks + 1 }) (mv.heap S _ hw ho) hD (by omega) fun b h' D' sb ho' hD' => ?_
    refine wpAny_pure ⟨plainId_quiet F.plain_set_update_loop _, ih (i + 1) _ (by omega) lt (W.frame _ s' _ _ hst' (Nat.le_succ _) fun b hb o e => ?_) ⟨D', ho', ?_⟩ fun s'' D'' mv2 ho2 hD2 => ?_⟩
    · rw [sb.2 b (fun h : b = S => hS (by rw [← h]; exact hb))]; exact e
    · rw [List.take_add_one, hz]
      show TxD P w D' (addAll [] (ks.take i ++ [z]))
      rw [addAll_snoc]
      exact hD'
    · refine hR s'' D'' (Moved.trans W.gtrans ((mv.mono sub).then_heap (Nat.le_succ _) fun b o hb e => ?_) mv2) ho2 hD2
      rw [sb.2 b (fun h : b = S => hb (by rw [h]; exact List.mem_cons_self))]; exact e
end
end Pd
set_option maxHeartbeats 3200000
/-! Pd38: set(x), x a list or a tuple of texts. -/
namespace Pd
open PySem L2 PyProof.Rows
/-- these values are these texts -/
def TxAre (us : List Value) (ks : List Str) : Prop := us.length = ks.length ∧ ∀ (i : Nat) (v : Value), us[i]? = some v → ∃ k t, ks[i]? = some k ∧ v = Value.str k t
abbrev set0 (w : World) : Obj := { cls := .type "set", dict := none, data := .set #[] 0 (.fresh 0 0 (!w.params.followText "set-order")) }
theorem set0_ok {P : Program} {w : World} : TxD P w (#[], 0, .fresh 0 0 (!w.params.followText "set-order")) [] := TxD.nil rfl List.Pairwise.nil (by
  show _ ∨ (!w.params.followText "set-order") = true
  cases w.params.followText "set-order"
  · exact .inr rfl
  · exact .inl rfl)
section
variable {P : Program} {w : World} {A : Around} {E : Value → Shared → Prop} {s : Shared}
theorem set_of_list {l : Addr} {items : Array Value} (ks : List Str) {Q : Value → Shared → Prop} (hh : A.handled = none) (hl : s.heap.IsList l items) (hit : TxAre items.toList ks) (hb : ks.length + 1 < scanBound)
    (h : ∀ (h' : Heap) (tk : Nat) (D : Froz.SD), h'.get? s.heap.objs.size = some (Froz.sObj "set" D) → TxD P w D (addAll [] ks) → (∀ b o, s.heap.get? b = some o → h'.get? b = some o) → Q (.ref s.heap.objs.size) { s with heap := h', toks := tk }) :
    wpAny (model P w) A (call (.type "set") [.ref l]) Q E s := by
  have hisz : items.size = ks.length := by rw [← Array.length_toList]; exact hit.1
  obtain ⟨c, tl, hmro⟩ := F.called_set.mro
  have hmade := F.called_set.made
  have hsub := F.called_set.sub
  refine wpAny_call (codeAny_of_tree ?_)
  show wpAny _ _ (callAny (.type "set") _) _ _ _
  refine wpAny_pure ⟨Code.quiet_builtin _ (by decide +kernel), codeAny_builtin F.entry_type_call ?_⟩
  rw [Around.under_plain (weight_type_call_type "set" [.ref l] []) rfl]
  have h1 := F.called_set.notType
  have h2 := F.called_set.canCreate
  have hct := F.typeCall_set_1 (.ref l)
  repeat (any_goals (first | assumption | wp_step))
  refine codeAny_mono (code_set_led1 (.ref l) (E := E) (Q₁ := fun ob sa => ob = .ref s.heap.objs.size ∧ sa = { s with heap := s.heap.push (set0 w) }) ⟨rfl, rfl⟩) fun r sa hr => ?_
  cases r with
  | error e => exact hr
  | ok fl =>
    cases fl with
    | ret ob =>
      obtain ⟨rfl, rfl⟩ := hr
      have here : (s.heap.push (set0 w)).get? s.heap.objs.size = some (set0 w) := Heap.get?_push_size _ rfl
      have hT : Shared.TypeIs { s with heap := s.heap.push (set0 w) } (.ref s.heap.objs.size) "set" := ⟨_, here, rfl⟩
      have hli := F.called_set.init.lookup
      have hbi := F.called_set.init.bind (.ref s.heap.objs.size)
      repeat (any_goals (first | assumption | wp_step))
      refine codeAny_mono (codeAny_call_builtin (R := wants (fun r sb => r = .none ∧ ∃ h' tk D, sb = { s with heap := h', toks := tk } ∧ h'.get? s.heap.objs.size = some (Froz.sObj "set" D) ∧ TxD P w D (addAll [] ks) ∧
          (∀ b o, s.heap.get? b = some o → h'.get? b = some o)) E) F.called_set.init.plain F.entry_set_init (check_set_init_1 hT ?_)) fun r2 s2 hr2 => ?_
      · obtain ⟨ol, hol, hcl, nl, hdl⟩ := hl
        obtain ⟨ocls, odict, odata, oslots⟩ := ol
        simp only at hcl hdl
        subst hcl; subst hdl
        have hol' : (s.heap.push (set0 w)).get? l = some { cls := .type "list", dict := odict, data := .seq items nl, slots := oslots } := Heap.get?_push_of_some _ hol
        have hsls := F.sub_list_set
        have hslf := F.sub_list_frozenset
        have hne : (Value.type "list" == Value.type "dict") = false := by decide
        have hl1 : (s.heap.push (set0 w)).IsList l items := ⟨_, hol', rfl, nl, rfl⟩
        unfold Builtin.«set.__init__» noKeywords Builtin.Frozenset.updateFrom
        generalize hPI : pyIter = PI
        wp_walk
        subst hPI
        refine wpAny_pyIter_list hl1 ?_
        refine wpAny_bind (wpAny_runValue ?_)
        have lt : l < s.heap.objs.size := Heap.lt_size hol
        have hh3 : A.in1.in1.in1.handled = none := by simp [hh]
        have hneI : l ≠ (s.heap.push (set0 w)).objs.size := by
          rw [Heap.size_push]; exact Nat.ne_of_lt (Nat.lt_succ_of_lt lt)
        have hSf : s.heap.objs.size ∉ [(s.heap.push (set0 w)).objs.size, l] := by
          rw [Heap.size_push]; simp only [List.mem_cons, List.mem_singleton, List.not_mem_nil, or_false, not_or]
          exact ⟨Nat.ne_of_lt (Nat.lt_succ_self _), Nat.ne_of_gt lt⟩
        refine set_loop ((Walks.list hh3 _ l hneI items).toS) s.heap.objs.size hSf ks hisz hb (fun i v hv => hit.2 i v (by rw [Array.getElem?_toList]; exact hv)) (items.size - 0) 0 _ (by omega) (Nat.zero_le _)
          ⟨⟨_, Heap.get?_push_size _ rfl, rfl, rfl⟩, (hl1.push _)⟩ ⟨(#[], 0, .fresh 0 0 (!w.params.followText "set-order")), Heap.get?_push_of_some _ here, set0_ok⟩ fun s' D mv ho hD => ?_
        obtain ⟨h', g2, d', tk', os'⟩ := s'
        have eg : g2 = s.gens := mv.gens
        have ed : d' = s.drawn := mv.drawn
        have eo : os' = s.os := mv.os
        subst eg; subst ed; subst eo
        show wpAny _ _ _ _ _ _
        refine wpAny_pure ?_
        show wpAny _ _ (ret Value.none) _ _ _
        refine wpAny_pure ⟨rfl, h', tk', D, rfl, ho, hD, fun b o e => ?_⟩
        have hb0 : b < s.heap.objs.size := Heap.lt_size e
        have hb2 : b ≠ (s.heap.push (set0 w)).objs.size := by
          rw [Heap.size_push]; exact Nat.ne_of_lt (Nat.lt_succ_of_lt hb0)
        exact mv.heap b o (by simp only [List.mem_cons, List.mem_singleton, List.not_mem_nil, or_false, not_or]; exact ⟨Nat.ne_of_lt hb0, hb2⟩) (Heap.get?_push_of_some _ (Heap.get?_push_of_some _ e))
      · cases r2 with
        | error e => exact hr2
        | ok fl2 =>
          cases fl2 with
          | ret r =>
            obtain ⟨rfl, h', tk, D, rfl, ho, hD, hk'⟩ := hr2
            repeat (any_goals (first | assumption | wp_step))
            exact h _ _ _ ho hD hk'
          | _ => exact hr2.elim
    | _ => exact hr.elim
theorem set_of_tuple {l : Addr} {items : Array Value} (ks : List Str) {Q : Value → Shared → Prop} (hh : A.handled = none) (hl : s.heap.IsTuple l items) (hit : TxAre items.toList ks) (hb : ks.length + 1 < scanBound)
    (h : ∀ (h' : Heap) (tk : Nat) (D : Froz.SD), h'.get? s.heap.objs.size = some (Froz.sObj "set" D) → TxD P w D (addAll [] ks) → (∀ b o, s.heap.get? b = some o → h'.get? b = some o) → Q (.ref s.heap.objs.size) { s with heap := h', toks := tk }) :
    wpAny (model P w) A (call (.type "set") [.ref l]) Q E s := by
  have hisz : items.size = ks.length := by rw [← Array.length_toList]; exact hit.1
  obtain ⟨c, tl, hmro⟩ := F.called_set.mro
  have hmade := F.called_set.made
  have hsub := F.called_set.sub
  refine wpAny_call (codeAny_of_tree ?_)
  show wpAny _ _ (callAny (.type "set") _) _ _ _
  refine wpAny_pure ⟨Code.quiet_builtin _ (by decide +kernel), codeAny_builtin F.entry_type_call ?_⟩
  rw [Around.under_plain (weight_type_call_type "set" [.ref l] []) rfl]
  have h1 := F.called_set.notType
  have h2 := F.called_set.canCreate
  have hct := F.typeCall_set_1 (.ref l)
  repeat (any_goals (first | assumption | wp_step))
  refine codeAny_mono (code_set_led1 (.ref l) (E := E) (Q₁ := fun ob sa => ob = .ref s.heap.objs.size ∧ sa = { s with heap := s.heap.push (set0 w) }) ⟨rfl, rfl⟩) fun r sa hr => ?_
  cases r with
  | error e => exact hr
  | ok fl =>
    cases fl with
    | ret ob =>
      obtain ⟨rfl, rfl⟩ := hr
      have here : (s.heap.push (set0 w)).get? s.heap.objs.size = some (set0 w) := Heap.get?_push_size _ rfl
      have hT : Shared.TypeIs { s with heap := s.heap.push (set0 w) } (.ref s.heap.objs.size) "set" := ⟨_, here, rfl⟩
      have hli := F.called_set.init.lookup
      have hbi := F.called_set.init.bind (.ref s.heap.objs.size)
      repeat (any_goals (first | assumption | wp_step))
      refine codeAny_mono (codeAny_call_builtin (R := wants (fun r sb => r = .none ∧ ∃ h' tk D, sb = { s with heap := h', toks := tk } ∧ h'.get? s.heap.objs.size = some (Froz.sObj "set" D) ∧ TxD P w D (addAll [] ks) ∧
          (∀ b o, s.heap.get? b = some o → h'.get? b = some o)) E) F.called_set.init.plain F.entry_set_init (check_set_init_1 hT ?_)) fun r2 s2 hr2 => ?_
      · obtain ⟨ol, hol, hcl, nl, hdl⟩ := hl
        obtain ⟨ocls, odict, odata, oslots⟩ := ol
        simp only at hcl hdl
        subst hcl; subst hdl
        have hol' : (s.heap.push (set0 w)).get? l = some { cls := .type "tuple", dict := odict, data := .seq items nl, slots := oslots } := Heap.get?_push_of_some _ hol
        have hsls := F.sub_tuple_set
        have hslf := F.sub_tuple_frozenset
        have hne : (Value.type "tuple" == Value.type "dict") = false := by decide
        have hl1 : (s.heap.push (set0 w)).IsTuple l items := ⟨_, hol', rfl, nl, rfl⟩
        unfold Builtin.«set.__init__» noKeywords Builtin.Frozenset.updateFrom
        generalize hPI : pyIter = PI
        wp_walk
        subst hPI
        refine wpAny_pyIter_tuple hl1 ?_
        refine wpAny_bind (wpAny_runValue ?_)
        have lt : l < s.heap.objs.size := Heap.lt_size hol
        have hh3 : A.in1.in1.in1.handled = none := by simp [hh]
        have hneI : l ≠ (s.heap.push (set0 w)).objs.size := by
          rw [Heap.size_push]; exact Nat.ne_of_lt (Nat.lt_succ_of_lt lt)
        have hSf : s.heap.objs.size ∉ [(s.heap.push (set0 w)).objs.size, l] := by
          rw [Heap.size_push]; simp only [List.mem_cons, List.mem_singleton, List.not_mem_nil, or_false, not_or]
          exact ⟨Nat.ne_of_lt (Nat.lt_succ_self _), Nat.ne_of_gt lt⟩
        refine set_loop ((Walks.tuple hh3 _ l hneI items).toS) s.heap.objs.size hSf ks hisz hb (fun i v hv => hit.2 i v (by rw [Array.getElem?_toList]; exact hv)) (items.size - 0) 0 _ (by omega) (Nat.zero_le _)
          ⟨⟨_, Heap.get?_push_size _ rfl, rfl, rfl⟩, (hl1.push _)⟩ ⟨(#[], 0, .fresh 0 0 (!w.params.followText "set-order")), Heap.get?_push_of_some _ here, set0_ok⟩ fun s' D mv ho hD => ?_
        obtain ⟨h', g2, d', tk', os'⟩ := s'
        have eg : g2 = s.gens := mv.gens
        have ed : d' = s.drawn := mv.drawn
        have eo : os' = s.os := mv.os
        subst eg; subst ed; subst eo
        show wpAny _ _ _ _ _ _
        refine wpAny_pure ?_
        show wpAny _ _ (ret Value.none) _ _ _
        refine wpAny_pure ⟨rfl, h', tk', D, rfl, ho, hD, fun b o e => ?_⟩
        have hb0 : b < s.heap.objs.size := Heap.lt_size e
        have hb2 : b ≠ (s.heap.push (set0 w)).objs.size := by
          rw [Heap.size_push]; exact Nat.ne_of_lt (Nat.lt_succ_of_lt hb0)
        exact mv.heap b o (by simp only [List.mem_cons, List.mem_singleton, List.not_mem_nil, or_false, not_or]; exact ⟨Nat.ne_of_lt hb0, hb2⟩) (Heap.get?_push_of_some _ (Heap.get?_push_of_some _ e))
      · cases r2 with
        | error e => exact hr2
        | ok fl2 =>
          cases fl2 with
          | ret r =>
            obtain ⟨rfl, h', tk, D, rfl, ho, hD, hk'⟩ := hr2
            repeat (any_goals (first | assumption | wp_step))
            exact h _ _ _ ho hD hk'
          | _ => exact hr2.elim
    | _ => exact hr.elim
end
end Pd
set_option maxHeartbeats 1000000
/-! Pd39: len(set(x)), sorted(set(x)), x a list or a tuple of texts. -/
namespace Pd
open PySem L2 PyProof.Rows
/-! ### two orders of the same texts sort to the same -/
theorem pyLe_anti {a b : D} (ha : a.isS = true) (hb : b.isS = true) (h1 : pyLe a b = true) (h2 : pyLe b a = true) : a = b := by
  cases a <;> first | cases ha | skip
  cases b <;> first | cases hb | skip
  rename_i x y
  have h1 : (!(listOrd itemOrd).blt (PySem.W.keyToks (.str y)) (PySem.W.keyToks (.str x))) = true := h1
  have h2 : (!(listOrd itemOrd).blt (PySem.W.keyToks (.str x)) (PySem.W.keyToks (.str y))) = true := h2
  rw [Bool.not_eq_true'] at h1 h2
  have e : PySem.W.keyToks (.str x) = PySem.W.keyToks (.str y) := by
    have z := (listOrd itemOrd).total
    first
      | exact z _ _ h2 h1
      | (rcases z (PySem.W.keyToks (.str x)) (PySem.W.keyToks (.str y)) with q | q | q
         · rw [h2] at q; cases q
         · exact q
         · rw [h1] at q; cases q)
  have e : [Sum.inr x.cps.toList] = [(Sum.inr y.cps.toList : Int ⊕ List Nat)] := e
  have e2 : x.cps.toList = y.cps.toList := Sum.inr.inj (List.head_eq_of_cons_eq e)
  rw [PySem.W.str_of_cps e2]
theorem sortD_perm {as bs : List D} (p : as.Perm bs) (h : ∀ a, a ∈ as → a.isS = true) : sortD as = sortD bs := by
  have T : PySem.W.TotalLe pyLe := PySem.W.sortLe_total (listOrd itemOrd) false fun b => PySem.W.keyToks (D.py b)
  have tot : ∀ a b, (pyLe a b || pyLe b a) = true := fun a b => by
    rcases T.total a b with z | z <;> simp [z]
  have m1 := List.mergeSort_perm as pyLe
  have m2 := List.mergeSort_perm bs pyLe
  exact List.Perm.eq_of_pairwise (le := fun a b => pyLe a b = true) (fun a b ha hb h1 h2 => pyLe_anti (h a (m1.mem_iff.mp ha)) (h b (p.mem_iff.mpr (m2.mem_iff.mp hb))) h1 h2)
    (List.pairwise_mergeSort T.trans tot as) (List.pairwise_mergeSort T.trans tot bs) ((m1.trans p).trans m2.symm)

/-! ### the texts of a list or a tuple -/
def txts : List D → Option (List Str)
  | [] => some []
  | .str x :: r => (txts r).map (x :: ·)
  | _ => none
def D.txs : D → Option (List Str)
  | .lst xs => txts xs
  | .tup xs => txts xs
  | _ => none
theorem txts_eq : ∀ {ds : List D} {ks : List Str}, txts ds = some ks → ds = ks.map D.str
  | [], _, h => by cases h; rfl
  | d :: r, ks, h => by
    cases d <;> first | cases h | skip
    rename_i x
    obtain ⟨ks', h1, h2⟩ := Option.map_eq_some_iff.mp (show (txts r).map (x :: ·) = some ks from h)
    subst h2
    rw [txts_eq h1] <;> rfl
section
variable {X : Cx} {C : Str → Option Addr} {pins : List (Addr × Obj)} {g : L2.St} {H Hf : Hp} {s : Shared}
theorem txAre_of : ∀ {ks : List Str} {vs : List V} {us : List Value}, RpL X.K X.w C Hf (ks.map D.str) vs → Vals vs us → TxAre us ks
  | [], _, us, h, r => by
    have h : _ = ([] : List V) := h
    subst h
    cases r
    exact ⟨rfl, fun i v e => by simp at e⟩
  | k :: ks, _, us, h, r => by
    obtain ⟨v, vs, e, h1, h2⟩ := h
    subst e
    have h1 : v = .str k := h1
    subst h1
    cases r with
    | cons r1 r2 =>
      obtain ⟨z1, z2⟩ := txAre_of h2 r2
      obtain ⟨t, rfl⟩ := r1
      refine ⟨by simp [z1], fun i v e => ?_⟩
      cases i with
      | zero =>
        simp at e
        exact ⟨k, t, rfl, e.symm⟩
      | succ i =>
        simp at e
        obtain ⟨k', t', q1, q2⟩ := z2 i v e
        exact ⟨k', t', by simpa using q1, q2⟩
/-- set(x) -/
theorem set_v {a : D} {ks : List Str} {x : V} {u : Value} {Q : Value → Shared → Prop} (hc : X.calm = true) (I : Inv X pins g H s) (l : Le Hf H) (ra : Rs X.K X.w C H Hf a x) (ru : RelV x u) (h : a.txs = some ks) (hz : ks.length ≤ 60)
    (q : ∀ p s' D, Inv X pins g H s' → s'.heap.get? p = some (Froz.sObj "set" D) → TxD X.prog X.w D (addAll [] ks) → Q (.ref p) s') : wpAny (model X.prog X.w) X.A (call (.type "set") [u]) Q X.xe s := by
  have hb : ks.length + 1 < scanBound := by unfold scanBound; omega
  cases a <;> first | cases h | skip
  · rename_i xs
    have h : txts xs = some ks := h
    obtain ⟨p, vs, e, hp, rs⟩ := ra
    subst e
    obtain rfl : u = .ref p := ru
    rw [txts_eq h] at rs
    obtain ⟨its, r, pt, _⟩ := I.tuple (l.sqT hp)
    exact set_of_tuple ks (I.ok.hd hc) pt (by simpa using txAre_of rs r) hb fun h' tk D ho hD k => q _ _ D (I.kept (t' := tk) k) ho hD
  · rename_i xs
    have h : txts xs = some ks := h
    obtain ⟨p, vs, e, hp, rs⟩ := ra
    subst e
    obtain rfl : u = .ref p := ru
    rw [txts_eq h] at rs
    obtain ⟨its, r, pl, hz2⟩ := I.list (SqL.of hp)
    exact set_of_list ks (I.ok.hd hc) pl.isList (by simpa using txAre_of rs r) hb fun h' tk D ho hD k => q _ _ D (I.kept (t' := tk) k) ho hD
end
end Pd
set_option maxHeartbeats 1000000
/-! Pd40: len(set(x)) and sorted(set(x)) as expressions. -/
namespace Pd
open PySem L2 PyProof.Rows
theorem perm_of {l : List Str} : ∀ {ts : List Str}, l.Nodup → (∀ x, x ∈ l → x ∈ ts) → ts.length = l.length → ts.Perm l := by
  induction l with
  | nil =>
    intro ts _ _ h
    rw [List.length_eq_zero_iff.mp h]
  | cons x l ih =>
    intro ts hn hs hl
    have hx : x ∈ ts := hs x List.mem_cons_self
    obtain ⟨h1, h2⟩ := List.nodup_cons.mp hn
    refine (List.perm_cons_erase hx).trans ((ih h2 (fun y hy => ?_) ?_).cons x)
    · have hne : y ≠ x := fun e => h1 (e ▸ hy)
      exact (List.mem_erase_of_ne hne).mpr (hs y (List.mem_cons_of_mem _ hy))
    · rw [List.length_erase_of_mem hx, hl]
      simp
/-- the text of a value -/
def txV : Value → Str
  | .str k _ => k
  | _ => Str.empty
theorem vals_txt {H : Hp} {K : PySem.W.Frag} {w : World} {C : Str → Option Addr} : ∀ {us : List Value}, (∀ u, u ∈ us → ∃ k t, u = .str k t) → ∃ vs, Vals vs us ∧ RpL K w C H ((us.map txV).map D.str) vs
  | [], _ => ⟨[], .nil, rfl⟩
  | u :: us, h => by
    obtain ⟨k, t, e⟩ := h u List.mem_cons_self
    obtain ⟨vs, r, rp⟩ := vals_txt (H := H) (K := K) (w := w) (C := C) (us := us) fun x hx => h x (List.mem_cons_of_mem _ hx)
    subst e
    exact ⟨.str k :: vs, .cons ⟨t, rfl⟩ r, .cons rfl rp⟩
theorem TxD.texts {P : Program} {w : World} {D : Froz.SD} {l : List Str} (h : TxD P w D l) : (∀ u, u ∈ D.1.toList.map (·.2) → ∃ k t, u = .str k t) ∧ ((D.1.toList.map (·.2)).map txV).Perm l := by
  have e1 : ∀ u, u ∈ D.1.toList.map (·.2) → ∃ k t, u = Value.str k t := fun u hu => by
    obtain ⟨p, hp, e⟩ := List.mem_map.mp hu
    obtain ⟨⟨k, hk, _⟩, _⟩ := h.ok.el p hp
    obtain ⟨t, e2⟩ := Value.isStrOf_shape (x := k) (v := p.2) hk
    exact ⟨k, t, by rw [← e, e2]⟩
  refine ⟨e1, perm_of h.nd (fun x hx => ?_) ?_⟩
  · obtain ⟨p, hp, hk⟩ := (h.ok.mem x).mp hx
    obtain ⟨t, e2⟩ := Value.isStrOf_shape (x := x) (v := p.2) hk
    exact List.mem_map.mpr ⟨p.2, List.mem_map.mpr ⟨p, hp, rfl⟩, by rw [e2]; rfl⟩
  · rw [List.length_map, List.length_map, Array.length_toList, h.ok.sz]
def rLenSet (a : D) : Option O := a.txs.bind fun ks => if ks.length ≤ 60 then some (.val (.int ((addAll [] ks).length : Nat))) else none
def rSortSet (a : D) : Option O := a.txs.bind fun ks => if ks.length ≤ 60 ∧ D.sortable ((addAll [] ks).map D.str) = true then some (O.ofL (sortD ((addAll [] ks).map D.str))) else none
section
variable {X : Cx} {C : Str → Option Addr}
theorem r1_inv {r : D → Option O} {xs : List D} {o : O} (h : r1 r xs = some o) : ∃ a, xs = [a] ∧ r a = some o := by
  match xs, h with
  | [a], h => exact ⟨a, rfl, h⟩
theorem addAll0 (ks : List Str) : (addAll [] ks).length ≤ ks.length := by
  have := length_addAll ks []
  simpa using this
theorem den_lenSet {a : Expr} {pa : Opn} {p p2 q pos : Pos} (hc : X.calm = true) (hg : Gl X "len") (hm : X.mg "len" = none) (hg2 : Gl X "set") (hm2 : X.mg "set" = none) (ha : DenP X C a pa)
    (na : starEach [a] X.env = (false, eval a X.env) :: starEach [] X.env) : Den X C (.Call (.Name "len" p) [.Call (.Name "set" p2) [a] [] q] [] pos) (evN [pa] (r1 rLenSet)) := by
  refine ⟨fun pins s g H Hf d t F o d' I S qq => ?_⟩
  obtain ⟨ta, os, xs, q1, q2, q3, q4⟩ := evN_inv qq
  obtain ⟨x0, e0, q4⟩ := r1_inv q4
  subst e0
  obtain ⟨ks, h1, h2⟩ := Option.bind_eq_some_iff.mp q4
  split at h2
  · rename_i hz
    cases h2
    refine Call_ (ld_blt I hg hm PySem.boot_len ?_)
    refine PyProof.Rows.callWith_builtin1 (PyProof.Rows.args_cons ?_ rfl) rfl rfl
    refine Call_ (ld_blt I hg2 hm2 PyProof.Rows.boot_set ?_)
    refine PyProof.Rows.callWith_type1 (PyProof.Rows.args_cons (thn (one ha I S q1) fun v s1 z => PyProof.Rows.args_nil ?_) na) na rfl
    obtain ⟨vs, H2, Hf2, F2, tv, I2, r2, S2, g2, _, _, _, an⟩ := z
    have ra := OrA.shs S2.le q3 (an os q2)
    obtain ⟨F3, S3, g3⟩ := ST.popAll _ S2
    obtain ⟨x, vs', e1, rx, e2⟩ := ra
    subst e1
    cases e2
    cases r2 with
    | cons rv1 rv2 =>
      refine set_v hc I2 S2.le rx rv1 h1 hz fun pa' s' DD I' hD TD => ?_
      refine PyProof.Rows.args_nil ?_
      have hsz : DD.1.size = (addAll [] ks).length := TD.ok.sz
      have hle := addAll0 ks
      refine call_len_set hD ⟨rfl, rfl, rfl⟩ rfl TD.ok.fit (by rw [hsz]; omega) ?_
      exact Post.al S3 (g2.trans g3) (PO.flat (v := .int ((addAll [] ks).length : Nat)) (I'.tok _) S3.le ⟨_, by rw [hsz]⟩ rfl)
  · cases h2
theorem den_sortSet {a : Expr} {pa : Opn} {p p2 q pos : Pos} (hc : X.calm = true) (hu : X.A.units + 80 < cLine) (hg : Gl X "sorted") (hm : X.mg "sorted" = none) (hg2 : Gl X "set") (hm2 : X.mg "set" = none) (ha : DenP X C a pa)
    (hv : bootBuiltins "sorted" = some (.builtin "sorted"))
    (na : starEach [a] X.env = (false, eval a X.env) :: starEach [] X.env) : Den X C (.Call (.Name "sorted" p) [.Call (.Name "set" p2) [a] [] q] [] pos) (evN [pa] (r1 rSortSet)) := by
  refine ⟨fun pins s g H Hf d t F o d' I S qq => ?_⟩
  obtain ⟨ta, os, xs, q1, q2, q3, q4⟩ := evN_inv qq
  obtain ⟨x0, e0, q4⟩ := r1_inv q4
  subst e0
  obtain ⟨ks, h1, h2⟩ := Option.bind_eq_some_iff.mp q4
  split at h2
  · rename_i hz
    obtain ⟨hz, hso⟩ := hz
    cases h2
    refine Call_ (ld_blt I hg hm hv ?_)
    refine PyProof.Rows.callWith_builtin1 (PyProof.Rows.args_cons ?_ rfl) rfl rfl
    refine Call_ (ld_blt I hg2 hm2 PyProof.Rows.boot_set ?_)
    refine PyProof.Rows.callWith_type1 (PyProof.Rows.args_cons (thn (one ha I S q1) fun v s1 z => PyProof.Rows.args_nil ?_) na) na rfl
    obtain ⟨vs, H2, Hf2, F2, tv, I2, r2, S2, g2, _, _, _, an⟩ := z
    have ra := OrA.shs S2.le q3 (an os q2)
    obtain ⟨F3, S3, g3⟩ := ST.popAll _ S2
    obtain ⟨x, vs', e1, rx, e2⟩ := ra
    subst e1
    cases e2
    cases r2 with
    | cons rv1 rv2 =>
      refine set_v hc I2 S2.le rx rv1 h1 hz fun pa' s' DD I' hD TD => ?_
      refine PyProof.Rows.args_nil ?_
      have hsz : DD.1.size = (addAll [] ks).length := TD.ok.sz
      have hle := addAll0 ks
      obtain ⟨t1, t2⟩ := TD.texts
      refine call_sorted_g (P := fun us s1 => ∃ vs ds, Inv X pins g H2 s1 ∧ Vals vs us ∧ RpL X.K X.w C Hf2 ds vs ∧ us.length ≤ sizeLine ∧ D.sortable ds = true ∧ sortD ds = sortD ((addAll [] ks).map D.str)) (collect_set (by show X.A.handled = none; exact I.ok.hd hc) ⟨_, hD, rfl, rfl⟩ TD.ok.fit (by rw [hsz]; unfold scanBound; omega) TD.ris TD.led fun s2 out k1 k2 k3 k4 k5 => ?_) fun us s1 E' ⟨vs, ds, I1, rv, rs, hz, so, es⟩ => ⟨hz, ?_⟩
      · have e3 : ∀ u, u ∈ out → ∃ k t, u = Value.str k t := fun u hu => t1 u (k5.mem_iff.mp hu)
        obtain ⟨vs, r3, rp3⟩ := vals_txt (H := Hf2) (K := X.K) (w := X.w) (C := C) e3
        have pm : ((out.map txV).map D.str).Perm ((addAll [] ks).map D.str) := (((k5.map txV).trans t2)).map D.str
        refine ⟨vs, _, ?_, r3, rp3, ?_, ?_, ?_⟩
        · have I3 := I'.call (h' := s2.heap) (g' := s2.gens) (d' := s2.drawn) (t' := s2.toks) (ch := []) (Un.kept k1) (I'.hok.kept k1) (by rw [k3]; exact I'.bare) (fun b hb => nomatch hb)
          have e4 : s2 = { s' with heap := s2.heap, gens := s2.gens, drawn := s2.drawn, toks := s2.toks } := by
            rw [← k4]
          rw [e4]
          exact I3
        · have z := k5.length_eq
          rw [z, List.length_map, Array.length_toList, hsz]
          exact sz5 (by omega)
        · have ok0 := (sortable_1 hso).1
          show (_ && (_ || _)) = true
          rw [Bool.and_eq_true, Bool.or_eq_true]
          exact ⟨List.all_eq_true.mpr fun x hx => ok0 x (pm.mem_iff.mp hx), .inl (List.all_eq_true.mpr fun y hy => by
            obtain ⟨k, _, e⟩ := List.mem_map.mp hy
            rw [← e]; rfl)⟩
        · exact sortD_perm pm fun y hy => by
            obtain ⟨k, _, e⟩ := List.mem_map.mp hy
            rw [← e]; rfl
      · refine sort_after hu so I1 S2.le rv rs hz (Q := Post X C pins g H Hf F t (O.ofL (sortD ((addAll [] ks).map D.str))) d') fun vs' p s' I2' hp rs' => ?_
        rw [es] at rs'
        exact Post.al S3 (g2.trans g3) (PO.newL S3.le hp I2' rfl rs')
  · cases h2
end
end Pd
set_option maxHeartbeats 1000000
/-! Pd41: lists and tuples written out, with starred items. -/
namespace Pd
open PySem L2 PyProof.Rows
def evSt : List (Bool × Ev) → PEnv → Option (List D × PEnv)
  | [], d => some ([], d)
  | (b, f) :: r, d => (f d).bind fun p => (if b = true then p.1.d.seqs' else some [p.1.d]).bind fun ds => (evSt r p.2).bind fun q => some (ds ++ q.1, q.2)
section
variable (X : Cx) (C : Str → Option Addr)
def PostSt (pins : List (Addr × Obj)) (g : L2.St) (H Hf : Hp) (F : Fps) (t : Tmp) (ds : List D) (d' : PEnv) : List Value → Shared → Prop := fun us s' =>
  ∃ vs H' Hf' F', Inv X pins g H' s' ∧ Vals vs us ∧ RpL X.K X.w C Hf' ds vs ∧ ST X.K X.w C H' Hf' d' g t F' ∧ Go H Hf F H' Hf' F'
structure DenSt (es : List Expr) (fs : List (Bool × Ev)) : Prop where
  run : ∀ (pos : Pos) (pins : List (Addr × Obj)) (s : Shared) (g : L2.St) (H Hf : Hp) (d : PEnv) (t : Tmp) (F : Fps) (ds : List D) (d' : PEnv), Inv X pins g H s → ST X.K X.w C H Hf d g t F → evSt fs d = some (ds, d') →
    wpAny (model X.prog X.w) X.A (spliced (backTo pos (starEach es X.env))) (PostSt X C pins g H Hf F t ds d') X.xe s
end
section
variable {X : Cx} {C : Str → Option Addr}
theorem denSt_nil : DenSt X C [] [] := ⟨fun pos pins s g H Hf d t F ds d' I S q => by
  cases q
  exact Calls.spliced_nil ⟨[], H, Hf, F, I, .nil, rfl, S, Go.refl⟩⟩
theorem denSt_one {e : Expr} {es : List Expr} {f : Ev} {fs : List (Bool × Ev)} (he : Den X C e f) (hr : DenSt X C es fs) (hs : starEach (e :: es) X.env = (false, eval e X.env) :: starEach es X.env) : DenSt X C (e :: es) ((false, f) :: fs) := by
  refine ⟨fun pos pins s g H Hf d t F ds d' I S q => ?_⟩
  rw [hs]
  obtain ⟨⟨o, d1⟩, q1, q⟩ := Option.bind_eq_some_iff.mp q
  obtain ⟨d0, q2, q⟩ := Option.bind_eq_some_iff.mp q
  obtain ⟨⟨ds2, d2⟩, q3, q⟩ := Option.bind_eq_some_iff.mp q
  cases q2
  cases q
  show wpAny _ _ (spliced ((false, eval e X.env) :: backTo pos (starEach es X.env))) _ _ s
  refine Calls.spliced_cons (thn (he.run pins s g H Hf d t F o d1 I S q1) fun u s1 ⟨v, H1, Hf1, F1, I1, r1, S1, g1⟩ => ?_)
  obtain ⟨Hf2, S2, g2, rp⟩ := S1.freezeTop
  obtain ⟨S3, g3⟩ := S2.pop
  refine thn (hr.run pos pins s1 g H1 Hf2 d1 t _ ds2 d2 I1 S3 q3) fun us s2 ⟨vs, H2, Hf3, F2, I2, r2, rp2, S4, g4⟩ => ?_
  exact ⟨v :: vs, H2, Hf3, F2, I2, .cons r1 r2, .cons (Rp.mono g4.grow _ _ rp) rp2, S4, ((g1.trans g2).trans g3).trans g4⟩
theorem rp_seq {Hf H : Hp} {K : PySem.W.Frag} {w : World} (l : Le Hf H) : ∀ {x : D} {ds : List D} {v : V}, x.seqs' = some ds → Rp K w C Hf x v → ∃ a vs, v = .ref a ∧ (SqT K H a vs ∨ SqL K H a vs) ∧ RpL K w C Hf ds vs
  | .lst xs, _, v, e, ⟨a, vs, e1, h, r⟩ => by
    cases e
    exact ⟨a, vs, e1, .inr (SqL.of (l a _ h)), r⟩
  | .tup xs, _, v, e, ⟨a, vs, e1, h, r⟩ => by
    cases e
    exact ⟨a, vs, e1, .inl (l.sqT h), r⟩
theorem denSt_star {e : Expr} {p : Pos} {es : List Expr} {f : Ev} {fs : List (Bool × Ev)} (he : Den X C e f) (hr : DenSt X C es fs) : DenSt X C (.Starred e p :: es) ((true, f) :: fs) := by
  refine ⟨fun pos pins s g H Hf d t F ds d' I S q => ?_⟩
  obtain ⟨⟨o, d1⟩, q1, q⟩ := Option.bind_eq_some_iff.mp q
  obtain ⟨d0, q2, q⟩ := Option.bind_eq_some_iff.mp q
  obtain ⟨⟨ds2, d2⟩, q3, q⟩ := Option.bind_eq_some_iff.mp q
  rw [if_pos rfl] at q2
  cases q
  refine PySem.W.items_star (thn (he.run pins s g H Hf d t F o d1 I S q1) fun u s1 ⟨v, H1, Hf1, F1, I1, r1, S1, g1⟩ => ?_) rfl
  obtain ⟨Hf2, S2, g2, rp⟩ := S1.freezeTop
  obtain ⟨S3, g3⟩ := S2.pop
  obtain ⟨a, vs1, e1, hs, rp1⟩ := rp_seq S3.le q2 rp
  subst e1
  obtain rfl : u = Value.ref a := r1
  refine StX.star_any I1 hs fun us1 s2 I2 rv => ?_
  refine thn (hr.run pos pins s2 g H1 Hf2 d1 t _ ds2 d2 I2 S3 q3) fun us s2 ⟨vs, H2, Hf3, F2, I2, r2, rp2, S4, g4⟩ => ?_
  exact ⟨vs1 ++ vs, H2, Hf3, F2, I2, rv.append r2, RpL.append (RpL.mono g4.grow _ _ rp1) rp2, S4, ((g1.trans g2).trans g3).trans g4⟩
def evLstS (fs : List (Bool × Ev)) : Ev := fun d => (evSt fs d).bind fun z => if z.1.length ≤ 100000 then some (O.ofL z.1, z.2) else none
def evTupS (fs : List (Bool × Ev)) : Ev := fun d => (evSt fs d).bind fun z => if z.1.length ≤ 100000 then some (.val (.tup z.1), z.2) else none
theorem den_lstS {es : List Expr} {fs : List (Bool × Ev)} {pos : Pos} (h : DenSt X C es fs) : Den X C (.List es pos) (evLstS fs) := by
  refine ⟨fun pins s g H Hf d t F o d' I S q => ?_⟩
  obtain ⟨⟨ds, d1⟩, h1, q⟩ := Option.bind_eq_some_iff.mp q
  split at q
  · rename_i hl
    cases q
    refine wpAny_List_spliced (thn (h.run pos pins s g H Hf d t F ds d1 I S h1) fun us s1 ⟨vs, H2, Hf2, F2, I2, rv, rp, S2, g2⟩ => ?_)
    have hz : vs.length ≤ sizeLine := sz5 (by rw [rp.length]; exact hl)
    have hf : H2 s1.heap.objs.size = none := I2.hok.fresh (Nat.le_refl _)
    refine ⟨by rw [← rv.length]; exact hz, Post.al S2 g2 (PO.newL S2.le hf (I2.laid (t' := s1.toks) (fun b u e => Heap.get?_push_of_some _ e) (Nat.le_refl _) ?_) rfl rp)⟩
    exact ⟨hz, us, 0, rv, Heap.get?_push_size _ rfl⟩
  · cases q
theorem den_tupS {es : List Expr} {fs : List (Bool × Ev)} {k : Nat} {pos : Pos} (h : DenSt X C es fs) : Den X C (.Tuple es k pos) (evTupS fs) := by
  refine ⟨fun pins s g H Hf d t F o d' I S q => ?_⟩
  obtain ⟨⟨ds, d1⟩, h1, q⟩ := Option.bind_eq_some_iff.mp q
  split at q
  · rename_i hl
    cases q
    refine wpAny_Tuple_spliced (thn (h.run pos pins s g H Hf d t F ds d1 I S h1) fun us s1 ⟨vs, H2, Hf2, F2, I2, rv, rp, S2, g2⟩ => ?_)
    have hz : vs.length ≤ sizeLine := sz5 (by rw [rp.length]; exact hl)
    have hf : H2 s1.heap.objs.size = none := I2.hok.fresh (Nat.le_refl _)
    refine ⟨by rw [← rv.length]; exact hz, Post.al S2 g2 (PO.newT S2.le hf (I2.laid (t' := s1.toks) (fun b u e => Heap.get?_push_of_some _ e) (Nat.le_refl _) ?_) rfl rp)⟩
    exact ⟨hz, us, rv, ⟨_, Heap.get?_push_size _ rfl, rfl, _, rfl⟩⟩
  · cases q
end
end Pd
set_option maxHeartbeats 1000000
/-! Pd42: name = {k: v for .. in ..} on one line. -/
namespace Pd
open PySem L2 PyProof.Rows
section
variable {X : Cx} {C : Str → Option Addr}
theorem dk_core {pins : List (Addr × Obj)} {s : Shared} {σ : L2.St} {H : Hp} {Q : VK} {use : Option (Value → Sem Unit)} {Qf : Value → Shared → Prop} {pos' : Pos} {kx vx tg iter : Expr} {ifs : List Expr} {scope : Scope} {own : List (Str × Nat)} {pos : Pos} {wi : TI} {g : TG} {tt : TT} {tk tv : TE} (hu : X.A.units + 8 < cLine) (hc : X.calm = true) (hN : X.N.Nodup) (hi : PI X tg iter wi) (ok : BlkOk X.N X.env.scope scope own)
    (hg : ∀ (s : Shared) (H : Hp) (a : Addr) (cl : List (Str × Addr)) (fp : List Addr), PG (X.blk s H scope (compEnvC scope cl a X.env) fp) tg g) (ht : ∀ (s : Shared) (H : Hp) (a : Addr) (cl : List (Str × Addr)) (fp : List Addr), PTs (X.blk s H scope (compEnvC scope cl a X.env) fp) ifs tt)
    (hk : ∀ (s : Shared) (H : Hp) (a : Addr) (cl : List (Str × Addr)) (fp : List Addr), PE (X.blk s H scope (compEnvC scope cl a X.env) fp) kx tk) (hv : ∀ (s : Shared) (H : Hp) (a : Addr) (cl : List (Str × Addr)) (fp : List Addr), PE (X.blk s H scope (compEnvC scope cl a X.env) fp) vx tv)
    (hs : ∀ x, foldedSetIterable iter X.env x = pure x) (I : Inv X pins σ H s) (h : tDk X C wi g tt tk tv (own.map (·.2)) σ H Q)
    (hRR : ∀ (D Cc : Addr) (s' : Shared) (m : Str → Option Value) (H' : Hp), Inv X pins σ H' s' → Q (.ref D) H' → s'.heap.Ns Cc m → FpOk X pins H' Cc → compPost (model X.prog X.w) X.A X.xe use Qf (.ref D) Cc (.ok .next) s') :
    wpAny (model X.prog X.w) X.A (comprehension (.DictComp kx vx [⟨tg, iter, ifs, 0⟩] scope pos) scope X.env pos' newDict false (eval iter X.env) use) Qf X.xe s := by
  refine wpAny_comprehension_free (use := use) rfl hs (closure_ok fun y hy e => (ok.free y hy e).elim (fun z => I.ok.has _ (.inl z)) fun z => I.ok.has _ (.inr z)) ok.kind (fun y hy e => by rw [ok.uniq y hy, e])
    (thn (hi.run pins s σ H _ I h) fun _ _ hx => thn hx fun _ sa ⟨it, fp, tn, J, Ha, ev, Ia, T, sta, fa, q⟩ => ?_)
  subst ev
  refine wpAny_newObj_type (newEnv_comp ?_)
  have new : Ha sa.heap.objs.size = none := Ia.hok.fresh (Nat.le_refl _)
  obtain ⟨W, ⟨m0, w0⟩, turn⟩ := q _ new
  have Ib : Inv X pins σ (upd Ha sa.heap.objs.size (hoDic sa.heap.objs.size (newDic, []))) { sa with heap := sa.heap.push { cls := .type "dict", data := .dict #[] } } := Ia.laid (t' := sa.toks) (fun _ _ q => Heap.get?_push_of_some _ q) (Nat.le_refl _) (empty_ok sa.heap Ia.big)
  have fb : ∀ b ∈ fp, FpOk X pins (upd Ha sa.heap.objs.size (hoDic sa.heap.objs.size (newDic, []))) b ∧ b < (sa.heap.push newDic).objs.size := fun b hb => by
    obtain ⟨ob, e, _⟩ := T.obj _ _ sta b hb
    have lt := Heap.lt_size e
    exact ⟨⟨(upd_ne (Nat.ne_of_lt lt)).trans (fa b hb).1, (fa b hb).2⟩, by rw [Heap.size_push]; exact Nat.lt_succ_of_lt lt⟩
  have stb : tn 0 (sa.heap.push newDic) := T.keep _ _ _ sta fun b _ ob e => Heap.get?_push_of_some _ e
  generalize sa.heap.objs.size = p at w0 turn Ib fb
  generalize esb : ({ sa with heap := sa.heap.push { cls := .type "dict", data := .dict #[] } } : Shared) = sb at Ib ⊢
  have ehb : sa.heap.push newDic = sb.heap := by
    rw [← esb]
    rfl
  rw [ehb] at fb stb
  generalize upd Ha p (hoDic p (newDic, [])) = Hb at w0 Ib fb
  have Ic := block_start Ib ok hN fb
  have pg := hg sb Hb sb.heap.objs.size (cellsFrom (sb.heap.objs.size + 1) scope.names (cloFrom X.env.cells scope.names [])) fp
  have pt := ht sb Hb sb.heap.objs.size (cellsFrom (sb.heap.objs.size + 1) scope.names (cloFrom X.env.cells scope.names [])) fp
  have pk := hk sb Hb sb.heap.objs.size (cellsFrom (sb.heap.objs.size + 1) scope.names (cloFrom X.env.cells scope.names [])) fp
  have pv := hv sb Hb sb.heap.objs.size (cellsFrom (sb.heap.objs.size + 1) scope.names (cloFrom X.env.cells scope.names [])) fp
  show codeAny _ _ (.compStart (.DictComp kx vx [⟨tg, iter, ifs, 0⟩] scope pos) 0 (.ref it) (.ref p) (compEnvC scope (cellsFrom (sb.heap.objs.size + 1) scope.names (cloFrom X.env.cells scope.names [])) sb.heap.objs.size X.env)) (compPost (model X.prog X.w) X.A X.xe use Qf (.ref p) sb.heap.objs.size) { sb with heap := pushCells (sb.heap.push newDic) scope.names }
  have home : ({ sb with heap := pushCells (sb.heap.push newDic) scope.names } : Shared).heap = pushCells (sb.heap.push newDic) scope.names := rfl
  have stc : tn 0 (pushCells (sb.heap.push newDic) scope.names) := T.keep _ _ _ stb fun b _ ob e => pushCells_keeps _ _ _ _ (Heap.get?_push_of_some _ e)
  have locE : (compEnvC scope (cellsFrom (sb.heap.objs.size + 1) scope.names (cloFrom X.env.cells scope.names [])) sb.heap.objs.size X.env).locals = sb.heap.objs.size := rfl
  generalize compEnvC scope (cellsFrom (sb.heap.objs.size + 1) scope.names (cloFrom X.env.cells scope.names [])) sb.heap.objs.size X.env = ce at Ic pg pt pk pv locE ⊢
  have fpB : ∀ {σ' : L2.St} {H' : Hp} {s' : Shared}, Inv (X.blk sb Hb scope ce fp) [] σ' H' s' → (∀ b ∈ fp, H' b = none) → ∀ b ∈ fp, FpOk (X.blk sb Hb scope ce fp) [] H' b := fun I' n b hb =>
    ⟨n b hb, (I'.ok.exf b hb).1, I'.ok.exfs b hb, .inl hb, fun x c e => (I'.ok.exf b hb).2 x c e, fun _ hp => by cases (show _ ∈ ([] : List (Addr × Obj)) from hp)⟩
  have loop : codeAny (model X.prog X.w) X.A (.compLoop (.DictComp kx vx [⟨tg, iter, ifs, 0⟩] scope pos) 0 (.ref it) (.ref p) ce) (compPost (model X.prog X.w) X.A X.xe use Qf (.ref p) sb.heap.objs.size) { sb with heap := pushCells (sb.heap.push newDic) scope.names } := by
    refine compLoop_anyD (fun n s' => ∃ i H', Inv (X.blk sb Hb scope ce fp) [] (wipe σ (own.map (·.2))) H' s' ∧ tn i s'.heap ∧ (∀ b ∈ fp, H' b = none) ∧ W i n H') ?_ m0 ⟨0, Hb, Ic, stc, fun b hb => (fb b hb).1.1, w0⟩
    rintro n s5 ⟨i, H5, I5, st5, n5, w5⟩
    rcases turn i n H5 w5 with ⟨stop, qq⟩ | ⟨go, R, hR, step⟩
    · refine thnF (T.done (X.blk sb Hb scope ce fp) rfl rfl rfl hc i [] s5 _ H5 (fun _ _ => False) I5 (fpB I5 n5) st5 stop) fun r s6 ⟨hr, I6⟩ => ?_
      subst hr
      have I7 : Inv X pins σ H5 s6 := Ib.call' (ch := fp) I6.os I6.base I6.hok I6.bare fun b hb => ⟨(fb b hb).1.2.2.2.1, (fb b hb).1.2.1, (fb b hb).1.2.2.2.2.1, (fb b hb).1.2.2.2.2.2⟩
      have away : H5 sb.heap.objs.size = none := locE ▸ (show H5 ce.locals = none from I6.free)
      obtain ⟨m, hn, _⟩ := I6.loc
      have hn : s6.heap.Ns sb.heap.objs.size m := locE ▸ (show s6.heap.Ns ce.locals m from hn)
      exact hRR p sb.heap.objs.size s6 m H5 I7 qq hn (Ib.fpOk (Nat.le_refl _) away)
    · refine thnF (T.item (X.blk sb Hb scope ce fp) rfl rfl rfl hc i [] s5 _ H5 (fun _ _ => False) I5 (fpB I5 n5) st5 go) fun r s6 ⟨u, hr, h6⟩ => ?_
      subst hr
      refine thnF h6 fun _ s7 ⟨x, H7, I7, r7, y7, st7, n7⟩ => ?_
      refine thnF (pg.run _ s7 _ H7 x u _ (I7.pinned (fpB I7 n7) (T.obj _ _ st7)) r7 (step x H7 y7)) fun _ s8 ⟨σ8, H8, I8, w8, q8⟩ => ?_
      refine thnF (pt.run _ s8 σ8 H8 _ I8 q8) fun b s9 ⟨H9, I9, q9⟩ => ?_
      have fin : ∀ {s' : Shared} {H' : Hp}, Inv (X.blk sb Hb scope ce fp) ([] ++ pinsAt fp s7.heap) σ8 H' s' → R H' → ∃ m, m < n ∧ ∃ i H', Inv (X.blk sb Hb scope ce fp) [] (wipe σ (own.map (·.2))) H' s' ∧ tn i s'.heap ∧ (∀ b ∈ fp, H' b = none) ∧ W i m H' := fun {s' H'} I' nx => by
        obtain ⟨m', hm, w'⟩ := hR H' nx
        have held : ∀ b ∈ fp, ∀ ob, s7.heap.get? b = some ob → s'.heap.get? b = some ob ∧ H' b = none := fun b hb ob e =>
          have z := I'.pin (b, ob) (List.mem_append_right _ (List.mem_append_right _ (mem_pinsAt hb e)))
          ⟨z.1, z.2.1⟩
        refine ⟨m', hm, i + 1, H', (I'.unpinned (pins := [])).weak (by rw [← w8, wipe_length]) (fun j v e => (wipe_some (w8.symm ▸ e)).1), T.keep _ _ _ st7 fun b hb ob e => (held b hb ob e).1, fun b hb => ?_, w'⟩
        obtain ⟨ob, e, _⟩ := T.obj _ _ st7 b hb
        exact (held b hb ob e).2
      cases b with
      | false => exact fin I9 q9
      | true =>
        refine thnF (pk.run _ s9 σ8 H9 _ I9 q9) fun z s10 ⟨yk, H10, I10, r10, q10⟩ => ?_
        refine thnF (pv.run _ s10 σ8 H10 _ I10 q10) fun z2 s11 ⟨yv, H11, I11, r11, e, ks, k, hd, kok, rk, k8, rpk, hz, nx⟩ => ?_
        exact set_d (X := X.blk sb Hb scope ce fp) (C := C) hu I11 hd kok (rpK_blk rk) k8 rpk r10 r11 hz fun ob s12 I12 => fin I12 (nx ob)
  exact codeAny_compStart_dict loop (T.self X.A 0 _ _ _ stc loop)
theorem ps_setDk {i : Nat} {y : Str} {py : Pos} {kx vx tg iter : Expr} {ifs : List Expr} {scope : Scope} {own : List (Str × Nat)} {pos spos : Pos} {wi : TI} {g : TG} {tt : TT} {tk tv : TE} (hu : X.A.units + 8 < cLine) (hc : X.calm = true) (hN : X.N.Nodup) (hy : X.N[i]? = some y) (hyl : X.env.scope.names.lookup y = some .local)
    (hsw : swapsWith (.DictComp kx vx [⟨tg, iter, ifs, 0⟩] scope pos) (some (.Name y py)) spos.line X.env = pure true) (hi : PI X tg iter wi) (ok : BlkOk X.N X.env.scope scope own)
    (hg : ∀ (s : Shared) (H : Hp) (a : Addr) (cl : List (Str × Addr)) (fp : List Addr), PG (X.blk s H scope (compEnvC scope cl a X.env) fp) tg g) (ht : ∀ (s : Shared) (H : Hp) (a : Addr) (cl : List (Str × Addr)) (fp : List Addr), PTs (X.blk s H scope (compEnvC scope cl a X.env) fp) ifs tt)
    (hk : ∀ (s : Shared) (H : Hp) (a : Addr) (cl : List (Str × Addr)) (fp : List Addr), PE (X.blk s H scope (compEnvC scope cl a X.env) fp) kx tk) (hv : ∀ (s : Shared) (H : Hp) (a : Addr) (cl : List (Str × Addr)) (fp : List Addr), PE (X.blk s H scope (compEnvC scope cl a X.env) fp) vx tv)
    (hs : ∀ x, foldedSetIterable iter X.env x = pure x) : PS X (.Assign [.Name y py] (.DictComp kx vx [⟨tg, iter, ifs, 0⟩] scope pos) spos) (tAsg (tDk X C wi g tt tk tv (own.map (·.2))) (gName i)) := by
  refine ⟨fun pins s σ H D I h => ?_⟩
  rw [exec_Assign_Name_used _ _ _ _ hsw]
  refine wpAny_bind (wpAny_standAt (wpAny_bind ?_))
  show wpAny _ X.A (do let _ ← comprehension (.DictComp kx vx [⟨tg, iter, ifs, 0⟩] scope pos) scope X.env (firstIterPos [⟨tg, iter, ifs, 0⟩] pos) newDict false (eval iter X.env) (some (assign (.Name y py) X.env))) _ _ s
  have h : tDk X C wi g tt tk tv (own.map (·.2)) σ H (fun x H1 => gName i x σ H1 D.nx) := h
  refine wpAny_bind (thn (dk_core (C := C) (Qf := fun _ s' => SP X pins D .next s') hu hc hN hi ok hg ht hk hv hs I h fun L Cc s' m H' I' q hn f => ?_) fun _ s' hq => wpAny_pure (wpAny_pure hq))
  show wpAny _ _ (assign (.Name y py) X.env (.ref L)) _ _ _
  refine wpAny_assign_Name (store_ok2 (v := V.ref L) I' hN hy (.inl hyl) rfl (fun s2 I2 ⟨a, sb, ha⟩ => ?_) (.inr hyl))
  obtain ⟨f0, f1, f2, f3, f4, f5⟩ := f
  have haC : Cc ≠ a := by
    rcases ha with z | z
    · rw [z]; exact f1
    · exact fun e => f4 y a z e.symm
  refine ⟨m, hn.sameBut sb haC, fun h3 sb3 => ?_⟩
  exact ⟨_, H', I2.turned (t' := s2.toks) (fun b o hb e => (sb3.2 b hb).trans e) f0 f1 f3 f4 f5, q⟩
theorem denS_setDc {is : List Nat} {i : Nat} {y : Str} {py : Pos} {kx vx tg iter : Expr} {ifs : List Expr} {scope : Scope} {own : List (Str × Nat)} {pos spos : Pos} {f : EvI} {k : Tg} {c : EvB} {ek ev : Ev} (hu : X.A.units + 8 < cLine) (hc : X.calm = true) (hN : X.N.Nodup) (hy : X.N[i]? = some y) (hyl : X.env.scope.names.lookup y = some .local)
    (hsw : swapsWith (.DictComp kx vx [⟨tg, iter, ifs, 0⟩] scope pos) (some (.Name y py)) spos.line X.env = pure true) (hi : DenI X C tg iter f) (ok : BlkOk X.N X.env.scope scope own)
    (hg : ∀ (s : Shared) (H : Hp) (a : Addr) (cl : List (Str × Addr)) (fp : List Addr), DenG (X.blk s H scope (compEnvC scope cl a X.env) fp) C tg k) (ht : ∀ (s : Shared) (H : Hp) (a : Addr) (cl : List (Str × Addr)) (fp : List Addr), PTs (X.blk s H scope (compEnvC scope cl a X.env) fp) ifs (tT X C c))
    (hkx : ∀ (s : Shared) (H : Hp) (a : Addr) (cl : List (Str × Addr)) (fp : List Addr), Den (X.blk s H scope (compEnvC scope cl a X.env) fp) C kx ek) (hvx : ∀ (s : Shared) (H : Hp) (a : Addr) (cl : List (Str × Addr)) (fp : List Addr), Den (X.blk s H scope (compEnvC scope cl a X.env) fp) C vx ev)
    (hs : ∀ x, foldedSetIterable iter X.env x = pure x) (hk : ∀ i, i ∈ k.is → i ∈ own.map (·.2)) (hwr : i ∈ is) :
    DenS X C is (.Assign [.Name y py] (.DictComp kx vx [⟨tg, iter, ifs, 0⟩] scope pos) spos) (xSet i (evDc (own.map (·.2)) f k c ek ev)) := by
  refine ⟨fun pins s g H Hf d t F r d' I S q => ?_⟩
  obtain ⟨⟨o, d2⟩, q1, q2⟩ := Option.bind_eq_some_iff.mp q
  split at q2
  · rename_i hl
    cases q2
    obtain ⟨⟨ds, d1⟩, q0, q2⟩ := Option.bind_eq_some_iff.mp q1
    split at q2
    · rename_i hz
      rw [Bool.and_eq_true, decide_eq_true_eq] at hz
      obtain ⟨⟨rs, de⟩, q3, q4⟩ := Option.bind_eq_some_iff.mp q2
      cases q4
      let E : Ends := { nx := fun g' H' => ∃ Hf' F', ST X.K X.w C H' Hf' ((over d1 (own.map (·.2)) de).set i (some (.dic rs))) g' t F' ∧ Go H Hf F H' Hf' F' ∧ Same is g g', rt := fun _ _ => False, bk := fun _ _ => False, ct := fun _ _ => False }
      refine thn ((ps_setDk (X := X) (C := C) (spos := spos) (g := tG X C k) (tk := tE X C ek) (tv := tE X C ev) hu hc hN hy hyl hsw hi.pi ok (fun s H a cl fp => (hg s H a cl fp).pg) ht (fun s H a cl fp => (hkx s H a cl fp).pe) (fun s H a cl fp => (hvx s H a cl fp).pe) hs).run pins s g H E I
        (show tDk X C (tI X C f) (tG X C k) (tT X C c) (tE X C ek) (tE X C ev) (own.map (·.2)) g H (fun x H1 => gName i x g H1 E.nx) from tdk_ok hk S q0 hz.1 hz.2 q3 fun v H' Hf' F' S' go => ?_)) fun f s' z => ?_
      · obtain ⟨S2, g2⟩ := S'.store hl
        exact ⟨Hf', _, S2, go.trans g2, Same.setm hwr⟩
      · cases f with
        | next =>
          obtain ⟨g', H', I', Hf', F', S', go, sm⟩ := z
          exact ⟨g', H', Hf', F', I', S', go, sm⟩
        | ret u =>
          obtain ⟨_, _, _, _, _, z⟩ := z
          exact z.elim
        | brk =>
          obtain ⟨_, _, _, z⟩ := z
          exact z.elim
        | cont =>
          obtain ⟨_, _, _, z⟩ := z
          exact z.elim
    · cases q2
  · cases q2
end
end Pd
set_option maxHeartbeats 1000000
/-! Pd43: the sort by insertion, which can be reckoned. -/
namespace Pd
open PySem L2 PyProof.Rows
def insBy {α : Type} (le : α → α → Bool) (x : α) : List α → List α
  | [] => [x]
  | y :: ys => if le x y = true then x :: y :: ys else y :: insBy le x ys
def isortBy {α : Type} (le : α → α → Bool) : List α → List α
  | [] => []
  | x :: xs => insBy le x (isortBy le xs)
section
variable {α : Type} {le : α → α → Bool}
theorem mem_insBy {x z : α} : ∀ {l : List α}, z ∈ insBy le x l → z = x ∨ z ∈ l
  | [], h => .inl (List.mem_singleton.mp h)
  | y :: ys, h => by
    unfold insBy at h
    split at h
    · exact List.mem_cons.mp h
    · rcases List.mem_cons.mp h with e | h
      · exact .inr (e ▸ List.mem_cons_self)
      · exact (mem_insBy h).imp id fun q => List.mem_cons_of_mem _ q
theorem insBy_sorted (T : PySem.W.TotalLe le) {x : α} : ∀ {l : List α}, l.Pairwise (fun a b => le a b = true) → (insBy le x l).Pairwise fun a b => le a b = true
  | [], _ => List.pairwise_singleton _ _
  | y :: ys, h => by
    unfold insBy
    obtain ⟨h1, h2⟩ := List.pairwise_cons.mp h
    split
    · rename_i hle
      refine List.pairwise_cons.mpr ⟨fun z hz => ?_, h⟩
      rcases List.mem_cons.mp hz with e | hz
      · rw [e]; exact hle
      · exact T.trans _ _ _ hle (h1 z hz)
    · rename_i hle
      refine List.pairwise_cons.mpr ⟨fun z hz => ?_, insBy_sorted T h2⟩
      rcases mem_insBy hz with e | hz
      · rw [e]
        exact (T.total x y).resolve_left hle
      · exact h1 z hz
theorem insBy_rank (T : PySem.W.TotalLe le) {x c : α} : ∀ {l : List α}, (insBy le x l).filter (PySem.W.sameRank le c) = (x :: l).filter (PySem.W.sameRank le c)
  | [] => rfl
  | y :: ys => by
    unfold insBy
    split
    · rfl
    · rename_i hle
      rw [List.filter_cons, insBy_rank T (l := ys), List.filter_cons, List.filter_cons, List.filter_cons]
      cases hx : PySem.W.sameRank le c x with
      | false => simp
      | true =>
        cases hy : PySem.W.sameRank le c y with
        | false => simp
        | true =>
          exfalso
          unfold PySem.W.sameRank at hx hy
          rw [Bool.and_eq_true] at hx hy
          exact hle (by first | exact T.trans _ _ _ hx.2 hy.1 | exact T.trans _ _ _ hx.1 hy.2)
theorem isortBy_eq (T : PySem.W.TotalLe le) (l : List α) : isortBy le l = l.mergeSort le := by
  refine PySem.W.sort_unique T ?_ fun c => ?_
  · induction l with
    | nil => exact List.Pairwise.nil
    | cons x xs ih => exact insBy_sorted T ih
  · induction l with
    | nil => rfl
    | cons x xs ih =>
      show (insBy le x (isortBy le xs)).filter _ = _
      rw [insBy_rank T, List.filter_cons, List.filter_cons, ih]
end
theorem pyLe_total : PySem.W.TotalLe pyLe := PySem.W.sortLe_total (listOrd itemOrd) false fun b => PySem.W.keyToks (D.py b)
def isortD (ds : List D) : List D := isortBy pyLe ds
theorem isortD_eq (ds : List D) : isortD ds = sortD ds := isortBy_eq pyLe_total ds
def rSortedI : List D → Option O
  | [a] => a.seqs.bind fun ds => if D.sortable ds = true then some (O.ofL (isortD ds)) else none
  | _ => none
theorem rSortedI_eq : rSortedI = rSorted := by
  funext as
  rcases as with _ | ⟨a, _ | ⟨b, r⟩⟩
  · rfl
  · show (a.seqs.bind fun ds => if D.sortable ds = true then some (O.ofL (isortD ds)) else none) = (a.seqs.bind fun ds => if D.sortable ds = true then some (O.ofL (sortD ds)) else none)
    simp only [isortD_eq]
  · rfl
def rSortSetI (a : D) : Option O := a.txs.bind fun ks => if ks.length ≤ 60 ∧ D.sortable ((addAll [] ks).map D.str) = true then some (O.ofL (isortD ((addAll [] ks).map D.str))) else none
theorem rSortSetI_eq : rSortSetI = rSortSet := by
  funext a
  unfold rSortSetI rSortSet
  simp only [isortD_eq]
end Pd
set_option maxHeartbeats 1000000
/-! Pc0: names and scopes; the table of defs; what a def's body may lean on. -/
namespace Pd
open PySem L2 PyProof.Rows

/-! ### names -/
def nmOk (x : Str) : Bool := !(x == ("__debug__" : Str)) && (!(x == ("__classdict__" : Str)) && !decide (x = ("__name__" : Str)))
theorem nmOk_d {x : Str} (h : nmOk x = true) : (x == ("__debug__" : Str)) = false := by
  unfold nmOk at h
  simp only [Bool.and_eq_true, Bool.not_eq_true'] at h
  exact h.1
theorem nmOk_c {x : Str} (h : nmOk x = true) : (x == ("__classdict__" : Str)) = false := by
  unfold nmOk at h
  simp only [Bool.and_eq_true, Bool.not_eq_true'] at h
  exact h.2.1
theorem nmOk_n {x : Str} (h : nmOk x = true) : x ≠ ("__name__" : Str) := by
  unfold nmOk at h
  simp only [Bool.and_eq_true, Bool.not_eq_true', decide_eq_false_iff_not] at h
  exact h.2.2
def ixOf : List Str → Str → Option Nat
  | [], _ => none
  | y :: ys, x => if y = x then some 0 else (ixOf ys x).map (· + 1)
theorem ixOf_ok : ∀ {N : List Str} {x : Str} {i : Nat}, ixOf N x = some i → N[i]? = some x
  | [], _, _, h => by cases h
  | y :: ys, x, i, h => by
    unfold ixOf at h
    split at h
    · rename_i e
      cases h
      rw [e]; rfl
    · cases q : ixOf ys x with
      | none => rw [q] at h; cases h
      | some j =>
        rw [q] at h
        cases h
        simpa using ixOf_ok q
theorem ixOf_none : ∀ {N : List Str} {x : Str}, ixOf N x = none → x ∉ N
  | [], _, _ => List.not_mem_nil
  | y :: ys, x, h => by
    unfold ixOf at h
    split at h
    · cases h
    · rename_i e
      cases q : ixOf ys x with
      | some j => rw [q] at h; cases h
      | none =>
        intro z
        rcases List.mem_cons.mp z with z | z
        · exact e z.symm
        · exact ixOf_none q z
/-- where an expression stands: the block's scope; top: the def's own block -/
structure Sx where
  top : Bool
  sc : Scope
def visB (sc : Scope) (x : Str) : Bool := match sc.names.lookup x with
  | some .local => true
  | some .cell => true
  | some .free => true
  | _ => false
theorem visB_ok {sc : Scope} {x : Str} (h : visB sc x = true) : Vis sc x := by
  unfold visB at h
  split at h
  · exact .inl (by assumption)
  · exact .inr (.inl (by assumption))
  · exact .inr (.inr (by assumption))
  · cases h
def locB (s : Sx) (x : Str) : Bool := match s.sc.names.lookup x with
  | some .local => true
  | some .cell => s.top
  | _ => false
theorem locB_ok {s : Sx} {x : Str} (h : locB s x = true) : Loc s.sc x ∧ (s.top = true ∨ s.sc.names.lookup x = some .local) := by
  unfold locB at h
  split at h
  · exact ⟨.inl (by assumption), .inr (by assumption)⟩
  · exact ⟨.inr (by assumption), .inl h⟩
  · cases h
def lclB (s : Sx) (x : Str) : Bool := match s.sc.names.lookup x with
  | some .local => true
  | _ => false
theorem lclB_ok {s : Sx} {x : Str} (h : lclB s x = true) : s.sc.names.lookup x = some .local := by
  unfold lclB at h
  split at h
  · assumption
  · cases h
def glB (s : Sx) (x : Str) : Bool := match s.sc.names.lookup x with
  | some .globalImplicit => nmOk x
  | _ => false
theorem glB_ok {s : Sx} {x : Str} (h : glB s x = true) : s.sc.names.lookup x = some .globalImplicit ∧ nmOk x = true := by
  unfold glB at h
  split at h
  · exact ⟨by assumption, h⟩
  · cases h
def slotOf (N : List Str) (s : Sx) (x : Str) : Option Nat := if visB s.sc x && nmOk x then ixOf N x else none
theorem slotOf_ok {N : List Str} {s : Sx} {x : Str} {i : Nat} (h : slotOf N s x = some i) : N[i]? = some x ∧ Vis s.sc x ∧ nmOk x = true := by
  unfold slotOf at h
  split at h
  · rename_i e
    rw [Bool.and_eq_true] at e
    exact ⟨ixOf_ok h, visB_ok e.1, e.2⟩
  · cases h

/-! ### trees -/
def isStar : Expr → Bool
  | .Starred _ _ => true
  | _ => false
def noStar (es : List Expr) : Bool := es.all fun e => !isStar e
theorem star_cons {e : Expr} {es : List Expr} {env : Env} (h : isStar e = false) : starEach (e :: es) env = (false, eval e env) :: starEach es env := by
  cases e <;> first | rfl | cases h
theorem noStar_cons {e : Expr} {es : List Expr} (h : noStar (e :: es) = true) : isStar e = false ∧ noStar es = true := by
  unfold noStar at h ⊢
  simpa using h
theorem star_one {e : Expr} {env : Env} (h : isStar e = false) : starEach [e] env = [(false, eval e env)] := star_cons h
theorem star_any_ {pos : Pos} {env : Env} : ∀ {es : List Expr}, noStar es = true → (backTo pos (starEach es env)).any (·.1) = false
  | [], _ => rfl
  | e :: es, h => by
    obtain ⟨h1, h2⟩ := noStar_cons h
    rw [star_cons h1]
    show (false || (backTo pos (starEach es env)).any (·.1)) = false
    rw [star_any_ h2]
    rfl
theorem star_all_ {pos : Pos} {env : Env} : ∀ {es : List Expr}, noStar es = true → (backTo pos (starEach es env)).all (fun x => !x.1) = true
  | [], _ => rfl
  | e :: es, h => by
    obtain ⟨h1, h2⟩ := noStar_cons h
    rw [star_cons h1]
    show (true && (backTo pos (starEach es env)).all (fun x => !x.1)) = true
    rw [star_all_ h2]
    rfl
theorem few_ {pos : Pos} {env : Env} {es : List Expr} (h : noStar es = true) (h2 : es.length < 29) :
    ((backTo pos (starEach es env)).all (fun x => !x.1) && (backToKw pos (keywordEach [] env)).all (fun x => x.1.isSome) && decide (es.length + ([] : List Keyword).length + (if ([] : List Keyword).isEmpty then 0 else 1) < 30)) = true := by
  rw [star_all_ h]
  show (true && true && decide (es.length + 0 + 0 < 30)) = true
  simp
  omega
theorem backTo_one {pos : Pos} {e : Expr} {env : Env} (h : isStar e = false) : backTo pos (starEach [e] env) = [(false, eval e env)] := by
  rw [star_one h]; rfl
theorem backTo_two {pos : Pos} {a b : Expr} {env : Env} (ha : isStar a = false) (hb : isStar b = false) : backTo pos (starEach [a, b] env) = [(false, eval a env), (false, eval b env)] := by
  rw [star_cons ha, star_one hb]; rfl
/-- no call without arguments of a name -/
def baseOk : Expr → Bool
  | .Call (.Name _ _) [] [] _ => false
  | _ => true
theorem base_ok {o : Expr} {f : Str} {env : Env} {m : Sem Value} (h : baseOk o = true) : attributeBase o f env m = m := by
  unfold attributeBase
  split
  · cases h
  · rfl
def notSet : Expr → Bool
  | .Set _ _ _ => false
  | _ => true
theorem notSet_ok {e : Expr} {env : Env} {x : Value} (h : notSet e = true) : foldedSetIterable e env x = pure x := by
  unfold foldedSetIterable
  cases e <;> first | rfl | cases h
theorem notSet_in {op : CmpOp} {e : Expr} (h : notSet e = true) : behindInMarks op e = false := by
  cases e <;> first | rfl | cases h
def notComp : Expr → Bool
  | .ListComp _ _ _ _ => false
  | .SetComp _ _ _ _ => false
  | .DictComp _ _ _ _ _ => false
  | _ => true
theorem notComp_ok {e : Expr} {t : Option Expr} {l : Nat} {env : Env} (h : notComp e = true) : swapsWith e t l env = pure false := by
  unfold swapsWith
  cases e <;> first | rfl | cases h
def notSlice : Expr → Bool
  | .Slice _ _ _ _ => false
  | _ => true
theorem notSlice_ok {e : Expr} (h : notSlice e = true) : PlainIx e := by
  intro o i
  cases e <;> first | rfl | cases h
/-- a method's call as a tree -/
theorem call_form {o : Expr} {name : Str} {apos pos : Pos} {args : List Expr} {env : Env} (hb : attributeBase o name env (eval o env) = eval o env)
    (hfew : ((backTo pos (starEach args env)).all (fun x => !x.1) && (backToKw pos (keywordEach [] env)).all (fun x => x.1.isSome) && decide (args.length + ([] : List Keyword).length + (if ([] : List Keyword).isEmpty then 0 else 1) < 30)) = true)
    (hline : (apos.endLine == pos.line) = true) :
    eval (.Call (.Attribute o name apos) args [] pos) env = (do
      let ov ← eval o env
      standAt apos.atName
      let (f, first) ← holding [ov] (getMethod ov name (do return (← importBound o env).getD true))
      callWith pos f first (backTo pos (starEach args env)) (backToKw pos (keywordEach [] env))) := by
  have hf : methodCallForm (args.length + ([] : List Keyword).length) (backTo pos (starEach args env)) (backToKw pos (keywordEach [] env)) = true := hfew
  have hp : methodCallPos true o env apos pos = pure pos := by
    unfold methodCallPos
    rw [hline]
    rfl
  rw [arm_eval_Call, hb]
  unfold methodCall
  rw [hf, hp]
  rfl
end Pd
set_option maxHeartbeats 1000000
/-! Pc1: tables; expressions compiled. -/
namespace Pd
open PySem L2 PyProof.Rows

/-- what a body may call and read -/
structure GC where
  fe : List Fe := []
  fm : List FeM := []
  fc : List FeC := []
  fp : List FeP := []
  fs : List FeS := []
  fld : List (Str × Str) := []
  gi : List (Str × Int) := []
  gs : List (Str × Str) := []
def bnames : List Str := ["len", "set", "sorted", "list", "tuple", "isinstance", "int", "bool", "str", "dict", "max", "min", "range", "enumerate", "repr", "zip", "reversed", "sum", "any", "all"]
def biN (x : Str) : Bool := decide (x ∈ bnames)

/-- alternatives: the first that answers -/
def orE (f g : Ev) : Ev := fun d => match f d with
  | some r => some r
  | none => g d
def orB (f g : EvB) : EvB := fun d => match f d with
  | some r => some r
  | none => g d
def orX (f g : Ex) : Ex := fun d => match f d with
  | some r => some r
  | none => g d
def anyE : List Ev → Option Ev
  | [] => none
  | [f] => some f
  | f :: fs => (anyE fs).map (orE f)

def anyB : List EvB → Option EvB
  | [] => none
  | [f] => some f
  | f :: fs => (anyB fs).map (orB f)

structure Lv where
  E : Sx → Expr → Option Ev
  T : Sx → Expr → Option EvB

/-! ### operators -/
def cmpI (k : Int → Int → Bool) : D → D → Option O := onInts fun i j => some (.bl (k i j))
def rIn (neg : Bool) : D → D → Option O := alt (rInL neg) (alt (rInT neg) (alt (rInD' neg) (both D.asStr (kInS neg))))
def rCmp : CmpOp → D → D → Option O
  | .Eq => rEq
  | .NotEq => rNe
  | .Lt => cmpI fun i j => decide (i < j)
  | .LtE => alt (cmpI fun i j => decide (i ≤ j)) (both D.asStr fun i j => some (.val (.bl (!decide (j.cps.toList < i.cps.toList)))))
  | .Gt => cmpI fun i j => decide (j < i)
  | .GtE => cmpI fun i j => decide (j ≤ i)
  | .In => rIn false
  | .NotIn => rIn true
  | .Is => rIsN false
  | .IsNot => rIsN true

/-! ### built-ins -/
structure BiE where
  name : Str
  isTy : Bool
  id : String
  r : List D → Option O
def biL : List BiE := [⟨"len", false, "len", rLen⟩, ⟨"sorted", false, "sorted", rSortedI⟩, ⟨"list", true, "list", rList⟩, ⟨"tuple", true, "tuple", rTuple⟩, ⟨"isinstance", false, "isinstance", rIsi⟩, ⟨"int", true, "int", rInt1⟩,
  ⟨"max", false, "max", rMax⟩, ⟨"min", false, "min", rMin⟩]
structure MtE where
  T : String
  name : Str
  id : String
  r : List D → Option O
def mtL : List MtE := [⟨"dict", "get", "dict.get", mGet⟩]
def tyOf (x : Str) : Option Ty :=
  if x = "int" then some .int else if x = "bool" then some .bool else if x = "str" then some .str else if x = "list" then some .list else if x = "tuple" then some .tuple else if x = "dict" then some .dict else none

section
variable (G : GC) (N : List Str)

def cConst : Const → Option D
  | .none => some .non
  | .bool b => some (.bl b)
  | .int i => some (.int i)
  | .str x => some (.str x)
  | _ => none
def cName (s : Sx) (x : Str) : Option Ev := match slotOf N s x with
  | some i => some (evVar i)
  | none => if glB s x then (match G.gi.find? (fun p => decide (p.1 = x)) with
    | some p => some (evC (.int p.2))
    | none => match G.gs.find? (fun p => decide (p.1 = x)) with
      | some p => some (evC (.str p.2))
      | none => match G.fc.find? (fun p => decide (p.name = x)) with
        | some p => some (evC (.glo p.name))
        | none => if biN x then (tyOf x).map fun n => evC (.ty n) else none) else none
/-- a slot that is a name of the def's own -/
def nmSlot (s : Sx) : Expr → Option Nat
  | .Name x _ => slotOf N s x
  | _ => none
variable (L : Lv)
def opn (s : Sx) (e : Expr) : Option Opn := match nmSlot N s e with
  | some i => some (.slot i)
  | none => (L.E s e).map .ex
def opns (s : Sx) : List Expr → Option (List Opn)
  | [] => some []
  | e :: es => (opn N L s e).bind fun p => (opns s es).bind fun ps => some (p :: ps)
def exs (s : Sx) : List Expr → Option (List Opn)
  | [] => some []
  | e :: es => (L.E s e).bind fun p => (exs s es).bind fun ps => some (.ex p :: ps)
def evs (s : Sx) : List Expr → Option (List Ev)
  | [] => some []
  | e :: es => (L.E s e).bind fun p => (evs s es).bind fun ps => some (p :: ps)
def sts (s : Sx) : List Expr → Option (List (Bool × Ev))
  | [] => some []
  | .Starred e _ :: es => (L.E s e).bind fun p => (sts s es).bind fun ps => some ((true, p) :: ps)
  | e :: es => (L.E s e).bind fun p => (sts s es).bind fun ps => some ((false, p) :: ps)
def pairsE (s : Sx) : List (Option Expr) → List Expr → Option (List (Ev × Ev))
  | [], [] => some []
  | some k :: ks, v :: vs => (L.E s k).bind fun fk => (L.E s v).bind fun fv => (pairsE s ks vs).bind fun r => some ((fk, fv) :: r)
  | _, _ => none
def andE (f : Expr → Option Ev) : List Expr → Option Ev
  | [] => none
  | [a] => f a
  | a :: b :: r => (f a).bind fun x => (andE f (b :: r)).bind fun y => some (evAnd x y)
def orsE (f : Expr → Option Ev) : List Expr → Option Ev
  | [] => none
  | [a] => f a
  | a :: b :: r => (f a).bind fun x => (orsE f (b :: r)).bind fun y => some (evOr x y)
def andT (f : Expr → Option EvB) : List Expr → Option EvB
  | [] => none
  | [a] => f a
  | a :: b :: r => (f a).bind fun x => (andT f (b :: r)).bind fun y => some (tbAnd x y)
def orsT (f : Expr → Option EvB) : List Expr → Option EvB
  | [] => none
  | [a] => f a
  | a :: b :: r => (f a).bind fun x => (orsT f (b :: r)).bind fun y => some (tbOr x y)

/-! ### targets, what is walked -/
def nmIx (s : Sx) : List Expr → Option (List Nat)
  | [] => some []
  | .Name x _ :: es => if locB s x then (ixOf N x).bind fun i => (nmIx s es).bind fun is => some (i :: is) else none
  | _ => none
def cTg (s : Sx) : Expr → Option Tg
  | .Name x _ => if locB s x then (ixOf N x).map .name else none
  | .Tuple es _ _ => (nmIx N s es).map .tup
  | _ => none
def isTupE : Expr → Bool
  | .Tuple _ _ _ => true
  | _ => false
def cIterC (s : Sx) (tg : Expr) (x : Str) (args : List Expr) : Option EvI :=
  if glB s x && biN x && noStar args then
    if x = "range" then (exs L s args).bind fun ps => (match args with
      | [_] => some (evSrc rng1 ps)
      | [_, _] => some (evSrc rng2 ps)
      | [_, _, _] => some (evSrc rng3 ps)
      | _ => none)
    else if x = "enumerate" then (if isTupE tg then (match args with
      | [_] => (exs L s args).map fun ps => evSrc enumOf ps
      | _ => none) else none)
    else none
  else none
def cIterV (s : Sx) : Expr → Option EvI
  | .Call (.Attribute e f apos) [] [] cpos => if decide (f = "values") && baseOk e && (apos.endLine == cpos.line) then (L.E s e).map evVals else none
  | _ => none
def cIter (s : Sx) (tg : Expr) (e : Expr) : Option EvI :=
  match (match e with
    | .Call (.Name x _) args [] _ => cIterC L s tg x args
    | _ => none) with
  | some f => some f
  | none => match cIterV L s e with
    | some f => some f
    | none => (L.E s e).map evIt
def cIfs (s : Sx) : List Expr → Option EvB
  | [] => some cYes
  | [c] => L.T s c
  | _ => none

/-! ### comprehensions -/
def ownOf (scope : Scope) : List (Str × Nat) := scope.names.filterMap fun y => if y.2 = .local ∨ y.2 = .cell then (ixOf N y.1).map fun i => (y.1, i) else none
def rel (scope sc : Scope) : Scope := { scope with names := scope.names.map fun (n, k) => if (k == .free && sc.kind == .function && sc.names.lookup n == some .cell) then (n, .cell) else (n, k) }
def blkB (sc scope : Scope) : Bool := decide (scope.kind = .function) && (scope.names.all fun y => decide (scope.names.lookup y.1 = some y.2)) &&
  (scope.names.all fun y => !decide (y.2 = .free) || (decide (sc.names.lookup y.1 = some .cell) || decide (sc.names.lookup y.1 = some .free)))
def inside (is vs : List Nat) : Bool := is.all fun i => decide (i ∈ vs)
def Sx.blk (s : Sx) (scope : Scope) : Sx := ⟨false, rel scope s.sc⟩
def cLc (s : Sx) (elt : Expr) (gens : List Comprehension) (scope : Scope) : Option Ev :=
  if blkB s.sc scope then
    let own := ownOf N scope
    let s' := s.blk scope
    match gens with
    | [⟨tg, iter, ifs, a⟩] => if a = 0 ∧ notSet iter = true then (cIter L s tg iter).bind fun f => (cTg N s' tg).bind fun k => (cIfs L s' ifs).bind fun c => (L.E s' elt).bind fun e =>
        if inside k.is (own.map (·.2)) then some (evLc (own.map (·.2)) f k c e) else none else none
    | [⟨tg, iter, ifs, a⟩, ⟨tg1, iter1, ifs1, a1⟩] => if a = 0 ∧ notSet iter = true ∧ a1 = 0 ∧ notSet iter1 = true then (cIter L s tg iter).bind fun f => (cTg N s' tg).bind fun k => (cIfs L s' ifs).bind fun c =>
        (cIter L s' tg1 iter1).bind fun f1 => (cTg N s' tg1).bind fun k1 => (cIfs L s' ifs1).bind fun c1 => (L.E s' elt).bind fun e =>
        if inside k.is (own.map (·.2)) && inside k1.is (own.map (·.2)) then some (evLc2 (own.map (·.2)) k1.is f k c f1 k1 c1 e) else none else none
    | _ => none
  else none
def cDc (s : Sx) (kx vx : Expr) (gens : List Comprehension) (scope : Scope) : Option Ev :=
  if blkB s.sc scope then
    let own := ownOf N scope
    let s' := s.blk scope
    match gens with
    | [⟨tg, iter, ifs, a⟩] => if a = 0 ∧ notSet iter = true then (cIter L s tg iter).bind fun f => (cTg N s' tg).bind fun k => (cIfs L s' ifs).bind fun c => (L.E s' kx).bind fun ek => (L.E s' vx).bind fun ev =>
        if inside k.is (own.map (·.2)) then some (evDc (own.map (·.2)) f k c ek ev) else none else none
    | [⟨tg, iter, ifs, a⟩, ⟨tg1, iter1, ifs1, a1⟩] => if a = 0 ∧ notSet iter = true ∧ a1 = 0 ∧ notSet iter1 = true then (cIter L s tg iter).bind fun f => (cTg N s' tg).bind fun k => (cIfs L s' ifs).bind fun c =>
        (cIter L s' tg1 iter1).bind fun f1 => (cTg N s' tg1).bind fun k1 => (cIfs L s' ifs1).bind fun c1 => (L.E s' kx).bind fun ek => (L.E s' vx).bind fun ev =>
        if inside k.is (own.map (·.2)) && inside k1.is (own.map (·.2)) then some (evDc2 (own.map (·.2)) k1.is f k c f1 k1 c1 ek ev) else none else none
    | _ => none
  else none

/-! ### calls -/
def cBi (s : Sx) (x : Str) (args : List Expr) : Option Ev := if biN x then (biL.find? (fun b => decide (b.name = x))).bind fun b => (opns N L s args).bind fun ps => match args with
  | [] => none
  | _ :: _ => some (evN ps b.r) else none
def cSetOf (s : Sx) (x : Str) : List Expr → Option Ev
  | [.Call (.Name y _) [a] [] _] => if glB s y && decide (y = "set") && !isStar a then (if x = "len" then (opn N L s a).map fun p => evN [p] (r1 rLenSet) else if x = "sorted" then (opn N L s a).map fun p => evN [p] (r1 rSortSetI) else none) else none
  | _ => none
def cFm (s : Sx) (fm : FeM) : List Expr → Option Ev
  | a :: rest => (nmSlot N s a).bind fun i => (exs L s rest).map fun ps => evM i ps fm.n fm.fn
  | [] => none
def cDef (s : Sx) (x : Str) (args : List Expr) : Option Ev := match G.fe.find? (fun e => decide (e.name = x)) with
  | some e => (exs L s args).map fun ps => evCall ps e.n e.fn
  | none => match G.fm.find? (fun e => decide (e.name = x)) with
    | some e => cFm N L s e args
    | none => match G.fc.find? (fun e => decide (e.name = x)) with
      | some e => (match args with
        | [] => none
        | _ :: _ => (exs L s args).map fun ps => evV ps (mkOf e.name e.n e.fn))
      | none => match cSetOf N L s x args with
        | some f => some f
        | none => cBi N L s x args
def isEmptyL : Expr → Bool
  | .List [] _ => true
  | _ => false
def qNm (s : Sx) (e : Expr) : Option EvQ := (nmSlot N s e).map qVar
/-- x.setdefault(k, []).append(y) -/
def cSd (s : Sx) : Expr → Str → Pos → List Expr → Pos → Option Ev
  | .Call (.Attribute x m apos) [k, l] [] cpos, f, apos2, [y], cpos2 =>
    if decide (f = "append") && decide (m = "setdefault") && isEmptyL l && noStar [k, l] && noStar [y] && (apos.endLine == cpos.line) && (apos2.endLine == cpos2.line) then
      (nmSlot N s x).bind fun i => (L.E s k).bind fun fk => (qNm N s y).map fun q => evSdA i fk q else none
  | _, _, _, _, _ => none
/-- x.append(e) -/
def cAp (s : Sx) (o : Expr) (f : Str) (apos : Pos) (args : List Expr) (cpos : Pos) : Option Ev := match args with
  | [e] => if decide (f = "append") && noStar [e] && (apos.endLine == cpos.line) then (nmSlot N s o).bind fun i => (L.E s e).map fun g => evApp i g else none
  | _ => none
def cMtB (s : Sx) (o : Expr) (f : Str) (apos : Pos) (args : List Expr) (cpos : Pos) (m : MtE) : Option Ev :=
  if decide (m.name = f) && baseOk o && noStar args && decide (args.length < 29) && (apos.endLine == cpos.line) then (opn N L s o).bind fun p => (opns N L s args).map fun ps => evMeth m.T p ps m.r else none
def cMtS (s : Sx) (o : Expr) (f : Str) (apos : Pos) (args : List Expr) (cpos : Pos) (m : FeS) : Option Ev :=
  if decide (m.name = f) && baseOk o && noStar args && decide (args.length < 29) && (apos.endLine == cpos.line) then (L.E s o).bind fun p => (match args with
    | [] => none
    | _ :: _ => (exs L s args).map fun ps => evMethV m.cls m.name m.n m.fn p ps) else none
def cMeth (s : Sx) (o : Expr) (f : Str) (apos : Pos) (args : List Expr) (cpos : Pos) : Option Ev := match cSd N L s o f apos args cpos with
  | some g => some g
  | none => match cAp N L s o f apos args cpos with
    | some g => some g
    | none => anyE (mtL.filterMap (cMtB N L s o f apos args cpos) ++ G.fs.filterMap (cMtS L s o f apos args cpos))
def cCall (s : Sx) (fn : Expr) (args : List Expr) (pos : Pos) : Option Ev := match fn with
  | .Name x _ => if glB s x && noStar args then cDef G N L s x args else none
  | .Attribute o f apos => cMeth G N L s o f apos args pos
  | _ => none

/-! ### the rest -/
def cAttr (s : Sx) (e : Expr) (f : Str) : Option Ev := if baseOk e then
    anyE (G.fld.filterMap (fun p => if p.2 = f then (opn N L s e).map fun q => evN [q] (r1 (insOf p.1 f)) else none) ++ G.fp.filterMap fun p => if p.name = f then (L.E s e).map fun q => evProp p.cls p.fn q else none) else none
def rIx : D → D → Option O := alt ixL (alt ixT (alt ixC (alt ixS ixD)))
def opnO (s : Sx) : Option Expr → Option (Option Opn)
  | none => some none
  | some e => (opn N L s e).map some
def cSub (s : Sx) (a b : Expr) : Option Ev := match b with
  | .Slice lo hi none _ => (opn N L s a).bind fun p => (opnO N L s lo).bind fun l => (opnO N L s hi).map fun h => evSlice p l h
  | b => if notSlice b then (opn N L s a).bind fun p => (opn N L s b).map fun q => evN [p, q] (r2 rIx) else none
def cCmpF (s : Sx) (a : Expr) (op : CmpOp) (b : Expr) : List Ev := match b with
  | .Attribute x f _ => (match nmSlot N s x with
    | some i => G.fld.filterMap fun p => if p.2 = f then (opn N L s a).map fun q => evCmpF q p.1 f i (rCmp op) else none
    | none => [])
  | _ => []
def cCmp (s : Sx) (a : Expr) (ops : List CmpOp) (cs : List Expr) : Option Ev := match ops, cs with
  | [op], [b] => if notSet b then anyE (cCmpF G N L s a op b ++ (match opn N L s a, opn N L s b with
    | some p, some q => [evN [p, q] (r2 (rCmp op))]
    | _, _ => [])) else none
  | [op, op'], [b, c] => if notSet c then (opn N L s a).bind fun p => (opn N L s b).bind fun q => (opn N L s c).map fun r => evChain p q r (rCmp op) (rCmp op') else none
  | _, _ => none
def cCmpT (s : Sx) (a : Expr) (ops : List CmpOp) (cs : List Expr) : Option EvB := match ops, cs with
  | [op], [b] => if notSet b then anyB ((cCmpF G N L s a op b).map evB ++ (match opn N L s a, opn N L s b with
    | some p, some q => [evB (evN [p, q] (r2 (rCmp op)))]
    | _, _ => [])) else none
  | [op, op'], [b, c] => if notSet c then (opn N L s a).bind fun p => (opn N L s b).bind fun q => (opn N L s c).map fun r => evB (evChain p q r (rCmp op) (rCmp op')) else none
  | _, _ => none
def stepE (s : Sx) : Expr → Option Ev
  | .Constant c _ _ => (cConst c).map evC
  | .Name x _ => cName G N s x
  | .BoolOp .And vs _ => andE (L.E s) vs
  | .BoolOp .Or vs _ => orsE (L.E s) vs
  | .UnaryOp .Not a _ => (L.E s a).map evNot
  | .UnaryOp .USub a _ => (opn N L s a).map fun p => evN [p] (r1 rNeg)
  | .BinOp a op b _ => (rBin op).bind fun r => (opn N L s a).bind fun p => (opn N L s b).map fun q => evN [p, q] (r2 r)
  | .Compare a ops cs _ => cCmp G N L s a ops cs
  | .IfExp c a b _ => (L.T s c).bind fun t => (L.E s a).bind fun f => (L.E s b).map fun g => evIf t f g
  | .Tuple es _ _ => (sts L s es).map evTupS
  | .List es _ => (sts L s es).map evLstS
  | .Dict ks vs _ => if ks.isEmpty && vs.isEmpty then some evDic0 else if decide (ks.length ≤ 15) then (pairsE L s ks vs).map evDisp else none
  | .ListComp elt gens scope _ => cLc N L s elt gens scope
  | .DictComp kx vx gens scope _ => cDc N L s kx vx gens scope
  | .Subscript a b _ => cSub N L s a b
  | .Attribute e f _ => cAttr G N L s e f
  | .Call fn args [] pos => cCall G N L s fn args pos
  | _ => none
def isPlainT : Expr → Bool
  | .Name _ _ => true
  | .Call _ _ _ _ => true
  | .Attribute _ _ _ => true
  | .Subscript _ _ _ => true
  | .Constant _ _ _ => true
  | _ => false
def stepT (s : Sx) : Expr → Option EvB
  | .BoolOp .And vs _ => andT (L.T s) vs
  | .BoolOp .Or vs _ => orsT (L.T s) vs
  | .UnaryOp .Not a _ => (L.T s a).map tbNot
  | .Compare a ops cs _ => cCmpT G N L s a ops cs
  | e => if isPlainT e then (L.E s e).map evB else none
def stepL : Lv := ⟨stepE G N L, stepT G N L⟩
def lvl : Nat → Lv
  | 0 => ⟨fun _ _ => none, fun _ _ => none⟩
  | n + 1 => stepL G N (lvl n)
end
end Pd
set_option maxHeartbeats 1000000
/-! Pc2: what a body may lean on; names, operators, lists of operands. -/
namespace Pd
open PySem L2 PyProof.Rows

structure GOk (X : Cx) (C : Str → Option Addr) (G : GC) : Prop where
  fe : ∀ f, f ∈ G.fe → FeOk X C f
  fm : ∀ f, f ∈ G.fm → FeMOk X C f
  fc : ∀ f, f ∈ G.fc → FeCOk X C f
  fp : ∀ f, f ∈ G.fp → FePOk X C f
  fs : ∀ f, f ∈ G.fs → FeSOk X C f
  fld : ∀ p, p ∈ G.fld → ∃ cl, ClsF X C p.1 cl ∧ NoAttr X.K cl p.2
  gi : ∀ p, p ∈ G.gi → ∃ t, X.mg p.1 = some (.int p.2 t)
  gs : ∀ p, p ∈ G.gs → ∃ t, X.mg p.1 = some (.str p.2 t)
  bi : ∀ x, biN x = true → X.mg x = none
structure Ok (C : Str → Option Addr) (G : GC) (N : List Str) (s : Sx) (X : Cx) : Prop where
  N_ : X.N = N
  nd : N.Nodup
  sc_ : X.env.scope = s.sc
  calm : X.calm = true
  fn : s.top = true → ∀ x, X.fn x = true
  un : X.A.units + 100 < cLine
  g : GOk X C G
variable {C : Str → Option Addr} {G : GC} {N : List Str} {s : Sx} {X : Cx} {L : Lv}
structure LvOk (C : Str → Option Addr) (G : GC) (N : List Str) (L : Lv) : Prop where
  E : ∀ (X : Cx) (s : Sx) (e : Expr) (f : Ev), Ok C G N s X → L.E s e = some f → Den X C e f
  T : ∀ (X : Cx) (s : Sx) (e : Expr) (f : EvB), Ok C G N s X → L.T s e = some f → DenT X C e f
theorem Ok.gl (h : Ok C G N s X) {x : Str} (e : glB s x = true) : Gl X x := by
  show X.env.scope.names.lookup x = _
  rw [h.sc_]
  exact (glB_ok e).1
theorem Ok.vis (h : Ok C G N s X) {x : Str} (e : Vis s.sc x) : Vis X.env.scope x := by
  rw [h.sc_]
  exact e
theorem Ok.blk (h : Ok C G N s X) (scope : Scope) (sh : Shared) (H : Hp) (a : Addr) (cl : List (Str × Addr)) (fp : List Addr) : Ok C G N (s.blk scope) (X.blk sh H scope (compEnvC scope cl a X.env) fp) where
  N_ := h.N_
  nd := h.nd
  sc_ := by
    show relabel scope X.env = rel scope s.sc
    rw [← h.sc_]
    rfl
  calm := h.calm
  fn := fun e => by cases e
  un := h.un
  g := ⟨h.g.fe, h.g.fm, h.g.fc, h.g.fp, h.g.fs, fun p hp => let ⟨cl, hc, hn⟩ := h.g.fld p hp; ⟨cl, ⟨hc.at_, hc.cls⟩, hn⟩, h.g.gi, h.g.gs, h.g.bi⟩

/-! ### alternatives -/
theorem den_alt {e : Expr} {f g : Ev} (h1 : Den X C e f) (h2 : Den X C e g) : Den X C e (orE f g) := ⟨fun pins s gg H Hf d t F o d' I S q => by
  unfold orE at q
  split at q
  · rename_i r hr
    cases q
    exact h1.run pins s gg H Hf d t F o d' I S hr
  · exact h2.run pins s gg H Hf d t F o d' I S q⟩
theorem den_any {e : Expr} : ∀ {fs : List Ev} {f : Ev}, anyE fs = some f → (∀ g, g ∈ fs → Den X C e g) → Den X C e f
  | [], _, h, _ => by cases h
  | [g], _, h, k => by
    cases h
    exact k _ List.mem_cons_self
  | g :: g2 :: gs, _, h, k => by
    unfold anyE at h
    cases q : anyE (g2 :: gs) with
    | none => rw [q] at h; cases h
    | some r =>
      rw [q] at h
      cases h
      exact den_alt (k g List.mem_cons_self) (den_any q fun x hx => k x (List.mem_cons_of_mem _ hx))

theorem denT_alt {e : Expr} {f g : EvB} (h1 : DenT X C e f) (h2 : DenT X C e g) : DenT X C e (orB f g) := ⟨fun pins s gg H Hf d t F o d' I S q => by
  unfold orB at q
  split at q
  · rename_i r hr
    cases q
    exact h1.run pins s gg H Hf d t F o d' I S hr
  · exact h2.run pins s gg H Hf d t F o d' I S q⟩
theorem denT_any {e : Expr} : ∀ {fs : List EvB} {f : EvB}, anyB fs = some f → (∀ g, g ∈ fs → DenT X C e g) → DenT X C e f
  | [], _, h, _ => by cases h
  | [g], _, h, k => by
    cases h
    exact k _ List.mem_cons_self
  | g :: g2 :: gs, _, h, k => by
    unfold anyB at h
    cases q : anyB (g2 :: gs) with
    | none => rw [q] at h; cases h
    | some r =>
      rw [q] at h
      cases h
      exact denT_alt (k g List.mem_cons_self) (denT_any q fun x hx => k x (List.mem_cons_of_mem _ hx))

/-! ### operators -/
theorem op2_cmp (hu : X.A.units + 100 < cLine) : ∀ op : CmpOp, Op2 X C (compareOp op) (rCmp op)
  | .Eq => op2_eq (by omega)
  | .NotEq => op2_ne (by omega)
  | .Lt => op2_ltI
  | .LtE => op2_leI.alt op2_leS
  | .Gt => op2_gtI
  | .GtE => op2_geI
  | .In => (op2_inL (by omega)).alt ((op2_inT (by omega)).alt ((op2_inD (by omega)).alt op2_inS))
  | .NotIn => (op2_notInL (by omega)).alt ((op2_notInT (by omega)).alt ((op2_notInD (by omega)).alt op2_notInS))
  | .Is => op2_isN
  | .IsNot => op2_notN
theorem opIx_all (hu : X.A.units + 100 < cLine) : OpIx X C rIx := opIx_L.alt (opIx_T.alt (opIx_C.alt (opIx_S.alt (opIx_D (by omega)))))
/-! ### built-ins -/
def BiOk (X : Cx) (C : Str → Option Addr) (b : BiE) : Prop := CbV X C (if b.isTy = true then .type b.id else .builtin b.id) b.r ∧ bootBuiltins b.name = some (if b.isTy = true then .type b.id else .builtin b.id)
theorem bi_ok (hc : X.calm = true) (hu : X.A.units + 100 < cLine) : ∀ b, b ∈ biL → BiOk X C b := by
  intro b hb
  simp only [biL, List.mem_cons, List.not_mem_nil, or_false] at hb
  rcases hb with e | e | e | e | e | e | e | e <;> subst e
  · exact ⟨cb_len, PySem.boot_len⟩
  · exact ⟨by show CbV X C (.builtin "sorted") rSortedI; rw [rSortedI_eq]; exact cb_sorted hc (by omega), PyProof.Rows.boot_sorted⟩
  · exact ⟨cb_list hc, PyProof.Rows.boot_list⟩
  · exact ⟨cb_tuple, PyProof.Rows.boot_tuple⟩
  · exact ⟨cb_isi, PyProof.Rows.boot_isinstance⟩
  · exact ⟨cb_int, PyProof.Rows.boot_int⟩
  · exact ⟨cb_max hc, PyProof.Rows.boot_max⟩
  · exact ⟨cb_min hc, PyProof.Rows.boot_min⟩
structure MtOk (X : Cx) (C : Str → Option Addr) (m : MtE) : Prop where
  t : (m.T == "") = false
  pa : PlainAttrs m.T
  slot : Slot m.T m.name m.id
  ty : typeOf (.builtin m.id) = pure (.type "method_descriptor")
  ok : MtV X C m.id m.r
theorem mt_ok (hu : X.A.units + 100 < cLine) : ∀ m, m ∈ mtL → MtOk X C m := by
  intro m hm
  simp only [mtL, List.mem_cons, List.not_mem_nil, or_false] at hm
  subst hm
  exact ⟨by decide, PySem.F.plainAttrs_dict, PySem.F.slot_dict_get, PySem.F.type_dict_get, mt_get (by omega)⟩
theorem ty_ok {x : Str} {n : Ty} (h : tyOf x = some n) : bootBuiltins x = some (.type n.name) := by
  unfold tyOf at h
  split at h
  · rename_i e; cases h; rw [e]; exact PyProof.Rows.boot_int
  split at h
  · rename_i e; cases h; rw [e]; exact PyProof.Rows.boot_bool
  split at h
  · rename_i e; cases h; rw [e]; exact PyProof.Rows.boot_str
  split at h
  · rename_i e; cases h; rw [e]; exact PyProof.Rows.boot_list
  split at h
  · rename_i e; cases h; rw [e]; exact PyProof.Rows.boot_tuple
  split at h
  · rename_i e; cases h; rw [e]; exact PyProof.Rows.boot_dict
  · cases h
/-! ### names and constants -/
theorem cConst_ok {c : Const} {k : Nat} {pos : Pos} {x : D} (h : cConst c = some x) : Den X C (.Constant c k pos) (evC x) := by
  cases c <;> first | cases h | skip
  · exact den_c pe_non fun _ => rfl
  · exact den_c pe_bl fun _ => rfl
  · exact den_c pe_int fun _ => rfl
  · exact den_c pe_str fun _ => rfl
theorem find_ok {α : Type} {p : α → Bool} {l : List α} {a : α} (h : l.find? p = some a) : a ∈ l ∧ p a = true := ⟨List.mem_of_find?_eq_some h, List.find?_some h⟩
theorem cName_ok {x : Str} {pos : Pos} {f : Ev} (h : Ok C G N s X) (e : cName G N s x = some f) : Den X C (.Name x pos) f := by
  unfold cName at e
  split at e
  · rename_i i hi
    cases e
    obtain ⟨h1, h2, h3⟩ := slotOf_ok hi
    exact den_var (by rw [h.N_]; exact h1) (h.vis h2) (nmOk_d h3) (nmOk_c h3)
  · split at e
    · rename_i hg
      obtain ⟨_, hn⟩ := glB_ok hg
      split at e
      · rename_i p hp
        cases e
        obtain ⟨m, q⟩ := find_ok hp
        obtain ⟨t, ht⟩ := h.g.gi p m
        rw [of_decide_eq_true q] at ht
        exact den_gint (h.gl hg) ht (nmOk_d hn)
      · split at e
        · rename_i p hp
          cases e
          obtain ⟨m, q⟩ := find_ok hp
          obtain ⟨t, ht⟩ := h.g.gs p m
          rw [of_decide_eq_true q] at ht
          exact den_gstr (h.gl hg) ht (nmOk_d hn)
        · split at e
          · rename_i p hp
            cases e
            obtain ⟨m, q⟩ := find_ok hp
            obtain ⟨cl, fa, fd, ps, h1, h2, _⟩ := h.g.fc p m
            have ex := of_decide_eq_true q
            rw [ex] at h1 h2 ⊢
            exact den_glo (h.gl hg) h2 h1 (nmOk_d hn)
          · split at e
            · rename_i hb
              cases q : tyOf x with
              | none => rw [q] at e; cases e
              | some n =>
                rw [q] at e
                cases e
                exact den_ty (h.gl hg) (h.g.bi x hb) (ty_ok q) (nmOk_n hn) (nmOk_d hn)
            · cases e
    · cases e
theorem nmSlot_ok {e : Expr} {i : Nat} (h : nmSlot N s e = some i) : ∃ x pos, e = .Name x pos ∧ slotOf N s x = some i := by
  cases e <;> first | exact ⟨_, _, rfl, h⟩ | cases h
/-! ### operands -/
variable (hL : LvOk C G N L)
include hL
theorem opn_ok {e : Expr} {p : Opn} (h : Ok C G N s X) (q : opn N L s e = some p) : DenP X C e p := by
  unfold opn at q
  split at q
  · rename_i i hi
    cases q
    obtain ⟨x, pos, rfl, h1⟩ := nmSlot_ok hi
    obtain ⟨h1, h2, h3⟩ := slotOf_ok h1
    exact denP_slot (by rw [h.N_]; exact h1) (h.vis h2) (nmOk_d h3) (nmOk_c h3)
  · cases z : L.E s e with
    | none => rw [z] at q; cases q
    | some f =>
      rw [z] at q
      cases q
      exact (hL.E X s e f h z).toP
theorem opns_ok (h : Ok C G N s X) : ∀ {es : List Expr} {ps : List Opn}, noStar es = true → opns N L s es = some ps → DenA X C es ps
  | [], _, _, q => by
    cases q
    exact denA_nil
  | e :: es, _, n, q => by
    obtain ⟨p, h1, q⟩ := Option.bind_eq_some_iff.mp q
    obtain ⟨ps, h2, q⟩ := Option.bind_eq_some_iff.mp q
    cases q
    obtain ⟨n1, n2⟩ := noStar_cons n
    exact denA_cons (opn_ok hL h h1) (opns_ok h n2 h2) (star_cons n1)
theorem exs_ok (h : Ok C G N s X) : ∀ {es : List Expr} {ps : List Opn}, noStar es = true → exs L s es = some ps → DenA X C es ps ∧ allEx ps = true
  | [], _, _, q => by
    cases q
    exact ⟨denA_nil, rfl⟩
  | e :: es, _, n, q => by
    obtain ⟨p, h1, q⟩ := Option.bind_eq_some_iff.mp q
    obtain ⟨ps, h2, q⟩ := Option.bind_eq_some_iff.mp q
    cases q
    obtain ⟨n1, n2⟩ := noStar_cons n
    obtain ⟨k1, k2⟩ := exs_ok h n2 h2
    exact ⟨denA_cons (hL.E X s e p h h1).toP k1 (star_cons n1), k2⟩
theorem evs_ok (h : Ok C G N s X) : ∀ {es : List Expr} {fs : List Ev}, noStar es = true → evs L s es = some fs → DenL X C es fs
  | [], _, _, q => by
    cases q
    exact denL_nil
  | e :: es, _, n, q => by
    obtain ⟨p, h1, q⟩ := Option.bind_eq_some_iff.mp q
    obtain ⟨ps, h2, q⟩ := Option.bind_eq_some_iff.mp q
    cases q
    obtain ⟨n1, n2⟩ := noStar_cons n
    exact denL_cons (hL.E X s e p h h1) (evs_ok h n2 h2) (star_cons n1)
theorem sts_ok (h : Ok C G N s X) : ∀ {es : List Expr} {fs : List (Bool × Ev)}, sts L s es = some fs → DenSt X C es fs
  | [], _, q => by
    cases q
    exact denSt_nil
  | e :: es, _, q => by
    unfold sts at q
    split at q
    · cases ‹_ = ([] : List Expr)›
    · rename_i a p es' heq
      cases heq
      obtain ⟨f, h1, q⟩ := Option.bind_eq_some_iff.mp q
      obtain ⟨ps, h2, q⟩ := Option.bind_eq_some_iff.mp q
      cases q
      exact denSt_star (hL.E X s _ f h h1) (sts_ok h h2)
    · rename_i e' es' hne heq
      cases heq
      obtain ⟨f, h1, q⟩ := Option.bind_eq_some_iff.mp q
      obtain ⟨ps, h2, q⟩ := Option.bind_eq_some_iff.mp q
      cases q
      refine denSt_one (hL.E X s _ f h h1) (sts_ok h h2) (star_cons ?_)
      cases e <;> first | rfl | exact absurd rfl (hne _ _)
theorem pairsE_ok {pos : Pos} (h : Ok C G N s X) : ∀ {ks : List (Option Expr)} {vs : List Expr} {fs : List (Ev × Ev)}, pairsE L s ks vs = some fs → DenPs X C pos ks vs fs ∧ ks.all (·.isSome) = true ∧ ks.length = vs.length ∧ fs.length = ks.length
  | [], [], _, q => by
    cases q
    exact ⟨denPs_nil, rfl, rfl, rfl⟩
  | some k :: ks, v :: vs, _, q => by
    obtain ⟨fk, h1, q⟩ := Option.bind_eq_some_iff.mp q
    obtain ⟨fv, h2, q⟩ := Option.bind_eq_some_iff.mp q
    obtain ⟨r, h3, q⟩ := Option.bind_eq_some_iff.mp q
    cases q
    obtain ⟨k1, k2, k3, k4⟩ := pairsE_ok (pos := pos) h h3
    exact ⟨denPs_cons (hL.E X s k fk h h1) (hL.E X s v fv h h2) k1, by simpa using k2, by simp [k3], by simp [k4]⟩
  | none :: _, _, _, q => by cases q
  | some _ :: _, [], _, q => by cases q
  | [], _ :: _, _, q => by cases q
end Pd
set_option maxHeartbeats 1000000
/-! Pc3: and, or; targets; what is walked; comprehensions. -/
namespace Pd
open PySem L2 PyProof.Rows
variable {C : Str → Option Addr} {G : GC} {N : List Str} {s : Sx} {X : Cx} {L : Lv}

theorem andE_ok {pos : Pos} {g : Expr → Option Ev} (hg : ∀ e f, g e = some f → Den X C e f) : ∀ {es : List Expr} {f : Ev}, andE g es = some f → Den X C (.BoolOp .And es pos) f
  | [], _, q => by cases q
  | [a], f, q => den_one (hg a f q)
  | a :: b :: r, _, q => by
    obtain ⟨x, h1, q⟩ := Option.bind_eq_some_iff.mp q
    obtain ⟨y, h2, q⟩ := Option.bind_eq_some_iff.mp q
    cases q
    exact den_and (hg a x h1) (andE_ok hg h2)
theorem orsE_ok {pos : Pos} {g : Expr → Option Ev} (hg : ∀ e f, g e = some f → Den X C e f) : ∀ {es : List Expr} {f : Ev}, orsE g es = some f → Den X C (.BoolOp .Or es pos) f
  | [], _, q => by cases q
  | [a], f, q => den_one (hg a f q)
  | a :: b :: r, _, q => by
    obtain ⟨x, h1, q⟩ := Option.bind_eq_some_iff.mp q
    obtain ⟨y, h2, q⟩ := Option.bind_eq_some_iff.mp q
    cases q
    exact den_or (hg a x h1) (orsE_ok hg h2)
theorem andT_ok {pos : Pos} {g : Expr → Option EvB} (hg : ∀ e f, g e = some f → DenT X C e f) : ∀ {es : List Expr} {f : EvB}, andT g es = some f → DenW X C (.BoolOp .And es pos) f
  | [], _, q => by cases q
  | [a], f, q => denW_and1 (hg a f q)
  | a :: b :: r, _, q => by
    obtain ⟨x, h1, q⟩ := Option.bind_eq_some_iff.mp q
    obtain ⟨y, h2, q⟩ := Option.bind_eq_some_iff.mp q
    cases q
    exact denW_and (hg a x h1) (andT_ok hg h2)
theorem orsT_ok {pos : Pos} {g : Expr → Option EvB} (hg : ∀ e f, g e = some f → DenT X C e f) : ∀ {es : List Expr} {f : EvB}, orsT g es = some f → DenW X C (.BoolOp .Or es pos) f
  | [], _, q => by cases q
  | [a], f, q => denW_or1 (hg a f q)
  | a :: b :: r, _, q => by
    obtain ⟨x, h1, q⟩ := Option.bind_eq_some_iff.mp q
    obtain ⟨y, h2, q⟩ := Option.bind_eq_some_iff.mp q
    cases q
    exact denW_or (hg a x h1) (orsT_ok hg h2)

/-! ### targets -/
theorem Ok.loc (h : Ok C G N s X) {x : Str} (e : locB s x = true) : Loc X.env.scope x ∧ (X.fn x = true ∨ X.env.scope.names.lookup x = some .local) := by
  obtain ⟨h1, h2⟩ := locB_ok e
  rw [h.sc_]
  exact ⟨h1, h2.imp (fun z => h.fn z x) id⟩
theorem nmIx_ok (h : Ok C G N s X) : ∀ {es : List Expr} {is : List Nat}, nmIx N s es = some is → NmL X es is
  | [], _, q => by
    cases q
    exact .nil
  | e :: es, _, q => by
    cases e <;> first | cases q | skip
    rename_i x pos
    have q : (if locB s x then (ixOf N x).bind fun i => (nmIx N s es).bind fun is => some (i :: is) else none) = some _ := q
    split at q
    · rename_i hl
      obtain ⟨i, h1, q⟩ := Option.bind_eq_some_iff.mp q
      obtain ⟨is, h2, q⟩ := Option.bind_eq_some_iff.mp q
      cases q
      obtain ⟨k1, k2⟩ := h.loc hl
      exact .cons (by rw [h.N_]; exact ixOf_ok h1) k1 k2 (nmIx_ok h h2)
    · cases q
theorem cTg_ok {tg : Expr} {k : Tg} (h : Ok C G N s X) (q : cTg N s tg = some k) : DenG X C tg k := by
  cases tg <;> first | cases q | skip
  · rename_i x pos
    have q : (if locB s x then (ixOf N x).map Tg.name else none) = some k := q
    split at q
    · rename_i hl
      cases z : ixOf N x with
      | none => rw [z] at q; cases q
      | some i =>
        rw [z] at q
        cases q
        obtain ⟨k1, k2⟩ := h.loc hl
        exact denG_name (by rw [h.N_]; exact h.nd) (by rw [h.N_]; exact ixOf_ok z) k1 k2
    · cases q
  · rename_i es j pos
    have q : (nmIx N s es).map Tg.tup = some k := q
    cases z : nmIx N s es with
    | none => rw [z] at q; cases q
    | some is =>
      rw [z] at q
      cases q
      exact denG_tup h.calm (by rw [h.N_]; exact h.nd) (nmIx_ok h z)
variable (hL : LvOk C G N L)
include hL
theorem cIterC_ok {tg : Expr} {x : Str} {args : List Expr} {p pos : Pos} {f : EvI} (h : Ok C G N s X) (q : cIterC L s tg x args = some f) : DenI X C tg (.Call (.Name x p) args [] pos) f := by
  unfold cIterC at q
  split at q
  · rename_i hc
    simp only [Bool.and_eq_true] at hc
    obtain ⟨⟨hg, hb⟩, hn⟩ := hc
    split at q
    · rename_i e
      obtain ⟨ps, h1, q⟩ := Option.bind_eq_some_iff.mp q
      obtain ⟨ha, hx⟩ := exs_ok hL h hn h1
      rw [e] at hg hb ⊢
      split at q
      · cases q
        obtain ⟨n1, _⟩ := noStar_cons hn
        exact den_range1 (h.gl hg) (h.g.bi _ hb) hx ha (star_one n1)
      · cases q
        obtain ⟨n1, n2⟩ := noStar_cons hn
        obtain ⟨n2, _⟩ := noStar_cons n2
        exact den_range2 (h.gl hg) (h.g.bi _ hb) hx ha (by rw [star_cons n1, star_one n2]) (star_one n2)
      · cases q
        obtain ⟨n1, n2⟩ := noStar_cons hn
        exact den_range3 (h.gl hg) (h.g.bi _ hb) hx ha (star_cons n1) (star_any_ n2)
      · cases q
    · split at q
      · rename_i e
        rw [e] at hg hb ⊢
        split at q
        · rename_i ht
          split at q
          · cases z : exs L s [‹Expr›] with
            | none => rw [z] at q; cases q
            | some ps =>
              rw [z] at q
              cases q
              obtain ⟨ha, hx⟩ := exs_ok hL h hn z
              obtain ⟨n1, _⟩ := noStar_cons hn
              cases tg <;> first | cases ht | skip
              exact den_enum (h.gl hg) (h.g.bi _ hb) hx ha (star_one n1)
          · cases q
        · cases q
      · cases q
  · cases q
theorem cIterV_ok {tg e : Expr} {f : EvI} (h : Ok C G N s X) (q : cIterV L s e = some f) : DenI X C tg e f := by
  unfold cIterV at q
  split at q
  · rename_i o m apos cpos
    split at q
    · rename_i hc
      simp only [Bool.and_eq_true, decide_eq_true_eq] at hc
      obtain ⟨⟨hm, hb⟩, hl⟩ := hc
      cases z : L.E s o with
      | none => rw [z] at q; cases q
      | some g =>
        rw [z] at q
        cases q
        rw [hm]
        exact den_values (hL.E X s o g h z) (base_ok hb) hl
    · cases q
  · cases q
theorem cIter_ok {tg e : Expr} {f : EvI} (h : Ok C G N s X) (q : cIter L s tg e = some f) : DenI X C tg e f := by
  unfold cIter at q
  split at q
  · rename_i g hg
    cases q
    split at hg
    · exact cIterC_ok hL h hg
    · cases hg
  · split at q
    · rename_i g hg
      cases q
      exact cIterV_ok hL h hg
    · cases z : L.E s e with
      | none => rw [z] at q; cases q
      | some g =>
        rw [z] at q
        cases q
        exact den_iter (hL.E X s e g h z)
theorem cIfs_ok {ifs : List Expr} {c : EvB} (h : Ok C G N s X) (q : cIfs L s ifs = some c) : PTs X ifs (tT X C c) := by
  unfold cIfs at q
  split at q
  · cases q
    exact pts_yes
  · exact pts_one (hL.T X s _ c h q).pt
  · cases q
omit hL
/-! ### comprehensions -/
theorem own_ix {scope : Scope} : ∀ p, p ∈ ownOf N scope → N[p.2]? = some p.1 := by
  intro p hp
  unfold ownOf at hp
  obtain ⟨y, hy, e⟩ := List.mem_filterMap.mp hp
  split at e
  · cases z : ixOf N y.1 with
    | none => rw [z] at e; cases e
    | some i =>
      rw [z] at e
      cases e
      exact ixOf_ok z
  · cases e
theorem own_all {scope : Scope} : ∀ y, y ∈ scope.names → y.2 = .local ∨ y.2 = .cell → y.1 ∈ (ownOf N scope).map (·.1) ∨ y.1 ∉ N := by
  intro y hy hk
  cases z : ixOf N y.1 with
  | none => exact .inr (ixOf_none z)
  | some i => exact .inl (List.mem_map.mpr ⟨(y.1, i), List.mem_filterMap.mpr ⟨y, hy, by rw [if_pos hk, z]; rfl⟩, rfl⟩)
theorem blkB_ok (h : Ok C G N s X) {scope : Scope} (q : blkB s.sc scope = true) : BlkOk X.N X.env.scope scope (ownOf N scope) := by
  unfold blkB at q
  simp only [Bool.and_eq_true, decide_eq_true_eq, List.all_eq_true, Bool.or_eq_true, Bool.not_eq_true', decide_eq_false_iff_not] at q
  obtain ⟨⟨q1, q2⟩, q3⟩ := q
  refine ⟨q1, q2, fun p hp => by rw [h.N_]; exact own_ix p hp, fun y hy e => ?_, fun y hy e => by rw [h.N_]; exact own_all y hy e⟩
  rw [h.sc_]
  rcases q3 y hy with z | z
  · exact absurd e z
  · exact z
theorem inside_ok {is vs : List Nat} (h : inside is vs = true) : ∀ i, i ∈ is → i ∈ vs := by
  unfold inside at h
  simpa [List.all_eq_true] using h
include hL
theorem cLc_ok {elt : Expr} {gens : List Comprehension} {scope : Scope} {pos : Pos} {f : Ev} (h : Ok C G N s X) (q : cLc N L s elt gens scope = some f) : Den X C (.ListComp elt gens scope pos) f := by
  unfold cLc at q
  split at q
  · rename_i hb
    have ok := blkB_ok h hb
    dsimp only at q
    split at q
    · split at q
      · rename_i hc
        obtain ⟨h0, hs⟩ := hc
        subst h0
        obtain ⟨f1, h1, q⟩ := Option.bind_eq_some_iff.mp q
        obtain ⟨k, h2, q⟩ := Option.bind_eq_some_iff.mp q
        obtain ⟨c, h3, q⟩ := Option.bind_eq_some_iff.mp q
        obtain ⟨e, h4, q⟩ := Option.bind_eq_some_iff.mp q
        split at q
        · rename_i hi
          cases q
          exact den_lc h.calm (by rw [h.N_]; exact h.nd) (cIter_ok hL h h1) ok (fun sh H a cl fp => cTg_ok (h.blk scope sh H a cl fp) h2) (fun sh H a cl fp => cIfs_ok hL (h.blk scope sh H a cl fp) h3)
            (fun sh H a cl fp => hL.E _ _ _ _ (h.blk scope sh H a cl fp) h4) (fun x => notSet_ok hs) (inside_ok hi)
        · cases q
      · cases q
    · split at q
      · rename_i hc
        obtain ⟨h0, hs, h01, hs1⟩ := hc
        subst h0 h01
        obtain ⟨f1, h1, q⟩ := Option.bind_eq_some_iff.mp q
        obtain ⟨k, h2, q⟩ := Option.bind_eq_some_iff.mp q
        obtain ⟨c, h3, q⟩ := Option.bind_eq_some_iff.mp q
        obtain ⟨f2, h5, q⟩ := Option.bind_eq_some_iff.mp q
        obtain ⟨k1, h6, q⟩ := Option.bind_eq_some_iff.mp q
        obtain ⟨c1, h7, q⟩ := Option.bind_eq_some_iff.mp q
        obtain ⟨e, h4, q⟩ := Option.bind_eq_some_iff.mp q
        split at q
        · rename_i hi
          rw [Bool.and_eq_true] at hi
          cases q
          exact den_lc2 h.calm (by rw [h.N_]; exact h.nd) (cIter_ok hL h h1) ok (inside_ok hi.2) (fun sh H a cl fp => cTg_ok (h.blk scope sh H a cl fp) h2) (fun sh H a cl fp => cIfs_ok hL (h.blk scope sh H a cl fp) h3)
            (fun sh H a cl fp => cIter_ok hL (h.blk scope sh H a cl fp) h5) (fun sh H a cl fp => cTg_ok (h.blk scope sh H a cl fp) h6) (fun sh H a cl fp => cIfs_ok hL (h.blk scope sh H a cl fp) h7)
            (fun sh H a cl fp => hL.E _ _ _ _ (h.blk scope sh H a cl fp) h4) (fun x => notSet_ok hs) (fun env x => notSet_ok hs1) (inside_ok hi.1) fun i hi => hi
        · cases q
      · cases q
    · cases q
  · cases q
theorem cDc_ok {kx vx : Expr} {gens : List Comprehension} {scope : Scope} {pos : Pos} {f : Ev} (h : Ok C G N s X) (q : cDc N L s kx vx gens scope = some f) : Den X C (.DictComp kx vx gens scope pos) f := by
  have hu : X.A.units + 8 < cLine := by have := h.un; omega
  unfold cDc at q
  split at q
  · rename_i hb
    have ok := blkB_ok h hb
    dsimp only at q
    split at q
    · split at q
      · rename_i hc
        obtain ⟨h0, hs⟩ := hc
        subst h0
        obtain ⟨f1, h1, q⟩ := Option.bind_eq_some_iff.mp q
        obtain ⟨k, h2, q⟩ := Option.bind_eq_some_iff.mp q
        obtain ⟨c, h3, q⟩ := Option.bind_eq_some_iff.mp q
        obtain ⟨ek, h4, q⟩ := Option.bind_eq_some_iff.mp q
        obtain ⟨ev, h8, q⟩ := Option.bind_eq_some_iff.mp q
        split at q
        · rename_i hi
          cases q
          exact den_dc hu h.calm (by rw [h.N_]; exact h.nd) (cIter_ok hL h h1) ok (fun sh H a cl fp => cTg_ok (h.blk scope sh H a cl fp) h2) (fun sh H a cl fp => cIfs_ok hL (h.blk scope sh H a cl fp) h3)
            (fun sh H a cl fp => hL.E _ _ _ _ (h.blk scope sh H a cl fp) h4) (fun sh H a cl fp => hL.E _ _ _ _ (h.blk scope sh H a cl fp) h8) (fun x => notSet_ok hs) (inside_ok hi)
        · cases q
      · cases q
    · split at q
      · rename_i hc
        obtain ⟨h0, hs, h01, hs1⟩ := hc
        subst h0 h01
        obtain ⟨f1, h1, q⟩ := Option.bind_eq_some_iff.mp q
        obtain ⟨k, h2, q⟩ := Option.bind_eq_some_iff.mp q
        obtain ⟨c, h3, q⟩ := Option.bind_eq_some_iff.mp q
        obtain ⟨f2, h5, q⟩ := Option.bind_eq_some_iff.mp q
        obtain ⟨k1, h6, q⟩ := Option.bind_eq_some_iff.mp q
        obtain ⟨c1, h7, q⟩ := Option.bind_eq_some_iff.mp q
        obtain ⟨ek, h4, q⟩ := Option.bind_eq_some_iff.mp q
        obtain ⟨ev, h8, q⟩ := Option.bind_eq_some_iff.mp q
        split at q
        · rename_i hi
          rw [Bool.and_eq_true] at hi
          cases q
          exact den_dc2 hu h.calm (by rw [h.N_]; exact h.nd) (cIter_ok hL h h1) ok (inside_ok hi.2) (fun sh H a cl fp => cTg_ok (h.blk scope sh H a cl fp) h2) (fun sh H a cl fp => cIfs_ok hL (h.blk scope sh H a cl fp) h3)
            (fun sh H a cl fp => cIter_ok hL (h.blk scope sh H a cl fp) h5) (fun sh H a cl fp => cTg_ok (h.blk scope sh H a cl fp) h6) (fun sh H a cl fp => cIfs_ok hL (h.blk scope sh H a cl fp) h7)
            (fun sh H a cl fp => hL.E _ _ _ _ (h.blk scope sh H a cl fp) h4) (fun sh H a cl fp => hL.E _ _ _ _ (h.blk scope sh H a cl fp) h8) (fun x => notSet_ok hs) (fun env x => notSet_ok hs1) (inside_ok hi.1) fun i hi => hi
        · cases q
      · cases q
    · cases q
  · cases q
end Pd
set_option maxHeartbeats 1000000
/-! Pc4: calls, attributes, items, comparisons; the step. -/
namespace Pd
open PySem L2 PyProof.Rows
variable {C : Str → Option Addr} {G : GC} {N : List Str} {s : Sx} {X : Cx} {L : Lv}
theorem map_some {α β : Type} {o : Option α} {g : α → β} {b : β} (h : o.map g = some b) : ∃ a, o = some a ∧ g a = b := by
  cases o with
  | none => cases h
  | some a => exact ⟨a, rfl, Option.some.inj h⟩
theorem emptyL_ok {e : Expr} (h : isEmptyL e = true) : ∃ lp, e = Expr.List [] lp := by
  cases e <;> first | cases h | skip
  rename_i es lp
  cases es <;> first | exact ⟨_, rfl⟩ | cases h
theorem nm_facts (h : Ok C G N s X) {e : Expr} {i : Nat} (q : nmSlot N s e = some i) : ∃ x pos, e = .Name x pos ∧ X.N[i]? = some x ∧ Vis X.env.scope x ∧ (x == ("__debug__" : Str)) = false ∧ (x == ("__classdict__" : Str)) = false := by
  obtain ⟨x, pos, e1, h1⟩ := nmSlot_ok q
  obtain ⟨h1, h2, h3⟩ := slotOf_ok h1
  exact ⟨x, pos, e1, by rw [h.N_]; exact h1, h.vis h2, nmOk_d h3, nmOk_c h3⟩
theorem qNm_ok (h : Ok C G N s X) {e : Expr} {f : EvQ} (q : qNm N s e = some f) : DenQ X C e f := by
  obtain ⟨i, h1, e1⟩ := map_some q
  subst e1
  obtain ⟨x, pos, e1, k1, k2, k3, k4⟩ := nm_facts h h1
  subst e1
  exact denQ_name k1 k2 k3 k4
variable (hL : LvOk C G N L)
include hL
theorem cBi_ok {x : Str} {args : List Expr} {p pos : Pos} {f : Ev} (h : Ok C G N s X) (hg : glB s x = true) (hn : noStar args = true) (q : cBi N L s x args = some f) : Den X C (.Call (.Name x p) args [] pos) f := by
  unfold cBi at q
  split at q
  · rename_i hb
    obtain ⟨b, h1, q⟩ := Option.bind_eq_some_iff.mp q
    obtain ⟨ps, h2, q⟩ := Option.bind_eq_some_iff.mp q
    obtain ⟨m, e⟩ := find_ok h1
    have e := of_decide_eq_true e
    have ha := opns_ok hL h hn h2
    obtain ⟨k1, k2⟩ := bi_ok (C := C) h.calm h.un b m
    split at q
    · cases q
    · cases q
      obtain ⟨n1, n2⟩ := noStar_cons hn
      have nm := (glB_ok hg).2
      rw [e] at k2
      cases z : b.isTy with
      | true =>
        rw [z] at k1 k2
        exact den_cbT k1 (h.gl hg) (h.g.bi x hb) k2 (nmOk_n nm) (nmOk_d nm) ha (star_cons n1) (star_any_ n2)
      | false =>
        rw [z] at k1 k2
        exact den_cbB k1 (h.gl hg) (h.g.bi x hb) k2 (nmOk_n nm) (nmOk_d nm) ha (star_cons n1) (star_any_ n2)
  · cases q
theorem cSetOf_ok {x : Str} {args : List Expr} {p pos : Pos} {f : Ev} (h : Ok C G N s X) (hg : glB s x = true) (q : cSetOf N L s x args = some f) : Den X C (.Call (.Name x p) args [] pos) f := by
  have hu := h.un
  unfold cSetOf at q
  split at q
  · split at q
    · rename_i hc
      simp only [Bool.and_eq_true, decide_eq_true_eq, Bool.not_eq_true'] at hc
      obtain ⟨⟨hy, e⟩, ns⟩ := hc
      subst e
      have hm2 : X.mg "set" = none := h.g.bi _ (by decide +kernel)
      split at q
      · rename_i e
        subst e
        obtain ⟨pa, h1, e⟩ := map_some q
        subst e
        exact den_lenSet h.calm (h.gl hg) (h.g.bi _ (by decide +kernel)) (h.gl hy) hm2 (opn_ok hL h h1) (star_cons ns)
      · split at q
        · rename_i e
          subst e
          obtain ⟨pa, h1, e⟩ := map_some q
          subst e
          rw [rSortSetI_eq]
          exact den_sortSet h.calm (by omega) (h.gl hg) (h.g.bi _ (by decide +kernel)) (h.gl hy) hm2 (opn_ok hL h h1) PyProof.Rows.boot_sorted (star_cons ns)
        · cases q
    · cases q
  · cases q
theorem cFm_ok {fm : FeM} {args : List Expr} {p pos : Pos} {f : Ev} (h : Ok C G N s X) (hm : fm ∈ G.fm) (hg : glB s fm.name = true) (hn : noStar args = true) (q : cFm N L s fm args = some f) : Den X C (.Call (.Name fm.name p) args [] pos) f := by
  unfold cFm at q
  split at q
  · rename_i a rest
    obtain ⟨i, h1, q⟩ := Option.bind_eq_some_iff.mp q
    obtain ⟨ps, h2, e⟩ := map_some q
    subst e
    obtain ⟨n1, n2⟩ := noStar_cons hn
    obtain ⟨x, px, e1, k1, k2, k3, k4⟩ := nm_facts h h1
    subst e1
    obtain ⟨ha, hx⟩ := exs_ok hL h n2 h2
    exact den_callM (h.gl hg) (h.g.fm fm hm) k1 k2 k3 k4 hx ha (star_cons n1) (star_any_ n2)
  · cases q
theorem cDef_ok {x : Str} {args : List Expr} {p pos : Pos} {f : Ev} (h : Ok C G N s X) (hg : glB s x = true) (hn : noStar args = true) (q : cDef G N L s x args = some f) : Den X C (.Call (.Name x p) args [] pos) f := by
  unfold cDef at q
  split at q
  · rename_i e he
    obtain ⟨m, k⟩ := find_ok he
    have k := of_decide_eq_true k
    subst k
    obtain ⟨ps, h1, e1⟩ := map_some q
    subst e1
    obtain ⟨ha, hx⟩ := exs_ok hL h hn h1
    cases args with
    | nil =>
      cases h1
      exact den_call0 (h.gl hg) (h.g.fe e m)
    | cons a r =>
      obtain ⟨n1, n2⟩ := noStar_cons hn
      exact den_call (h.gl hg) (h.g.fe e m) hx ha (star_cons n1) (star_any_ n2)
  · split at q
    · rename_i e he
      obtain ⟨m, k⟩ := find_ok he
      have k := of_decide_eq_true k
      subst k
      exact cFm_ok hL h m hg hn q
    · split at q
      · rename_i e he
        obtain ⟨m, k⟩ := find_ok he
        have k := of_decide_eq_true k
        subst k
        split at q
        · cases q
        · obtain ⟨ps, h1, e1⟩ := map_some q
          subst e1
          obtain ⟨ha, hx⟩ := exs_ok hL h hn h1
          obtain ⟨n1, n2⟩ := noStar_cons hn
          exact den_make (h.gl hg) (h.g.fc e m) hx ha (star_cons n1) (star_any_ n2)
      · split at q
        · rename_i g hg2
          cases q
          exact cSetOf_ok hL h hg hg2
        · exact cBi_ok hL h hg hn q
theorem cSd_ok {o : Expr} {f : Str} {apos : Pos} {args : List Expr} {cpos : Pos} {g : Ev} (h : Ok C G N s X) (q : cSd N L s o f apos args cpos = some g) : Den X C (.Call (.Attribute o f apos) args [] cpos) g := by
  have hu := h.un
  unfold cSd at q
  split at q
  · split at q
    · rename_i hc
      simp only [Bool.and_eq_true, decide_eq_true_eq] at hc
      obtain ⟨⟨⟨⟨⟨⟨e1, e2⟩, hl⟩, n1⟩, n2⟩, l1⟩, l2⟩ := hc
      subst e1 e2
      obtain ⟨i, h1, q⟩ := Option.bind_eq_some_iff.mp q
      obtain ⟨fk, h2, q⟩ := Option.bind_eq_some_iff.mp q
      obtain ⟨fq, h3, e⟩ := map_some q
      subst e
      obtain ⟨x, px, e1, k1, k2, k3, k4⟩ := nm_facts h h1
      subst e1
      obtain ⟨m1, m2⟩ := noStar_cons n1
      obtain ⟨m2, _⟩ := noStar_cons m2
      obtain ⟨m3, _⟩ := noStar_cons n2
      obtain ⟨lp, e9⟩ := emptyL_ok hl
      subst e9
      exact den_sdA (by omega) k1 k2 k3 k4 (hL.E X s _ fk h h2) (den_lstS denSt_nil) (fun d => rfl) (qNm_ok h h3) (base_ok rfl) (few_ n1 (by simp)) l1 (backTo_two m1 m2) (base_ok rfl) (few_ n2 (by simp)) l2 (backTo_one m3)
    · cases q
  · cases q
theorem cAp_ok {o : Expr} {f : Str} {apos : Pos} {args : List Expr} {cpos : Pos} {g : Ev} (h : Ok C G N s X) (q : cAp N L s o f apos args cpos = some g) : Den X C (.Call (.Attribute o f apos) args [] cpos) g := by
  unfold cAp at q
  split at q
  · split at q
    · rename_i hc
      simp only [Bool.and_eq_true, decide_eq_true_eq] at hc
      obtain ⟨⟨e1, n1⟩, l1⟩ := hc
      subst e1
      obtain ⟨i, h1, q⟩ := Option.bind_eq_some_iff.mp q
      obtain ⟨fk, h2, e⟩ := map_some q
      subst e
      obtain ⟨x, px, e1, k1, k2, k3, k4⟩ := nm_facts h h1
      subst e1
      obtain ⟨m1, _⟩ := noStar_cons n1
      exact den_append k1 k2 k3 k4 (hL.E X s _ fk h h2) (base_ok rfl) (few_ n1 (by simp)) l1 (backTo_one m1)
    · cases q
  · cases q
theorem cMtB_ok {o : Expr} {f : Str} {apos : Pos} {args : List Expr} {cpos : Pos} {m : MtE} {g : Ev} (h : Ok C G N s X) (hm : m ∈ mtL) (q : cMtB N L s o f apos args cpos m = some g) : Den X C (.Call (.Attribute o f apos) args [] cpos) g := by
  unfold cMtB at q
  split at q
  · rename_i hc
    simp only [Bool.and_eq_true, decide_eq_true_eq] at hc
    obtain ⟨⟨⟨⟨e1, hb⟩, hn⟩, hl⟩, l1⟩ := hc
    subst e1
    obtain ⟨p, h1, q⟩ := Option.bind_eq_some_iff.mp q
    obtain ⟨ps, h2, e⟩ := map_some q
    subst e
    have k := mt_ok (C := C) h.un m hm
    have ha := opns_ok hL h hn h2
    cases args with
    | nil =>
      cases h2
      exact den_meth0 k.t k.pa k.slot k.ty k.ok (opn_ok hL h h1) (base_ok hb) l1
    | cons a r =>
      obtain ⟨n1, n2⟩ := noStar_cons hn
      exact den_meth k.t k.pa k.slot k.ty k.ok (opn_ok hL h h1) ha (base_ok hb) (few_ hn hl) l1 (star_cons n1) (star_any_ n2)
  · cases q
theorem cMtS_ok {o : Expr} {f : Str} {apos : Pos} {args : List Expr} {cpos : Pos} {m : FeS} {g : Ev} (h : Ok C G N s X) (hm : m ∈ G.fs) (q : cMtS L s o f apos args cpos m = some g) : Den X C (.Call (.Attribute o f apos) args [] cpos) g := by
  unfold cMtS at q
  split at q
  · rename_i hc
    simp only [Bool.and_eq_true, decide_eq_true_eq] at hc
    obtain ⟨⟨⟨⟨e1, hb⟩, hn⟩, hl⟩, l1⟩ := hc
    subst e1
    obtain ⟨p, h1, q⟩ := Option.bind_eq_some_iff.mp q
    split at q
    · cases q
    · obtain ⟨ps, h2, e⟩ := map_some q
      subst e
      obtain ⟨ha, hx⟩ := exs_ok hL h hn h2
      obtain ⟨n1, n2⟩ := noStar_cons hn
      exact den_methV (h.g.fs m hm) (hL.E X s _ p h h1) hx ha (star_cons n1) (star_any_ n2) (call_form (base_ok hb) (few_ hn hl) l1)
  · cases q
theorem cMeth_ok {o : Expr} {f : Str} {apos : Pos} {args : List Expr} {cpos : Pos} {g : Ev} (h : Ok C G N s X) (q : cMeth G N L s o f apos args cpos = some g) : Den X C (.Call (.Attribute o f apos) args [] cpos) g := by
  unfold cMeth at q
  split at q
  · rename_i g' hg'
    cases q
    exact cSd_ok hL h hg'
  · split at q
    · rename_i g' hg'
      cases q
      exact cAp_ok hL h hg'
    · refine den_any q fun g' hg' => ?_
      rcases List.mem_append.mp hg' with z | z
      · obtain ⟨m, hm, e⟩ := List.mem_filterMap.mp z
        exact cMtB_ok hL h hm e
      · obtain ⟨m, hm, e⟩ := List.mem_filterMap.mp z
        exact cMtS_ok hL h hm e
theorem cCall_ok {fn : Expr} {args : List Expr} {pos : Pos} {f : Ev} (h : Ok C G N s X) (q : cCall G N L s fn args pos = some f) : Den X C (.Call fn args [] pos) f := by
  unfold cCall at q
  split at q
  · split at q
    · rename_i hc
      rw [Bool.and_eq_true] at hc
      exact cDef_ok hL h hc.1 hc.2 q
    · cases q
  · exact cMeth_ok hL h q
  · cases q
theorem cAttr_ok {e : Expr} {a : Str} {pos : Pos} {f : Ev} (h : Ok C G N s X) (q : cAttr G N L s e a = some f) : Den X C (.Attribute e a pos) f := by
  unfold cAttr at q
  split at q
  · rename_i hb
    refine den_any q fun g hg => ?_
    rcases List.mem_append.mp hg with z | z
    · obtain ⟨p, hp, e1⟩ := List.mem_filterMap.mp z
      split at e1
      · rename_i e2
        obtain ⟨o, h1, e3⟩ := map_some e1
        subst e3 e2
        obtain ⟨cl, hc, hna⟩ := h.g.fld p hp
        exact den_attr hc hna (opn_ok hL h h1) (base_ok hb)
      · cases e1
    · obtain ⟨p, hp, e1⟩ := List.mem_filterMap.mp z
      split at e1
      · rename_i e2
        obtain ⟨o, h1, e3⟩ := map_some e1
        subst e3 e2
        exact den_prop (h.g.fp p hp) (hL.E X s e o h h1) (base_ok hb)
      · cases e1
  · cases q
theorem opnO_ok {e : Option Expr} {p : Option Opn} (h : Ok C G N s X) (q : opnO N L s e = some p) : DenO X C e p := by
  unfold opnO at q
  split at q
  · cases q
    exact True.intro
  · obtain ⟨o, h1, e3⟩ := map_some q
    subst e3
    exact opn_ok hL h h1
theorem cSub_ok {a b : Expr} {pos : Pos} {f : Ev} (h : Ok C G N s X) (q : cSub N L s a b = some f) : Den X C (.Subscript a b pos) f := by
  unfold cSub at q
  split at q
  · obtain ⟨p, h1, q⟩ := Option.bind_eq_some_iff.mp q
    obtain ⟨l, h2, q⟩ := Option.bind_eq_some_iff.mp q
    obtain ⟨o, h3, e3⟩ := map_some q
    subst e3
    exact den_slice (opn_ok hL h h1) (opnO_ok hL h h2) (opnO_ok hL h h3)
  · split at q
    · rename_i hs
      obtain ⟨p, h1, q⟩ := Option.bind_eq_some_iff.mp q
      obtain ⟨o, h3, e3⟩ := map_some q
      subst e3
      exact den_ix (opIx_all h.un) (opn_ok hL h h1) (opn_ok hL h h3) (notSlice_ok hs)
    · cases q
theorem cCmp_ok {a : Expr} {ops : List CmpOp} {cs : List Expr} {pos : Pos} {f : Ev} (h : Ok C G N s X) (q : cCmp G N L s a ops cs = some f) : Den X C (.Compare a ops cs pos) f := by
  unfold cCmp at q
  split at q
  · rename_i op b
    split at q
    · rename_i hs
      refine den_any q fun g hg => ?_
      rcases List.mem_append.mp hg with z | z
      · unfold cCmpF at z
        split at z
        · split at z
          · rename_i i hi
            obtain ⟨p, hp, e1⟩ := List.mem_filterMap.mp z
            split at e1
            · rename_i e2
              obtain ⟨o, h1, e3⟩ := map_some e1
              subst e3 e2
              obtain ⟨cl, hc, hna⟩ := h.g.fld p hp
              obtain ⟨x, px, e1, k1, k2, k3, k4⟩ := nm_facts h hi
              subst e1
              exact den_cmpF (op2_cmp h.un op) (opn_ok hL h h1) hc hna k1 k2 k3 k4 (base_ok rfl) (notSet_in hs)
            · cases e1
          · cases z
        · cases z
      · split at z
        · rename_i p q' hp hq
          have e := List.mem_singleton.mp z
          subst e
          exact den_cmp (op2_cmp h.un op) (opn_ok hL h hp) (opn_ok hL h hq) (notSet_in hs)
        · cases z
    · cases q
  · rename_i op op' b c
    split at q
    · rename_i hs
      obtain ⟨p, h1, q⟩ := Option.bind_eq_some_iff.mp q
      obtain ⟨p2, h2, q⟩ := Option.bind_eq_some_iff.mp q
      obtain ⟨p3, h3, e3⟩ := map_some q
      subst e3
      exact den_chain (op2_cmp h.un op) (op2_cmp h.un op') (opn_ok hL h h1) (opn_ok hL h h2) (opn_ok hL h h3) (by show behindInMarks op' c = false; exact notSet_in hs)
    · cases q
  · cases q
theorem cCmpT_ok {a : Expr} {ops : List CmpOp} {cs : List Expr} {pos : Pos} {f : EvB} (h : Ok C G N s X) (q : cCmpT G N L s a ops cs = some f) : DenT X C (.Compare a ops cs pos) f := by
  unfold cCmpT at q
  split at q
  · rename_i op b
    split at q
    · rename_i hs
      refine denT_any q fun g hg => ?_
      rcases List.mem_append.mp hg with z | z
      · obtain ⟨g0, zz, e0⟩ := List.mem_map.mp z
        subst e0
        unfold cCmpF at zz
        split at zz
        · split at zz
          · rename_i i hi
            obtain ⟨p, hp, e1⟩ := List.mem_filterMap.mp zz
            split at e1
            · rename_i e2
              obtain ⟨o, h1, e3⟩ := map_some e1
              subst e3 e2
              obtain ⟨cl, hc, hna⟩ := h.g.fld p hp
              obtain ⟨x, px, e1, k1, k2, k3, k4⟩ := nm_facts h hi
              subst e1
              exact denT_cmpF (op2_cmp h.un op) (opn_ok hL h h1) hc hna k1 k2 k3 k4 (base_ok rfl) (notSet_in hs)
            · cases e1
          · cases zz
        · cases zz
      · split at z
        · rename_i p q' hp hq
          have e := List.mem_singleton.mp z
          subst e
          exact denT_cmp (op2_cmp h.un op) (opn_ok hL h hp) (opn_ok hL h hq) (notSet_in hs)
        · cases z
    · cases q
  · rename_i op op' b c
    split at q
    · rename_i hs
      obtain ⟨p, h1, q⟩ := Option.bind_eq_some_iff.mp q
      obtain ⟨p2, h2, q⟩ := Option.bind_eq_some_iff.mp q
      obtain ⟨p3, h3, e3⟩ := map_some q
      subst e3
      exact denT_chain (op2_cmp h.un op) (op2_cmp h.un op') (opn_ok hL h h1) (opn_ok hL h h2) (opn_ok hL h h3) (by show behindInMarks op' c = false; exact notSet_in hs)
    · cases q
  · cases q
theorem stepE_ok {e : Expr} {f : Ev} (h : Ok C G N s X) (q : stepE G N L s e = some f) : Den X C e f := by
  have hu := h.un
  unfold stepE at q
  split at q
  · obtain ⟨x, h1, e1⟩ := map_some q
    subst e1
    exact cConst_ok h1
  · exact cName_ok h q
  · exact andE_ok (fun e f hf => hL.E X s e f h hf) q
  · exact orsE_ok (fun e f hf => hL.E X s e f h hf) q
  · obtain ⟨x, h1, e1⟩ := map_some q
    subst e1
    exact den_not (hL.E X s _ x h h1)
  · obtain ⟨x, h1, e1⟩ := map_some q
    subst e1
    exact den_neg (opn_ok hL h h1)
  · obtain ⟨r, h1, q⟩ := Option.bind_eq_some_iff.mp q
    obtain ⟨p, h2, q⟩ := Option.bind_eq_some_iff.mp q
    obtain ⟨p2, h3, e1⟩ := map_some q
    subst e1
    exact den_bin (op2_bin h1) (opn_ok hL h h2) (opn_ok hL h h3)
  · exact cCmp_ok hL h q
  · obtain ⟨r, h1, q⟩ := Option.bind_eq_some_iff.mp q
    obtain ⟨p, h2, q⟩ := Option.bind_eq_some_iff.mp q
    obtain ⟨p2, h3, e1⟩ := map_some q
    subst e1
    exact den_if (hL.T X s _ r h h1) (hL.E X s _ p h h2) (hL.E X s _ p2 h h3)
  · obtain ⟨x, h1, e1⟩ := map_some q
    subst e1
    exact den_tupS (sts_ok hL h h1)
  · obtain ⟨x, h1, e1⟩ := map_some q
    subst e1
    exact den_lstS (sts_ok hL h h1)
  · split at q
    · rename_i ks vs pos hc
      rw [Bool.and_eq_true, List.isEmpty_iff, List.isEmpty_iff] at hc
      obtain ⟨e1, e2⟩ := hc
      subst e1 e2
      cases q
      exact den_dict0
    · split at q
      · rename_i ks vs pos hc hl
        obtain ⟨x, h1, e1⟩ := map_some q
        subst e1
        obtain ⟨k1, k2, k3, k4⟩ := pairsE_ok (pos := pos) hL h h1
        have hl := of_decide_eq_true hl
        refine den_disp (by omega) k1 k2 k3 (fun e0 => ?_) hl (by omega)
        subst e0
        cases vs with
        | nil => exact hc rfl
        | cons a b => cases k3
      · cases q
  · exact cLc_ok hL h q
  · exact cDc_ok hL h q
  · exact cSub_ok hL h q
  · exact cAttr_ok hL h q
  · exact cCall_ok hL h q
  · cases q
theorem stepT_ok {e : Expr} {f : EvB} (h : Ok C G N s X) (q : stepT G N L s e = some f) : DenT X C e f := by
  unfold stepT at q
  split at q
  · exact (andT_ok (fun e f hf => hL.T X s e f h hf) q).t
  · exact (orsT_ok (fun e f hf => hL.T X s e f h hf) q).t
  · obtain ⟨x, h1, e1⟩ := map_some q
    subst e1
    exact denT_not (hL.T X s _ x h h1)
  · exact cCmpT_ok hL h q
  · split at q
    · rename_i ht
      obtain ⟨x, h1, e1⟩ := map_some q
      subst e1
      refine (hL.E X s _ x h h1).test fun whole => ?_
      cases e <;> first | rfl | cases ht
    · cases q
theorem stepL_ok : LvOk C G N (stepL G N L) := ⟨fun X s e f h q => stepE_ok hL h q, fun X s e f h q => stepT_ok hL h q⟩
omit hL
theorem lvl_ok : ∀ n : Nat, LvOk C G N (lvl G N n)
  | 0 => ⟨fun _ _ _ _ _ q => (by cases q), fun _ _ _ _ _ q => (by cases q)⟩
  | n + 1 => stepL_ok (lvl_ok n)
end Pd
set_option maxHeartbeats 1000000
/-! Pc5: statements compiled. -/
namespace Pd
open PySem L2 PyProof.Rows

def xBad : Ex := fun _ => none
def anyX : List Ex → Option Ex
  | [] => none
  | [f] => some f
  | f :: fs => (anyX fs).map (orX f)
def blkX (r : Stmt → Ex) : List Stmt → Ex
  | [] => xNil
  | st :: rest => xSeq (r st) (blkX r rest)
/-- whether name = comprehension stores the other way round -/
def swapB (s : Sx) (t : Str) (px pos : Pos) (scope : Scope) : Bool :=
  s.sc.names.lookup t == some .local && px.line == pos.line && !(scope.names.any fun (n, k) => n == t && (k == .local || k == .cell))
/-- what a, b = x, y does about the order of its stores -/
def swS' (kd : Str → Option NameKind) (ts vs : List Expr) : Option (Option (List Str)) :=
  if !(ts.length == 2 || ts.length == 3) || vs.length != ts.length then some none
  else if vs.any (fun | .Starred .. => true | _ => false) then some none
  else
    let line := (ts.head?.map (·.pos.line)).getD 0
    let names := ts.filterMap fun
      | .Name id pos => if kd id == some .local && pos.line == line then some id else none
      | _ => none
    if names.length != ts.length || names.eraseDups.length != names.length then some none
    else if vs.all (foldedForSure 8) then some none
    else if vs.all (constantsAlone 8) then none
    else some (some names)
def swS (s : Sx) : List Expr → List Expr → Option (Option (List Str)) := swS' fun x => s.sc.names.lookup x

section
variable (G : GC) (N : List Str) (L : Lv) (s : Sx) (is : List Nat) (W : Nat)
def cAsgN (x : Str) (px : Pos) (e : Expr) : Option Ex :=
  if locB s x then (ixOf N x).bind fun i => if i ∈ is then (match e with
    | .ListComp elt gens scope pos => if decide (s.sc.kind = .function) then (if swapB s x px pos scope then (cLc N L s elt gens scope).map (xSet i) else (L.E s (.ListComp elt gens scope pos)).map (xSet i)) else none
    | .DictComp kx vx gens scope pos => if decide (s.sc.kind = .function) then (if swapB s x px pos scope then (match gens with
        | [_] => (cDc N L s kx vx gens scope).map (xSet i)
        | _ => none) else (L.E s (.DictComp kx vx gens scope pos)).map (xSet i)) else none
    | .SetComp _ _ _ _ => none
    | e => (L.E s e).map (xSet i)) else none
  else none
def cPar (ts vs : List Expr) : Option Ex := match ts, vs with
  | [.Name x _, .Name y _], [_, _] => if noStar vs && lclB s x && lclB s y then (ixOf N x).bind fun i => (ixOf N y).bind fun j => if i ∈ is ∧ j ∈ is then (evs L s vs).map (xPar2 i j) else none else none
  | [.Name x _, .Name y _, .Name z _], [_, _, _] => if noStar vs && lclB s x && lclB s y && lclB s z then (ixOf N x).bind fun i => (ixOf N y).bind fun j => (ixOf N z).bind fun l => if i ∈ is ∧ j ∈ is ∧ l ∈ is then (evs L s vs).map (xPar3 i j l) else none else none
  | _, _ => none
def cSetT (ts : List Expr) (e : Expr) : Option Ex := if notComp e then (nmIx N s ts).bind fun js => if inside js is then (L.E s e).map (xSetT (.tup js)) else none else none
def nmsOf : List Expr → List Str
  | [] => []
  | .Name x _ :: es => x :: nmsOf es
  | _ :: es => nmsOf es
def cAsgT (ts : List Expr) (e : Expr) : Option Ex := match e with
  | .Tuple vs _ _ => if decide (s.sc.kind = .function) then (match swS s ts vs with
    | some none => cSetT N L s is ts e
    | some (some names) => if names = nmsOf ts then cPar N L s is ts vs else none
    | none => none) else none
  | _ => cSetT N L s is ts e
def cAsgS (o k e : Expr) : Option Ex := match o with
  | .Name _ _ => (nmSlot N s o).bind fun i => (L.E s k).bind fun fk => (L.E s e).map fun fv => xSetK i fk fv
  | .Attribute x f _ => (nmSlot N s x).bind fun i => (qNm N s k).bind fun q => (L.E s e).bind fun fv => anyX (G.fld.filterMap fun p => if p.2 = f then some (xSetFK p.1 f i q fv) else none)
  | _ => none
def cAsgF (o : Expr) (f : Str) (e : Expr) : Option Ex := (nmSlot N s o).bind fun i => (L.E s e).bind fun fv => anyX (G.fld.filterMap fun p => if p.2 = f then some (xSetF p.1 f i fv) else none)
def augOp : Operator → Option (Int → Int → Int)
  | .Add => some fun i j => i + j
  | .Sub => some fun i j => i - j
  | _ => none
def cRet (e : Expr) : Option Ex := match nmSlot N s e with
  | some i => some (xRet (evMove i))
  | none => (L.E s e).map xRet
def stepS (r : Stmt → Ex) : Stmt → Option Ex
  | .Return (some e) _ => cRet N L s e
  | .Return none _ => some xRetN
  | .Pass _ => some xNil
  | .If c a b _ => (L.T s c).map fun t => xIf t (blkX r a) (blkX r b)
  | .While c a [] _ => (L.T s c).map fun t => whileN t (blkX r a) W
  | .For tg iter a [] _ => if notSet iter then (cIter L s tg iter).bind fun f => (cTg N s tg).bind fun k => if inside k.is is then some (xFor f k (blkX r a)) else none else none
  | .Expr (.Constant (.str _) _ _) _ => some xNil
  | .Expr e _ => if notComp e then (L.E s e).map xDrop else none
  | .Assign [.Name x px] e _ => cAsgN N L s is x px e
  | .Assign [.Tuple ts _ _] e _ => cAsgT N L s is ts e
  | .Assign [.Subscript o k _] e _ => cAsgS G N L s o k e
  | .Assign [.Attribute o f _] e _ => cAsgF G N L s o f e
  | .AugAssign (.Name x _) op e _ => if locB s x then (ixOf N x).bind fun i => if i ∈ is then (L.E s e).bind fun f => (augOp op).map fun k => xAug i f k else none else none
  | _ => none
def cS : Nat → Stmt → Ex
  | 0 => fun _ => xBad
  | n + 1 => fun st => (stepS G N L s is W (cS n) st).getD xBad
end

variable {C : Str → Option Addr} {G : GC} {N : List Str} {s : Sx} {X : Cx} {L : Lv} {is : List Nat} {W : Nat}
theorem denS_bad {st : Stmt} : DenS X C is st xBad := ⟨fun pins s g H Hf d t F r d' I S q => by cases q⟩
theorem denS_alt {st : Stmt} {f g : Ex} (h1 : DenS X C is st f) (h2 : DenS X C is st g) : DenS X C is st (orX f g) := ⟨fun pins s gg H Hf d t F o d' I S q => by
  unfold orX at q
  split at q
  · rename_i r hr
    cases q
    exact h1.run pins s gg H Hf d t F o d' I S hr
  · exact h2.run pins s gg H Hf d t F o d' I S q⟩
theorem denS_any {st : Stmt} : ∀ {fs : List Ex} {f : Ex}, anyX fs = some f → (∀ g, g ∈ fs → DenS X C is st g) → DenS X C is st f
  | [], _, h, _ => by cases h
  | [g], _, h, k => by
    cases h
    exact k _ List.mem_cons_self
  | g :: g2 :: gs, _, h, k => by
    unfold anyX at h
    cases q : anyX (g2 :: gs) with
    | none => rw [q] at h; cases h
    | some r =>
      rw [q] at h
      cases h
      exact denS_alt (k g List.mem_cons_self) (denS_any q fun x hx => k x (List.mem_cons_of_mem _ hx))
theorem blkX_ok {r : Stmt → Ex} (h : ∀ st, DenS X C is st (r st)) : ∀ b : List Stmt, DenB X C is b (blkX r b)
  | [] => denB_nil
  | st :: rest => denB_cons (h st) (blkX_ok h rest)
theorem swT_ok {v t : Expr} {l : Nat} {env : Env} (h : ∀ x p, t ≠ .Name x p) : swapsWith v (some t) l env = pure false := by
  unfold swapsWith
  cases v <;> first | rfl | (cases t <;> first | rfl | exact absurd rfl (h _ _))
theorem blockKind_ok {env : Env} (h : env.scope.kind = .function) : env.blockKind = .function := by
  unfold Env.blockKind
  rw [h]
  rfl
theorem sw_lc {elt : Expr} {gs : List Comprehension} {scope : Scope} {pos py : Pos} {y : Str} {l : Nat} {env : Env} (hs : env.scope = s.sc) (hk : s.sc.kind = .function) : swapsWith (.ListComp elt gs scope pos) (some (.Name y py)) l env = pure (swapB s y py pos scope) := by
  have hb : env.blockKind = .function := blockKind_ok (by rw [hs]; exact hk)
  unfold swapsWith swapB
  rw [← hs]
  simp only [hb, Expr.pos, Env.kindOf]
  rfl
theorem sw_dc {kx vx : Expr} {gs : List Comprehension} {scope : Scope} {pos py : Pos} {y : Str} {l : Nat} {env : Env} (hs : env.scope = s.sc) (hk : s.sc.kind = .function) : swapsWith (.DictComp kx vx gs scope pos) (some (.Name y py)) l env = pure (swapB s y py pos scope) := by
  have hb : env.blockKind = .function := blockKind_ok (by rw [hs]; exact hk)
  unfold swapsWith swapB
  rw [← hs]
  simp only [hb, Expr.pos, Env.kindOf]
  rfl
theorem swS_ok {ts vs : List Expr} {k k2 : Nat} {p p2 : Pos} {env : Env} {r : Option (List Str)} (hs : env.scope = s.sc) (hk : s.sc.kind = .function) (h : swS s ts vs = some r) : swappedStores [.Tuple ts k p] (.Tuple vs k2 p2) env = pure r := by
  have hb : env.blockKind = .function := blockKind_ok (by rw [hs]; exact hk)
  have h : swS' env.kindOf ts vs = some r := by
    rw [← h]
    unfold swS
    rw [← hs]
    rfl
  unfold swS' at h
  unfold swappedStores
  simp only [hb]
  split at h
  · rename_i c
    cases h
    rw [show (((!(ts.length == 2 || ts.length == 3) || vs.length != ts.length) || (ScopeKind.function != ScopeKind.function)) : Bool) = true from by rw [c]; rfl]
    rfl
  · rename_i c
    have c : (!(ts.length == 2 || ts.length == 3) || vs.length != ts.length) = false := by simpa using c
    rw [show (((!(ts.length == 2 || ts.length == 3) || vs.length != ts.length) || (ScopeKind.function != ScopeKind.function)) : Bool) = false from by rw [c]; rfl]
    refine (if_neg (by decide)).trans ?_
    split at h
    · rename_i c2
      cases h
      exact if_pos c2
    · rename_i c2
      refine (if_neg c2).trans ?_
      dsimp only at h
      split at h
      · rename_i c3
        cases h
        exact if_pos c3
      · rename_i c3
        refine (if_neg c3).trans ?_
        split at h
        · rename_i c4
          cases h
          exact if_pos c4
        · rename_i c4
          refine (if_neg c4).trans ?_
          split at h
          · cases h
          · rename_i c5
            cases h
            exact if_neg c5
theorem swN_ok {t e : Expr} {env : Env} (h : ∀ vs k p, e ≠ .Tuple vs k p) : swappedStores [t] e env = pure none := by
  unfold swappedStores
  cases e <;> first | (cases t <;> rfl) | exact absurd rfl (h _ _ _)
end Pd
set_option maxHeartbeats 1000000
/-! Pc6: statements compiled are right. -/
namespace Pd
open PySem L2 PyProof.Rows
variable {C : Str → Option Addr} {G : GC} {N : List Str} {s : Sx} {X : Cx} {L : Lv} {is : List Nat} {W : Nat}
theorem sole_ok {t e : Expr} {l : Nat} {env : Env} (h : notComp e = true) : swapsWithSole [t] e l env = pure false := by
  show swapsWith e (some t) l env = pure false
  exact notComp_ok h
section
variable (hL : LvOk C G N L)
include hL
theorem cLcS_ok {i : Nat} {y : Str} {py spos : Pos} {elt : Expr} {gens : List Comprehension} {scope : Scope} {pos : Pos} {f : Ev} (h : Ok C G N s X) (hy : X.N[i]? = some y) (hyl : X.env.scope.names.lookup y = some .local) (hwr : i ∈ is)
    (hsw : swapsWith (.ListComp elt gens scope pos) (some (.Name y py)) spos.line X.env = pure true) (q : cLc N L s elt gens scope = some f) : DenS X C is (.Assign [.Name y py] (.ListComp elt gens scope pos) spos) (xSet i f) := by
  unfold cLc at q
  split at q
  · rename_i hb
    have ok := blkB_ok h hb
    dsimp only at q
    split at q
    · split at q
      · rename_i hc
        obtain ⟨h0, hs⟩ := hc
        subst h0
        obtain ⟨f1, h1, q⟩ := Option.bind_eq_some_iff.mp q
        obtain ⟨k, h2, q⟩ := Option.bind_eq_some_iff.mp q
        obtain ⟨c, h3, q⟩ := Option.bind_eq_some_iff.mp q
        obtain ⟨e, h4, q⟩ := Option.bind_eq_some_iff.mp q
        split at q
        · rename_i hi
          cases q
          exact denS_setLc h.calm (by rw [h.N_]; exact h.nd) hy hyl hsw (cIter_ok hL h h1) ok (fun sh H a cl fp => cTg_ok (h.blk scope sh H a cl fp) h2) (fun sh H a cl fp => cIfs_ok hL (h.blk scope sh H a cl fp) h3)
            (fun sh H a cl fp => hL.E _ _ _ _ (h.blk scope sh H a cl fp) h4) (fun x => notSet_ok hs) (inside_ok hi) hwr
        · cases q
      · cases q
    · split at q
      · rename_i hc
        obtain ⟨h0, hs, h01, hs1⟩ := hc
        subst h0 h01
        obtain ⟨f1, h1, q⟩ := Option.bind_eq_some_iff.mp q
        obtain ⟨k, h2, q⟩ := Option.bind_eq_some_iff.mp q
        obtain ⟨c, h3, q⟩ := Option.bind_eq_some_iff.mp q
        obtain ⟨f2, h5, q⟩ := Option.bind_eq_some_iff.mp q
        obtain ⟨k1, h6, q⟩ := Option.bind_eq_some_iff.mp q
        obtain ⟨c1, h7, q⟩ := Option.bind_eq_some_iff.mp q
        obtain ⟨e, h4, q⟩ := Option.bind_eq_some_iff.mp q
        split at q
        · rename_i hi
          rw [Bool.and_eq_true] at hi
          cases q
          exact denS_setLc2 h.calm (by rw [h.N_]; exact h.nd) hy hyl hsw (cIter_ok hL h h1) ok (inside_ok hi.2) (fun sh H a cl fp => cTg_ok (h.blk scope sh H a cl fp) h2) (fun sh H a cl fp => cIfs_ok hL (h.blk scope sh H a cl fp) h3)
            (fun sh H a cl fp => cIter_ok hL (h.blk scope sh H a cl fp) h5) (fun sh H a cl fp => cTg_ok (h.blk scope sh H a cl fp) h6) (fun sh H a cl fp => cIfs_ok hL (h.blk scope sh H a cl fp) h7)
            (fun sh H a cl fp => hL.E _ _ _ _ (h.blk scope sh H a cl fp) h4) (fun x => notSet_ok hs) (fun env x => notSet_ok hs1) (inside_ok hi.1) (fun i hi => hi) hwr
        · cases q
      · cases q
    · cases q
  · cases q
theorem cDcS_ok {i : Nat} {y : Str} {py spos : Pos} {kx vx : Expr} {g1 : Comprehension} {scope : Scope} {pos : Pos} {f : Ev} (h : Ok C G N s X) (hy : X.N[i]? = some y) (hyl : X.env.scope.names.lookup y = some .local) (hwr : i ∈ is)
    (hsw : swapsWith (.DictComp kx vx [g1] scope pos) (some (.Name y py)) spos.line X.env = pure true) (q : cDc N L s kx vx [g1] scope = some f) : DenS X C is (.Assign [.Name y py] (.DictComp kx vx [g1] scope pos) spos) (xSet i f) := by
  have hu : X.A.units + 8 < cLine := by have := h.un; omega
  unfold cDc at q
  split at q
  · rename_i hb
    have ok := blkB_ok h hb
    dsimp only at q
    obtain ⟨tg, iter, ifs, a⟩ := g1
    dsimp only at q
    split at q
    · rename_i hc
      obtain ⟨h0, hs⟩ := hc
      subst h0
      obtain ⟨f1, h1, q⟩ := Option.bind_eq_some_iff.mp q
      obtain ⟨k, h2, q⟩ := Option.bind_eq_some_iff.mp q
      obtain ⟨c, h3, q⟩ := Option.bind_eq_some_iff.mp q
      obtain ⟨ek, h4, q⟩ := Option.bind_eq_some_iff.mp q
      obtain ⟨ev, h8, q⟩ := Option.bind_eq_some_iff.mp q
      split at q
      · rename_i hi
        cases q
        exact denS_setDc hu h.calm (by rw [h.N_]; exact h.nd) hy hyl hsw (cIter_ok hL h h1) ok (fun sh H a cl fp => cTg_ok (h.blk scope sh H a cl fp) h2) (fun sh H a cl fp => cIfs_ok hL (h.blk scope sh H a cl fp) h3)
          (fun sh H a cl fp => hL.E _ _ _ _ (h.blk scope sh H a cl fp) h4) (fun sh H a cl fp => hL.E _ _ _ _ (h.blk scope sh H a cl fp) h8) (fun x => notSet_ok hs) (inside_ok hi) hwr
      · cases q
    · cases q
  · cases q
theorem set_ok {i : Nat} {x : Str} {px pos : Pos} {e : Expr} {f : Ev} (h : Ok C G N s X) (hl : locB s x = true) (hi : ixOf N x = some i) (hw : i ∈ is) (hs : swapsWith e (some (.Name x px)) pos.line X.env = pure false) (q : L.E s e = some f) : DenS X C is (.Assign [.Name x px] e pos) (xSet i f) := by
  obtain ⟨k1, k2⟩ := h.loc hl
  exact denS_set (by rw [h.N_]; exact h.nd) (by rw [h.N_]; exact ixOf_ok hi) k1 (hL.E X s e f h q) hs k2 hw
theorem cAsgN_ok {x : Str} {px pos : Pos} {e : Expr} {f : Ex} (h : Ok C G N s X) (q : cAsgN N L s is x px e = some f) : DenS X C is (.Assign [.Name x px] e pos) f := by
  unfold cAsgN at q
  split at q
  · rename_i hl
    obtain ⟨i, hi, q⟩ := Option.bind_eq_some_iff.mp q
    split at q
    · rename_i hw
      have hxi : X.N[i]? = some x := by rw [h.N_]; exact ixOf_ok hi
      split at q
      · split at q
        · rename_i hk
          have hk := of_decide_eq_true hk
          split at q
          · rename_i hsw
            obtain ⟨g, h1, e1⟩ := map_some q
            subst e1
            have hyl : X.env.scope.names.lookup x = some .local := by
              rw [h.sc_]
              unfold swapB at hsw
              simp only [Bool.and_eq_true] at hsw
              simpa using hsw.1.1
            exact cLcS_ok hL h hxi hyl hw (by rw [sw_lc h.sc_ hk, hsw]) h1
          · rename_i hsw
            obtain ⟨g, h1, e1⟩ := map_some q
            subst e1
            exact set_ok hL h hl hi hw (by rw [sw_lc h.sc_ hk, Bool.eq_false_iff.mpr hsw]) h1
        · cases q
      · split at q
        · rename_i hk
          have hk := of_decide_eq_true hk
          split at q
          · rename_i hsw
            split at q
            · obtain ⟨g, h1, e1⟩ := map_some q
              subst e1
              have hyl : X.env.scope.names.lookup x = some .local := by
                rw [h.sc_]
                unfold swapB at hsw
                simp only [Bool.and_eq_true] at hsw
                simpa using hsw.1.1
              exact cDcS_ok hL h hxi hyl hw (by rw [sw_dc h.sc_ hk, hsw]) h1
            · cases q
          · rename_i hsw
            obtain ⟨g, h1, e1⟩ := map_some q
            subst e1
            exact set_ok hL h hl hi hw (by rw [sw_dc h.sc_ hk, Bool.eq_false_iff.mpr hsw]) h1
        · cases q
      · cases q
      · rename_i e' n1 n2 n3
        obtain ⟨g, h1, e1⟩ := map_some q
        subst e1
        refine set_ok hL h hl hi hw (notComp_ok ?_) h1
        cases e <;> first | rfl | exact absurd rfl (n1 _ _ _ _) | exact absurd rfl (n2 _ _ _ _ _) | exact absurd rfl (n3 _ _ _ _)
    · cases q
  · cases q
theorem cPar_ok {ts vs : List Expr} {kt k2 : Nat} {pt p2 pos : Pos} {f : Ex} (h : Ok C G N s X) (hk : s.sc.kind = .function) (hw : swS s ts vs = some (some (nmsOf ts))) (q : cPar N L s is ts vs = some f) : DenS X C is (.Assign [.Tuple ts kt pt] (.Tuple vs k2 p2) pos) f := by
  have hsw := swS_ok (k := kt) (k2 := k2) (p := pt) (p2 := p2) h.sc_ hk hw
  unfold cPar at q
  split at q
  · split at q
    · rename_i hc
      simp only [Bool.and_eq_true] at hc
      obtain ⟨⟨hn, hx⟩, hy⟩ := hc
      obtain ⟨i, hi, q⟩ := Option.bind_eq_some_iff.mp q
      obtain ⟨j, hj, q⟩ := Option.bind_eq_some_iff.mp q
      split at q
      · rename_i hm
        obtain ⟨fs, h1, e1⟩ := map_some q
        subst e1
        exact denS_par2 h.calm (by rw [h.N_]; exact h.nd) (by rw [h.N_]; exact ixOf_ok hi) (by rw [h.N_]; exact ixOf_ok hj) (by rw [h.sc_]; exact lclB_ok hx) (by rw [h.sc_]; exact lclB_ok hy) (evs_ok hL h hn h1) hsw hm.1 hm.2 (sole_ok rfl)
      · cases q
    · cases q
  · split at q
    · rename_i hc
      simp only [Bool.and_eq_true] at hc
      obtain ⟨⟨⟨hn, hx⟩, hy⟩, hz⟩ := hc
      obtain ⟨i, hi, q⟩ := Option.bind_eq_some_iff.mp q
      obtain ⟨j, hj, q⟩ := Option.bind_eq_some_iff.mp q
      obtain ⟨l, hl, q⟩ := Option.bind_eq_some_iff.mp q
      split at q
      · rename_i hm
        obtain ⟨fs, h1, e1⟩ := map_some q
        subst e1
        exact denS_par3 h.calm (by rw [h.N_]; exact h.nd) (by rw [h.N_]; exact ixOf_ok hi) (by rw [h.N_]; exact ixOf_ok hj) (by rw [h.N_]; exact ixOf_ok hl) (by rw [h.sc_]; exact lclB_ok hx) (by rw [h.sc_]; exact lclB_ok hy) (by rw [h.sc_]; exact lclB_ok hz) (evs_ok hL h hn h1) hsw hm.1 hm.2.1 hm.2.2 (sole_ok rfl)
      · cases q
    · cases q
  · cases q
theorem cSetT_ok {ts : List Expr} {e : Expr} {kt : Nat} {pt pos : Pos} {f : Ex} (h : Ok C G N s X) (hw : swappedStores [.Tuple ts kt pt] e X.env = pure none) (q : cSetT N L s is ts e = some f) : DenS X C is (.Assign [.Tuple ts kt pt] e pos) f := by
  unfold cSetT at q
  split at q
  · rename_i hn
    obtain ⟨js, h1, q⟩ := Option.bind_eq_some_iff.mp q
    split at q
    · rename_i hi
      obtain ⟨g, h2, e1⟩ := map_some q
      subst e1
      exact denS_setT (denG_tup h.calm (by rw [h.N_]; exact h.nd) (nmIx_ok h h1)) (hL.E X s e g h h2) (sole_ok hn) hw rfl (inside_ok hi)
    · cases q
  · cases q
theorem cAsgT_ok {ts : List Expr} {e : Expr} {kt : Nat} {pt pos : Pos} {f : Ex} (h : Ok C G N s X) (q : cAsgT N L s is ts e = some f) : DenS X C is (.Assign [.Tuple ts kt pt] e pos) f := by
  unfold cAsgT at q
  split at q
  · split at q
    · rename_i hk
      have hk := of_decide_eq_true hk
      split at q
      · rename_i hs
        exact cSetT_ok hL h (swS_ok h.sc_ hk hs) q
      · rename_i names hs
        split at q
        · rename_i e1
          rw [e1] at hs
          exact cPar_ok hL h hk hs q
        · cases q
      · cases q
    · cases q
  · rename_i hn
    exact cSetT_ok hL h (swN_ok hn) q
theorem cAsgS_ok {o k e : Expr} {pos' pos : Pos} {f : Ex} (h : Ok C G N s X) (q : cAsgS G N L s o k e = some f) : DenS X C is (.Assign [.Subscript o k pos'] e pos) f := by
  have hu := h.un
  unfold cAsgS at q
  split at q
  · obtain ⟨i, h1, q⟩ := Option.bind_eq_some_iff.mp q
    obtain ⟨fk, h2, q⟩ := Option.bind_eq_some_iff.mp q
    obtain ⟨fv, h3, e1⟩ := map_some q
    subst e1
    obtain ⟨x, px, e1, k1, k2, k3, k4⟩ := nm_facts h h1
    rw [e1]
    exact denS_setK (by omega) k1 k2 k3 k4 (hL.E X s _ fk h h2) (hL.E X s _ fv h h3) (swT_ok fun _ _ z => by cases z)
  · obtain ⟨i, h1, q⟩ := Option.bind_eq_some_iff.mp q
    obtain ⟨fk, h2, q⟩ := Option.bind_eq_some_iff.mp q
    obtain ⟨fv, h3, q⟩ := Option.bind_eq_some_iff.mp q
    refine denS_any q fun g hg => ?_
    obtain ⟨p, hp, e1⟩ := List.mem_filterMap.mp hg
    split at e1
    · rename_i e2
      cases e1
      subst e2
      obtain ⟨cl, hc, hna⟩ := h.g.fld p hp
      obtain ⟨x, px, e1, k1, k2, k3, k4⟩ := nm_facts h h1
      subst e1
      exact denS_setFK (by omega) hc hna k1 k2 k3 k4 (base_ok rfl) (qNm_ok h h2) (hL.E X s _ fv h h3) (swT_ok fun _ _ z => by cases z)
    · cases e1
  · cases q
theorem cAsgF_ok {o : Expr} {a : Str} {e : Expr} {pos' pos : Pos} {f : Ex} (h : Ok C G N s X) (q : cAsgF G N L s o a e = some f) : DenS X C is (.Assign [.Attribute o a pos'] e pos) f := by
  unfold cAsgF at q
  obtain ⟨i, h1, q⟩ := Option.bind_eq_some_iff.mp q
  obtain ⟨fv, h3, q⟩ := Option.bind_eq_some_iff.mp q
  refine denS_any q fun g hg => ?_
  obtain ⟨p, hp, e1⟩ := List.mem_filterMap.mp hg
  split at e1
  · rename_i e2
    cases e1
    subst e2
    obtain ⟨cl, hc, hna⟩ := h.g.fld p hp
    obtain ⟨x, px, e1, k1, k2, k3, k4⟩ := nm_facts h h1
    subst e1
    exact denS_setF hc hna k1 k2 k3 k4 (hL.E X s _ fv h h3) (swT_ok fun _ _ z => by cases z)
  · cases e1
theorem augOp_ok {op : Operator} {k : Int → Int → Int} (q : augOp op = some k) : PIp X op (ipI k) := by
  unfold augOp at q
  split at q
  · cases q
    exact ip_add
  · cases q
    exact ip_sub
  · cases q
theorem cRet_ok {e : Expr} {pos : Pos} {f : Ex} (h : Ok C G N s X) (q : cRet N L s e = some f) : DenS X C is (.Return (some e) pos) f := by
  unfold cRet at q
  split at q
  · rename_i i hi
    cases q
    obtain ⟨x, px, e1, k1, k2, k3, k4⟩ := nm_facts h hi
    subst e1
    exact denS_ret (den_move k1 k2 k3 k4)
  · obtain ⟨g, h1, e1⟩ := map_some q
    subst e1
    exact denS_ret (hL.E X s _ g h h1)
theorem stepS_ok {r : Stmt → Ex} {st : Stmt} {f : Ex} (h : Ok C G N s X) (hp : PassesOwn (model X.prog X.w) X.A X.env X.xe) (hr : ∀ st, DenS X C is st (r st)) (q : stepS G N L s is W r st = some f) : DenS X C is st f := by
  unfold stepS at q
  split at q
  · exact cRet_ok hL h q
  · cases q
    exact denS_retN
  · cases q
    exact denS_pass
  · obtain ⟨t, h1, e1⟩ := map_some q
    subst e1
    exact denS_if (hL.T X s _ t h h1) (blkX_ok hr _) (blkX_ok hr _)
  · obtain ⟨t, h1, e1⟩ := map_some q
    subst e1
    exact denS_while hp (hL.T X s _ t h h1) (blkX_ok hr _)
  · split at q
    · rename_i hs
      obtain ⟨g, h1, q⟩ := Option.bind_eq_some_iff.mp q
      obtain ⟨k, h2, q⟩ := Option.bind_eq_some_iff.mp q
      split at q
      · rename_i hi
        cases q
        exact denS_for hp h.calm (cIter_ok hL h h1) (cTg_ok h h2) (blkX_ok hr _) (fun x => notSet_ok hs) (inside_ok hi)
      · cases q
    · cases q
  · cases q
    exact denS_doc
  · split at q
    · rename_i hn
      obtain ⟨t, h1, e1⟩ := map_some q
      subst e1
      exact denS_drop (hL.E X s _ t h h1) (notComp_ok hn)
    · cases q
  · exact cAsgN_ok hL h q
  · exact cAsgT_ok hL h q
  · exact cAsgS_ok hL h q
  · exact cAsgF_ok hL h q
  · split at q
    · rename_i hl
      obtain ⟨i, hi, q⟩ := Option.bind_eq_some_iff.mp q
      split at q
      · rename_i hw
        obtain ⟨g, h1, q⟩ := Option.bind_eq_some_iff.mp q
        obtain ⟨k, h2, e1⟩ := map_some q
        subst e1
        obtain ⟨k1, k2⟩ := h.loc hl
        exact denS_aug (by rw [h.N_]; exact h.nd) (by rw [h.N_]; exact ixOf_ok hi) k1 (hL.E X s _ g h h1) (augOp_ok hL h2) k2 hw
      · cases q
    · cases q
  · cases q
theorem cS_ok (h : Ok C G N s X) (hp : PassesOwn (model X.prog X.w) X.A X.env X.xe) : ∀ (n : Nat) (st : Stmt), DenS X C is st (cS G N L s is W n st)
  | 0, st => denS_bad
  | n + 1, st => by
    unfold cS
    cases q : stepS G N L s is W (cS G N L s is W n) st with
    | none => exact denS_bad
    | some f => exact stepS_ok hL h hp (cS_ok h hp n) q
end
end Pd
set_option maxHeartbeats 1000000
/-! Pc7: defs by their texts: what each computes, and that it does. -/
namespace Pd
open PySem L2 PyProof.Rows

inductive DK where
  | val | mut | ini (c : Str) | prop (c : Str) | meth (c : Str)
structure Spec where
  kind : DK
  name : Str
  N : List Str
  st : Stmt
def argNames (st : Stmt) : List Str := (defArgs st).args.map (·.arg)
def Spec.ps (sp : Spec) : List Str := argNames sp.st
def fnScopeB (N ps : List Str) (sc : Scope) : Bool := decide (sc.kind = .function) && !sc.isCoroutine && !sc.isGenerator && decide N.Nodup && decide (N.take ps.length = ps) &&
  (ps.all fun x => decide (sc.names.lookup x = some .local) || decide (sc.names.lookup x = some .cell)) && sc.names.all fun y => !decide (y.2 = .free)
theorem fnScopeB_ok {N ps : List Str} {sc : Scope} (h : fnScopeB N ps sc = true) : FnScope N ps sc := by
  unfold fnScopeB at h
  simp only [Bool.and_eq_true, decide_eq_true_eq, List.all_eq_true, Bool.or_eq_true, Bool.not_eq_true', decide_eq_false_iff_not] at h
  obtain ⟨⟨⟨⟨⟨⟨h1, h2⟩, h3⟩, h4⟩, h5⟩, h6⟩, h7⟩ := h
  exact ⟨h1, h2, h3, h4, h5, h6, h7⟩
def fuelE : Nat := 24
def fuelS : Nat := 12
def fuelW : Nat := 4000
def isOf : DK → List Str → List Nat
  | .mut, N => (List.range N.length).tail
  | .ini _, N => (List.range N.length).tail
  | _, N => List.range N.length
/-- what its body does -/
def bodyX (G : GC) (sp : Spec) : Ex := blkX (cS G sp.N (lvl G sp.N fuelE) ⟨true, defScope sp.st⟩ (isOf sp.kind sp.N) fuelW fuelS) (defBody sp.st)
def endV : Option (Fl × PEnv) → Option O
  | some (.ret o, _) => some o
  | some (.nx, _) => some (.val .non)
  | none => none
def endM : Option (Fl × PEnv) → Option (O × O)
  | some (.ret o, d) => (d.getD 0 none).map fun z => (o, z)
  | some (.nx, d) => (d.getD 0 none).map fun z => (.val .non, z)
  | none => none
def fnV (G : GC) (sp : Spec) (ds : List D) : Option O := endV (bodyX G sp (startE sp.N.length ds))
def fnM (G : GC) (sp : Spec) (o : O) (ds : List D) : Option (O × O) := endM (bodyX G sp (startM sp.N.length o ds))
def addSp (G : GC) (k : Nat) (sp : Spec) : GC := match sp.kind with
  | .val => { G with fe := ⟨sp.name, sp.ps.length, k, fnV G sp⟩ :: G.fe }
  | .mut => { G with fm := ⟨sp.name, sp.ps.length - 1, k, fnM G sp⟩ :: G.fm }
  | .ini c => { G with fc := ⟨c, sp.ps.length - 1, k, fnM G sp⟩ :: G.fc }
  | .prop c => { G with fp := ⟨c, sp.name, k, fnV G sp⟩ :: G.fp }
  | .meth c => { G with fs := ⟨c, sp.name, sp.ps.length - 1, k, fnV G sp⟩ :: G.fs }
def specOk (sp : Spec) : Bool := fnScopeB sp.N sp.ps (defScope sp.st) && nmOk sp.name && (match sp.kind with
  | .val => true
  | .mut => decide (0 < sp.ps.length)
  | .ini c => decide (0 < sp.ps.length) && nmOk c
  | .prop _ => decide (sp.ps.length = 1)
  | .meth _ => decide (0 < sp.ps.length))

section
variable (P : Program) (w : World) (K : PySem.W.Frag) (mg : Str → Option Value) (base : Heap) (C : Str → Option Addr)
/-- what the head must tell of a def -/
def Facts (sp : Spec) : Prop := match sp.kind with
  | .ini c => ∃ (cl f : Addr) (fd : FuncData) (x qual : Str), Fun K x qual sp.st f fd ∧ C c = some cl ∧ mg c = some (.ref cl) ∧ Mk K cl f ∧ Binds K fd sp.ps []
  | .prop c => ∃ (cl p f : Addr) (fd : FuncData) (x qual : Str), Fun K x qual sp.st f fd ∧ C c = some cl ∧ Cls K cl ∧ PropOf K cl sp.name p f ∧ Binds K fd sp.ps []
  | .meth c => ∃ (cl f : Addr) (fd : FuncData) (x qual : Str), Fun K x qual sp.st f fd ∧ C c = some cl ∧ Cls K cl ∧ Meth K cl sp.name f ∧ Binds K fd sp.ps []
  | _ => ∃ (f : Addr) (fd : FuncData) (x qual : Str), Fun K x qual sp.st f fd ∧ mg sp.name = some (.ref f) ∧ PySem.W.keepIn K (.ref f) = true ∧ Binds K fd sp.ps []
def GOkM (k : Nat) (G : GC) : Prop := ∀ X : Cx, X.prog = P → X.w = w → X.K = K → X.mg = mg → X.base = base → Room k X.A → GOk X C G
end
section
variable {P : Program} {w : World} {K : PySem.W.Frag} {mg : Str → Option Value} {base : Heap} {C : Str → Option Addr} {G : GC} {k : Nat} {sp : Spec}
theorem body_ok (h : GOkM P w K mg base C k G) (S : FnScope sp.N sp.ps (defScope sp.st)) (X : Cx) (hi : In P w K mg base k sp.N (defScope sp.st) X) (hp : PassesOwn (model X.prog X.w) X.A X.env X.xe) :
    DenB X C (isOf sp.kind sp.N) (defBody sp.st) (bodyX G sp) := by
  have ok : Ok C G sp.N ⟨true, defScope sp.st⟩ X := ⟨hi.N_, S.nd, hi.sc_, hi.calm, fun _ x => by rw [hi.fn], by have := hi.room.un; omega, h X hi.prog hi.w_ hi.K_ hi.mg_ hi.base_ hi.room⟩
  exact blkX_ok (fun st => cS_ok (lvl_ok fuelE) ok hp fuelS st) _
theorem fnV_ok (h : GOkM P w K mg base C k G) (S : FnScope sp.N sp.ps (defScope sp.st)) {x qual : Str} {f : Addr} {fd : FuncData} (F : Fun K x qual sp.st f fd) : FnOk P w K mg base CX0 (k + 1) f fd sp.ps (spV K w C sp.ps.length (fnV G sp)) := by
  refine fn_den (is := isOf sp.kind sp.N) F S rfl (fun X hi hp => body_ok h S X hi hp) fun ds o hl q => ?_
  unfold fnV at q
  cases e : bodyX G sp (startE sp.N.length ds) with
  | none => rw [e] at q; cases q
  | some r =>
    rw [e] at q
    obtain ⟨r1, d'⟩ := r
    cases r1 with
    | nx =>
      cases q
      exact .inr ⟨rfl, d', rfl⟩
    | ret o' =>
      cases q
      exact .inl ⟨d', rfl⟩
theorem fnM_ok (h : GOkM P w K mg base C k G) (S : FnScope sp.N sp.ps (defScope sp.st)) (h0 : 0 ∉ isOf sp.kind sp.N) (hn : 0 < sp.ps.length) {x qual : Str} {f : Addr} {fd : FuncData} (F : Fun K x qual sp.st f fd) :
    FnOk P w K mg base CX0 (k + 1) f fd sp.ps (spM K w C (sp.ps.length - 1) (fnM G sp)) := by
  refine fn_denM (is := isOf sp.kind sp.N) F S (by omega) h0 (fun X hi hp => body_ok h S X hi hp) fun o ds r o' hl q => ?_
  unfold fnM at q
  cases e : bodyX G sp (startM sp.N.length o ds) with
  | none => rw [e] at q; cases q
  | some z =>
    rw [e] at q
    obtain ⟨r1, d'⟩ := z
    cases r1 with
    | nx =>
      obtain ⟨z, h1, h2⟩ := map_some q
      cases h2
      exact .inr ⟨rfl, d', rfl, getD_back h1⟩
    | ret o2 =>
      obtain ⟨z, h1, h2⟩ := map_some q
      cases h2
      exact .inl ⟨d', rfl, getD_back h1⟩
theorem tail_0 {n : Nat} : 0 ∉ (List.range n).tail := by
  cases n with
  | zero => simp
  | succ n =>
    rw [List.range_succ_eq_map]
    simp
theorem GOk.cons_fe {X : Cx} {f : Fe} (h : GOk X C G) (hf : FeOk X C f) : GOk X C { G with fe := f :: G.fe } :=
  ⟨fun g hg => (List.mem_cons.mp hg).elim (fun e => e ▸ hf) (h.fe g), h.fm, h.fc, h.fp, h.fs, h.fld, h.gi, h.gs, h.bi⟩
theorem GOk.cons_fm {X : Cx} {f : FeM} (h : GOk X C G) (hf : FeMOk X C f) : GOk X C { G with fm := f :: G.fm } :=
  ⟨h.fe, fun g hg => (List.mem_cons.mp hg).elim (fun e => e ▸ hf) (h.fm g), h.fc, h.fp, h.fs, h.fld, h.gi, h.gs, h.bi⟩
theorem GOk.cons_fc {X : Cx} {f : FeC} (h : GOk X C G) (hf : FeCOk X C f) : GOk X C { G with fc := f :: G.fc } :=
  ⟨h.fe, h.fm, fun g hg => (List.mem_cons.mp hg).elim (fun e => e ▸ hf) (h.fc g), h.fp, h.fs, h.fld, h.gi, h.gs, h.bi⟩
theorem GOk.cons_fp {X : Cx} {f : FeP} (h : GOk X C G) (hf : FePOk X C f) : GOk X C { G with fp := f :: G.fp } :=
  ⟨h.fe, h.fm, h.fc, fun g hg => (List.mem_cons.mp hg).elim (fun e => e ▸ hf) (h.fp g), h.fs, h.fld, h.gi, h.gs, h.bi⟩
theorem GOk.cons_fs {X : Cx} {f : FeS} (h : GOk X C G) (hf : FeSOk X C f) : GOk X C { G with fs := f :: G.fs } :=
  ⟨h.fe, h.fm, h.fc, h.fp, fun g hg => (List.mem_cons.mp hg).elim (fun e => e ▸ hf) (h.fs g), h.fld, h.gi, h.gs, h.bi⟩
theorem add_ok (h : GOkM P w K mg base C k G) (hs : specOk sp = true) (hF : Facts K mg C sp) : GOkM P w K mg base C (k + 2) (addSp G (k + 1) sp) := by
  unfold specOk at hs
  rw [Bool.and_eq_true, Bool.and_eq_true] at hs
  obtain ⟨⟨hS, hn⟩, hk⟩ := hs
  have S := fnScopeB_ok hS
  intro X e1 e2 e3 e4 e5 R
  have old := h X e1 e2 e3 e4 e5 (R.mono (by omega))
  have R1 : Room (k + 1) X.A := R.mono (by omega)
  unfold addSp
  unfold Facts at hF
  split
  · rename_i hkd
    rw [hkd] at hF
    obtain ⟨f, fd, x, qual, F, hm, hkp, hb⟩ := hF
    have ok := fnV_ok h S F
    subst e1 e2 e3 e4 e5
    exact old.cons_fe ⟨f, fd, sp.ps, hm, hkp, hb, nmOk_d hn, ok, R1⟩
  · rename_i hkd
    rw [hkd] at hF hk
    obtain ⟨f, fd, x, qual, F, hm, hkp, hb⟩ := hF
    have ok := fnM_ok h S (by rw [hkd]; exact tail_0) (of_decide_eq_true hk) F
    subst e1 e2 e3 e4 e5
    exact old.cons_fm ⟨f, fd, sp.ps, hm, hkp, hb, nmOk_d hn, ok, R1⟩
  · rename_i c hkd
    rw [hkd] at hF hk
    obtain ⟨cl, f, fd, x, qual, F, hc, hm, hmk, hb⟩ := hF
    rw [Bool.and_eq_true] at hk
    have ok := fnM_ok h S (by rw [hkd]; exact tail_0) (of_decide_eq_true hk.1) F
    subst e1 e2 e3 e4 e5
    exact old.cons_fc ⟨cl, f, fd, sp.ps, hc, hm, hmk, hb, nmOk_d hk.2, ok, R⟩
  · rename_i c hkd
    rw [hkd] at hF hk
    obtain ⟨cl, p, f, fd, x, qual, F, hc, hcl, hp, hb⟩ := hF
    have ok := fnV_ok h S F
    rw [of_decide_eq_true hk] at ok
    subst e1 e2 e3 e4 e5
    exact old.cons_fp ⟨cl, p, f, fd, sp.ps, hc, hcl, hp, hb, ok, R⟩
  · rename_i c hkd
    rw [hkd] at hF hk
    obtain ⟨cl, f, fd, x, qual, F, hc, hcl, hm, hb⟩ := hF
    have ok := fnV_ok h S F
    have hl := of_decide_eq_true hk
    rw [show sp.ps.length = sp.ps.length - 1 + 1 from by omega] at ok
    subst e1 e2 e3 e4 e5
    exact old.cons_fs ⟨cl, f, fd, sp.ps, hc, hcl, hm, hb, ok, R1⟩
/-- all defs, one after another -/
def addAllSp (G : GC) (k : Nat) : List Spec → GC
  | [] => G
  | sp :: r => addAllSp (addSp G (k + 1) sp) (k + 2) r
theorem addAll_ok : ∀ {sps : List Spec} {G : GC} {k : Nat}, GOkM P w K mg base C k G → (∀ sp, sp ∈ sps → specOk sp = true ∧ Facts K mg C sp) → GOkM P w K mg base C (k + 2 * sps.length) (addAllSp G k sps)
  | [], _, _, h, _ => h
  | sp :: r, G, k, h, hs => by
    have h1 := add_ok h (hs sp List.mem_cons_self).1 (hs sp List.mem_cons_self).2
    have h2 := addAll_ok (sps := r) h1 fun x hx => hs x (List.mem_cons_of_mem _ hx)
    have e : k + 2 * (sp :: r).length = k + 2 + 2 * r.length := by rw [List.length_cons]; omega
    rw [e]
    exact h2
end
end Pd
set_option maxHeartbeats 1000000
/-! Pl0: the tape and the draws of the laws. -/
namespace Pd
open PySem L2 PyProof.Rows
/-! ### the texts of _law_tape and _law_pick, compiled -/
def lx (i : Int) : Opn := .ex (evC (.int i))
def bx (op : D → D → Option O) (a b : Opn) : Ev := evN [a, b] (r2 op)
def ixK (k : Str) : Ev := bx rIx (.slot 0) (.ex (evC (.str k)))
def intX (e : Ev) : Ev := evN [.ex e] rInt1
def pickX : Ex :=
  xSeq (xIf (evB (bx (rCmp .GtE) (.ex (ixK "digits")) (.slot 1)))
    (xSeq (xSet 2 (bx rMod (.ex (intX (ixK "digits"))) (.slot 1)))
      (xSeq (xSetK 0 (evC (.str "digits")) (bx rDiv (.ex (ixK "digits")) (.slot 1)))
        (xSeq (xRet (evMove 2)) xNil))) xNil)
  (xSeq (xSetK 0 (evC (.str "mixed")) (bx rMod (.ex (intX (bx rAdd (.ex (bx rMul (.ex (ixK "mixed")) (lx 40014))) (lx 1031)))) (lx 2147483563)))
    (xSeq (xSet 3 (bx rMod (.ex (intX (bx rPow (.ex (ixK "mixed")) (lx 2)))) (lx 2147483399)))
      (xSeq (xRet (bx rMod (.ex (intX (bx rDiv (.ex (bx rMod (.ex (intX (bx rPow (.slot 3) (lx 3)))) (lx 998244353))) (lx 13)))) (.slot 1))) xNil)))
def tapeX : Ex :=
  xSeq (xSet 2 (bx rAdd (lx 101) (.ex (bx rMul (.slot 1) (lx 53)))))
  (xSeq (xFor (evIt (evVar 0)) (.name 3) (xSeq (xSet 2 (bx rAdd (.ex (bx rMod (.ex (intX (bx rPow (.ex (bx rAdd (.ex (bx rAdd (.ex (bx rMul (.slot 2) (lx 30029))) (.ex (bx rMul (.slot 3) (.slot 3))))) (lx 13))) (lx 2)))) (lx 2147483563))) (lx 2))) xNil))
    (xSeq (xSet 4 (evIf (tbAnd (evB (bx (rCmp .Lt) (.slot 1) (.ex (evN [.slot 0] rLen)))) (evB (bx (rCmp .GtE) (.ex (bx rIx (.slot 0) (.slot 1))) (.ex (bx rPow (lx 10) (lx 18))))))
        (bx rSub (.ex (bx rIx (.slot 0) (.slot 1))) (.ex (bx rPow (lx 10) (lx 18)))) (evC (.int 0))))
      (xSeq (xRet (evDisp [(evC (.str "digits"), evVar 4), (evC (.str "mixed"), evVar 2)])) xNil)))
end Pd
set_option maxHeartbeats 1000000
/-! Pl1: what a draw gives. -/
namespace Pd
open PySem L2 PyProof.Rows
def tapeO (dg mx : Int) : O := .dic [(.str "digits", .val (.int dg)), (.str "mixed", .val (.int mx))]
theorem ixK_d (dg mx : Int) (tl : PEnv) : ixK "digits" (some (tapeO dg mx) :: tl) = some (.val (.int dg), some (tapeO dg mx) :: tl) := by kernel_rfl
theorem ixK_m (dg mx : Int) (tl : PEnv) : ixK "mixed" (some (tapeO dg mx) :: tl) = some (.val (.int mx), some (tapeO dg mx) :: tl) := by kernel_rfl
theorem setK_d {dg mx v : Int} {tl : PEnv} {f : Ev} (h : f (some (tapeO dg mx) :: tl) = some (.val (.int v), some (tapeO dg mx) :: tl)) :
    xSetK 0 (evC (.str "digits")) f (some (tapeO dg mx) :: tl) = some (.nx, some (tapeO v mx) :: tl) := by
  unfold xSetK
  rw [h]
  kernel_rfl
theorem setK_m {dg mx v : Int} {tl : PEnv} {f : Ev} (h : f (some (tapeO dg mx) :: tl) = some (.val (.int v), some (tapeO dg mx) :: tl)) :
    xSetK 0 (evC (.str "mixed")) f (some (tapeO dg mx) :: tl) = some (.nx, some (tapeO dg v) :: tl) := by
  unfold xSetK
  rw [h]
  kernel_rfl
theorem bx_ee {op : D → D → Option O} {f g : Ev} {d d1 d2 : PEnv} {a b : D} {o : O} (h1 : f d = some (.val a, d1)) (h2 : g d1 = some (.val b, d2)) (h3 : op a b = some o) : bx op (.ex f) (.ex g) d = some (o, d2) := by
  simp [-List.getD_eq_getElem?_getD, bx, evN, goL, Opn.go, lookL, Opn.look, O.shs, O.sh, r2, h1, h2, h3, O.d]
theorem bx_es {op : D → D → Option O} {f : Ev} {d d1 : PEnv} {a b : D} {o : O} {i : Nat} (h1 : f d = some (.val a, d1)) (h2 : d1.getD i none = some (.val b)) (h3 : op a b = some o) : bx op (.ex f) (.slot i) d = some (o, d1) := by
  simp [-List.getD_eq_getElem?_getD, bx, evN, goL, Opn.go, lookL, Opn.look, O.shs, O.sh, r2, h1, h2, h3, O.d]
theorem bx_se {op : D → D → Option O} {g : Ev} {d d1 : PEnv} {a b : D} {o : O} {i : Nat} (h1 : d.getD i none = some (.val a)) (h2 : g d = some (.val b, d1)) (h4 : d1.getD i none = some (.val a)) (h3 : op a b = some o) : bx op (.slot i) (.ex g) d = some (o, d1) := by
  simp [-List.getD_eq_getElem?_getD, bx, evN, goL, Opn.go, lookL, Opn.look, O.shs, O.sh, r2, h1, h2, h3, h4, O.d]
theorem bx_ss {op : D → D → Option O} {d : PEnv} {a b : D} {o : O} {i j : Nat} (h1 : d.getD i none = some (.val a)) (h2 : d.getD j none = some (.val b)) (h3 : op a b = some o) : bx op (.slot i) (.slot j) d = some (o, d) := by
  simp [-List.getD_eq_getElem?_getD, bx, evN, goL, Opn.go, lookL, Opn.look, O.shs, O.sh, r2, h1, h2, h3, O.d]
theorem intX_e {f : Ev} {d d1 : PEnv} {i : Int} (h : f d = some (.val (.int i), d1)) : intX f d = some (.val (.int i), d1) := by
  simp [intX, evN, goL, Opn.go, lookL, Opn.look, O.shs, O.sh, rInt1, h, O.d, D.toI]
theorem evC_e {x : D} {d : PEnv} : evC x d = some (.val x, d) := rfl
theorem rAdd_i {a b : Int} : rAdd (.int a) (.int b) = some (.val (.int (a + b))) := rfl
theorem rSub_i {a b : Int} : rSub (.int a) (.int b) = some (.val (.int (a - b))) := rfl
theorem rMul_i {a b : Int} (h : mulOk a b = true) : rMul (.int a) (.int b) = some (.val (.int (a * b))) := by
  simp [rMul, alt, onInts, both, D.asInt, h]
theorem rMod_i {a b : Int} (h : 0 < b) : rMod (.int a) (.int b) = some (.val (.int (a % b))) := by
  simp [rMod, onInts, both, D.asInt, h]
theorem rDiv_i {a b : Int} (h : 0 < b) (h2 : b < 1073741824) : rDiv (.int a) (.int b) = some (.val (.int (a / b))) := by
  simp [rDiv, onInts, both, D.asInt, h, h2]
theorem rPow_i {a b : Int} (h : powOk a b = true) : rPow (.int a) (.int b) = some (.val (.int (a ^ b.toNat))) := by
  simp [rPow, onInts, both, D.asInt, h]
theorem rGe_i {a b : Int} : rCmp .GtE (.int a) (.int b) = some (.val (.bl (decide (b ≤ a)))) := rfl
theorem rLt_i {a b : Int} : rCmp .Lt (.int a) (.int b) = some (.val (.bl (decide (a < b)))) := rfl
theorem evB_e {f : Ev} {d d1 : PEnv} {b : Bool} (h : f d = some (.val (.bl b), d1)) : evB f d = some (b, d1) := by
  simp [evB, h]
theorem bits64 {x : Int} (h1 : -(2 ^ 64) < x) (h2 : x < 2 ^ 64) : Builtin.Int.intBits x ≤ 64 := PySem.intBits_le_64 h1 h2
theorem mulOk_r {a b : Int} (h : Builtin.Int.intBits b ≤ 64) : mulOk a b = true := by
  unfold mulOk
  rw [show decide (Builtin.Int.intBits b > shortFactorBits) = false from by
    rw [decide_eq_false_iff_not]
    unfold shortFactorBits
    omega]
  simp
theorem mulOk_big {a b : Int} (ha : Builtin.Int.intBits a ≤ 1048576) (hb : Builtin.Int.intBits b ≤ 1048576) : mulOk a b = true := by
  have : Builtin.Int.intTooBig ((Builtin.Int.intBits a : Int) + (Builtin.Int.intBits b : Int)) = false := by
    unfold Builtin.Int.intTooBig bitsLine
    rw [decide_eq_false_iff_not]
    have e : (2 : Nat) ^ 27 = 134217728 := by decide
    rw [e]
    omega
  unfold mulOk
  first
    | (rw [this]; simp)
    | (rw [show Builtin.Int.intTooBig _ = false from this]; simp)
theorem powOk_b {a n : Int} {m : Nat} (hn : 0 ≤ n) (h : Builtin.Int.intBits a ≤ m) (h2 : (m : Int) * n ≤ 134217728) : powOk a n = true := by
  unfold powOk
  rw [Bool.and_eq_true, decide_eq_true_eq, decide_eq_true_eq]
  refine ⟨hn, ?_⟩
  have e : (2 : Int) ^ 27 = 134217728 := by decide
  rw [e]
  have : (Builtin.Int.intBits a : Int) * n ≤ (m : Int) * n := Int.mul_le_mul_of_nonneg_right (by omega) hn
  omega
theorem seq_nx {f k : Ex} {d d1 : PEnv} (h : f d = some (.nx, d1)) : xSeq f k d = k d1 := by
  simp [xSeq, h]
theorem seq_ret {f k : Ex} {d d1 : PEnv} {o : O} (h : f d = some (.ret o, d1)) : xSeq f k d = some (.ret o, d1) := by
  simp [xSeq, h]
theorem set_e {i : Nat} {f : Ev} {d d1 : PEnv} {o : O} (h : f d = some (o, d1)) (hi : i < d1.length) : xSet i f d = some (.nx, d1.set i (some o)) := by
  simp [xSet, h, hi]
theorem ret_e {f : Ev} {d d1 : PEnv} {o : O} (h : f d = some (o, d1)) : xRet f d = some (.ret o, d1) := by
  simp [xRet, h]
theorem if_t {c : EvB} {f k : Ex} {d d1 : PEnv} (h : c d = some (true, d1)) : xIf c f k d = f d1 := by
  simp [xIf, h]
theorem if_f {c : EvB} {f k : Ex} {d d1 : PEnv} (h : c d = some (false, d1)) : xIf c f k d = k d1 := by
  simp [xIf, h]
theorem move_e {i : Nat} {d : PEnv} {o : O} (h : d.getD i none = some o) : evMove i d = some (o, d.set i none) := by
  simp [-List.getD_eq_getElem?_getD, evMove, h]
/-- a draw -/
theorem pick_run {dg mx many : Int} (h0 : 0 ≤ dg) (h1 : 0 ≤ mx) (h2 : mx ≤ 2147483565) (h3 : 1 ≤ many) (h4 : many < 1073741824) :
    ∃ r dg' mx' : Int, 0 ≤ r ∧ r < many ∧ 0 ≤ dg' ∧ 0 ≤ mx' ∧ mx' ≤ 2147483565 ∧ endM (pickX (startM 4 (tapeO dg mx) [.int many])) = some (.val (.int r), tapeO dg' mx') := by
  have hm : 0 < many := by omega
  have e0 : startM 4 (tapeO dg mx) [.int many] = some (tapeO dg mx) :: [some (.val (.int many)), none, none] := rfl
  rw [e0]
  generalize htl : ([some (.val (.int many)), none, none] : PEnv) = tl
  have ht0 : tl.getD 0 none = some (.val (.int many)) := by rw [← htl]; rfl
  have hc : evB (bx (rCmp .GtE) (.ex (ixK "digits")) (.slot 1)) (some (tapeO dg mx) :: tl) = some (decide (many ≤ dg), some (tapeO dg mx) :: tl) :=
    evB_e (bx_es (ixK_d dg mx tl) (by simpa using ht0) rGe_i)
  by_cases hd : many ≤ dg
  · rw [decide_eq_true hd] at hc
    refine ⟨dg % many, dg / many, mx, Int.emod_nonneg _ (by omega), Int.emod_lt_of_pos _ hm, Int.ediv_nonneg h0 (by omega), h1, h2, ?_⟩
    unfold pickX
    have s1 : xSet 2 (bx rMod (.ex (intX (ixK "digits"))) (.slot 1)) (some (tapeO dg mx) :: tl) = some (.nx, some (tapeO dg mx) :: tl.set 1 (some (.val (.int (dg % many))))) :=
      set_e (i := 2) (bx_es (intX_e (ixK_d dg mx tl)) (by simpa using ht0) (rMod_i hm)) (by rw [← htl]; simp)
    have ht1 : (tl.set 1 (some (.val (.int (dg % many))))).getD 0 none = some (.val (.int many)) := by rw [← htl]; rfl
    have ht2 : (tl.set 1 (some (O.val (.int (dg % many))))).getD 1 none = some (.val (.int (dg % many))) := by rw [← htl]; rfl
    generalize tl.set 1 (some (O.val (.int (dg % many)))) = tl1 at s1 ht1 ht2
    have s2 : xSetK 0 (evC (.str "digits")) (bx rDiv (.ex (ixK "digits")) (.slot 1)) (some (tapeO dg mx) :: tl1) = some (.nx, some (tapeO (dg / many) mx) :: tl1) :=
      setK_d (bx_es (ixK_d dg mx tl1) (by simpa using ht1) (rDiv_i hm h4))
    have s3 : xRet (evMove 2) (some (tapeO (dg / many) mx) :: tl1) = some (.ret (.val (.int (dg % many))), some (tapeO (dg / many) mx) :: tl1.set 1 none) :=
      ret_e (move_e (i := 2) (by simpa using ht2))
    have s4 : xIf (evB (bx (rCmp .GtE) (.ex (ixK "digits")) (.slot 1))) (xSeq (xSet 2 (bx rMod (.ex (intX (ixK "digits"))) (.slot 1))) (xSeq (xSetK 0 (evC (.str "digits")) (bx rDiv (.ex (ixK "digits")) (.slot 1))) (xSeq (xRet (evMove 2)) xNil))) xNil (some (tapeO dg mx) :: tl) = some (.ret (.val (.int (dg % many))), some (tapeO (dg / many) mx) :: tl1.set 1 none) := by
      rw [if_t hc, seq_nx s1, seq_nx s2, seq_ret s3]
    rw [seq_ret s4]
    rfl
  · rw [decide_eq_false hd] at hc
    have b40 : Builtin.Int.intBits 40014 ≤ 64 := bits64 (by decide) (by decide)
    have m1 : 0 ≤ (mx * 40014 + 1031) % 2147483563 := Int.emod_nonneg _ (by decide)
    have m2 : (mx * 40014 + 1031) % 2147483563 < 2147483563 := Int.emod_lt_of_pos _ (by decide)
    generalize hmx : (mx * 40014 + 1031) % 2147483563 = mx1 at m1 m2
    have o1 : 0 ≤ (mx1 ^ 2) % 2147483399 := Int.emod_nonneg _ (by decide)
    have o2 : (mx1 ^ 2) % 2147483399 < 2147483399 := Int.emod_lt_of_pos _ (by decide)
    generalize hon : (mx1 ^ 2) % 2147483399 = on at o1 o2
    refine ⟨on ^ 3 % 998244353 / 13 % many, dg, mx1, Int.emod_nonneg _ (by omega), Int.emod_lt_of_pos _ hm, h0, m1, by omega, ?_⟩
    unfold pickX
    rw [seq_nx ((if_f hc).trans (show xNil (some (tapeO dg mx) :: tl) = some (.nx, some (tapeO dg mx) :: tl) from rfl))]
    have s1 : xSetK 0 (evC (.str "mixed")) (bx rMod (.ex (intX (bx rAdd (.ex (bx rMul (.ex (ixK "mixed")) (lx 40014))) (lx 1031)))) (lx 2147483563)) (some (tapeO dg mx) :: tl) = some (.nx, some (tapeO dg mx1) :: tl) := by
      refine setK_m ?_
      rw [← hmx]
      exact bx_ee (intX_e (bx_ee (bx_ee (ixK_m dg mx tl) evC_e (rMul_i (mulOk_r b40))) evC_e rAdd_i)) evC_e (rMod_i (by decide))
    rw [seq_nx s1]
    have s2 : xSet 3 (bx rMod (.ex (intX (bx rPow (.ex (ixK "mixed")) (lx 2)))) (lx 2147483399)) (some (tapeO dg mx1) :: tl) = some (.nx, some (tapeO dg mx1) :: tl.set 2 (some (.val (.int on)))) := by
      refine set_e (i := 3) (d1 := some (tapeO dg mx1) :: tl) ?_ (by rw [← htl]; simp)
      rw [← hon]
      exact bx_ee (intX_e (bx_ee (ixK_m dg mx1 tl) evC_e (rPow_i (powOk_b (m := 64) (by decide) (bits64 (by omega) (by omega)) (by decide))))) evC_e (rMod_i (by decide))
    rw [seq_nx s2]
    have ht1 : (tl.set 2 (some (O.val (.int on)))).getD 0 none = some (.val (.int many)) := by rw [← htl]; rfl
    have ht2 : (tl.set 2 (some (O.val (.int on)))).getD 2 none = some (.val (.int on)) := by rw [← htl]; rfl
    generalize tl.set 2 (some (O.val (.int on))) = tl1 at ht1 ht2
    have s3 : xRet (bx rMod (.ex (intX (bx rDiv (.ex (bx rMod (.ex (intX (bx rPow (.slot 3) (lx 3)))) (lx 998244353))) (lx 13)))) (.slot 1)) (some (tapeO dg mx1) :: tl1) = some (.ret (.val (.int (on ^ 3 % 998244353 / 13 % many))), some (tapeO dg mx1) :: tl1) := by
      refine ret_e (bx_es (intX_e (bx_ee (bx_ee (intX_e (bx_se (by simpa using ht2) evC_e (by simpa using ht2) (rPow_i (powOk_b (m := 64) (by decide) (bits64 (by omega) (by omega)) (by decide))))) evC_e (rMod_i (by decide))) evC_e (rDiv_i (by decide) (by decide)))) (by simpa using ht1) (rMod_i hm))
    rw [seq_ret s3]
    rfl
end Pd
set_option maxHeartbeats 1000000
/-! Pl2: the tape. -/
namespace Pd
open PySem L2 PyProof.Rows
def BitsOk (ns : List Int) : Prop := ∀ z, z ∈ ns → Builtin.Int.intBits z ≤ 1048576
def tapeTurn : Ev := bx rAdd (.ex (bx rMod (.ex (intX (bx rPow (.ex (bx rAdd (.ex (bx rAdd (.ex (bx rMul (.slot 2) (lx 30029))) (.ex (bx rMul (.slot 3) (.slot 3))))) (lx 13))) (lx 2)))) (lx 2147483563))) (lx 2)
theorem turn_e {S F : Option O} {m c : Int} {e : Option O} (h1 : 0 ≤ m) (h2 : m ≤ 2147483565) (hc : Builtin.Int.intBits c ≤ 1048576) :
    tapeTurn [S, F, some (.val (.int m)), some (.val (.int c)), e] = some (.val (.int ((m * 30029 + c * c + 13) ^ 2 % 2147483563 + 2)), [S, F, some (.val (.int m)), some (.val (.int c)), e]) := by
  have b1 : Builtin.Int.intBits (m * 30029) ≤ 64 := bits64 (by omega) (by omega)
  have b2 : Builtin.Int.intBits (c * c) ≤ 1048576 + 1048576 := intBits_mul_le hc hc
  have b3 : Builtin.Int.intBits (m * 30029 + c * c) ≤ max 64 (1048576 + 1048576) + 1 := intBits_add_le b1 b2
  have b4 : Builtin.Int.intBits (m * 30029 + c * c + 13) ≤ max (max 64 (1048576 + 1048576) + 1) 64 + 1 := intBits_add_le b3 (bits64 (by decide) (by decide))
  have k1 : powOk (m * 30029 + c * c + 13) 2 = true := powOk_b (by decide) b4 (by decide)
  exact bx_ee (bx_ee (intX_e (bx_ee (bx_ee (bx_ee (bx_se rfl evC_e rfl (rMul_i (mulOk_r (bits64 (by decide) (by decide))))) (bx_ss rfl rfl (rMul_i (mulOk_big hc hc))) rAdd_i) evC_e rAdd_i) evC_e (rPow_i k1))) evC_e (rMod_i (by decide))) evC_e rAdd_i
theorem tape_loop {S F e : Option O} : ∀ (l : List Int) (m : Int) (c : Option O), BitsOk l → 0 ≤ m → m ≤ 2147483565 →
    ∃ (m' : Int) (c' : Option O), 0 ≤ m' ∧ m' ≤ 2147483565 ∧ forL (.name 3) (xSeq (xSet 2 tapeTurn) xNil) (intsOf l) [S, F, some (.val (.int m)), c, e] = some (.nx, [S, F, some (.val (.int m')), c', e])
  | [], m, c, _, h1, h2 => ⟨m, c, h1, h2, rfl⟩
  | z :: l, m, c, hb, h1, h2 => by
    have g1 : 0 ≤ (m * 30029 + z * z + 13) ^ 2 % 2147483563 := Int.emod_nonneg _ (by decide)
    have g2 : (m * 30029 + z * z + 13) ^ 2 % 2147483563 < 2147483563 := Int.emod_lt_of_pos _ (by decide)
    obtain ⟨m', c', k1, k2, k3⟩ := tape_loop (S := S) (F := F) (e := e) l ((m * 30029 + z * z + 13) ^ 2 % 2147483563 + 2) (some (.val (.int z))) (fun x hx => hb x (List.mem_cons_of_mem _ hx)) (by omega) (by omega)
    refine ⟨m', c', k1, k2, ?_⟩
    have e1 : bindT (.name 3) (.int z) [S, F, some (.val (.int m)), c, e] = some [S, F, some (.val (.int m)), some (.val (.int z)), e] := rfl
    have e2 : (xSeq (xSet 2 tapeTurn) xNil) [S, F, some (.val (.int m)), some (.val (.int z)), e] = some (.nx, [S, F, some (.val (.int ((m * 30029 + z * z + 13) ^ 2 % 2147483563 + 2))), some (.val (.int z)), e]) :=
      (seq_nx (set_e (i := 2) (turn_e h1 h2 (hb z List.mem_cons_self)) (by simp))).trans rfl
    show (bindT (.name 3) (.int z) [S, F, some (.val (.int m)), c, e]).bind _ = _
    rw [e1]
    show ((xSeq (xSet 2 tapeTurn) xNil) [S, F, some (.val (.int m)), some (.val (.int z)), e]).bind _ = _
    rw [e2]
    exact k3
theorem len_e {ns : List Int} {tl : PEnv} : evN [.slot 0] rLen (some (.val (.scr ns)) :: tl) = some (.val (.int (ns.length : Nat)), some (.val (.scr ns)) :: tl) := rfl
theorem ix_scr {ns : List Int} {i : Int} {z : Int} (h : atI ns i = some z) : rIx (.scr ns) (.int i) = some (.val (.int z)) := by
  simp [rIx, alt, ixL, ixT, ixC, D.asLst, D.asTup, D.asScr, D.asInt, h]
theorem tape_run {ns : List Int} {st : Int} (hb : BitsOk ns) (h0 : 0 ≤ st) (h3 : st ≤ 100) : ∃ dg mx : Int, 0 ≤ dg ∧ 0 ≤ mx ∧ mx ≤ 2147483565 ∧ endV (tapeX (startE 5 [.scr ns, .int st])) = some (tapeO dg mx) := by
  obtain ⟨m, c, k1, k2, k3⟩ := tape_loop (S := some (.val (.scr ns))) (F := some (.val (.int st))) (e := none) ns (101 + st * 53) none hb (by omega) (by omega)
  have s1 : xSet 2 (bx rAdd (lx 101) (.ex (bx rMul (.slot 1) (lx 53)))) (startE 5 [.scr ns, .int st]) = some (.nx, [some (.val (.scr ns)), some (.val (.int st)), some (.val (.int (101 + st * 53))), none, none]) :=
    set_e (i := 2) (d1 := [some (.val (.scr ns)), some (.val (.int st)), none, none, none]) (bx_ee evC_e (bx_se rfl evC_e rfl (rMul_i (mulOk_r (bits64 (by decide) (by decide))))) rAdd_i) (by simp)
  have s2 : xFor (evIt (evVar 0)) (.name 3) (xSeq (xSet 2 tapeTurn) xNil) [some (.val (.scr ns)), some (.val (.int st)), some (.val (.int (101 + st * 53))), none, none] = some (.nx, [some (.val (.scr ns)), some (.val (.int st)), some (.val (.int m)), c, none]) := k3
  have fin : ∀ dg : Int, 0 ≤ dg → xSet 4 (evIf (tbAnd (evB (bx (rCmp .Lt) (.slot 1) (.ex (evN [.slot 0] rLen)))) (evB (bx (rCmp .GtE) (.ex (bx rIx (.slot 0) (.slot 1))) (.ex (bx rPow (lx 10) (lx 18))))))
        (bx rSub (.ex (bx rIx (.slot 0) (.slot 1))) (.ex (bx rPow (lx 10) (lx 18)))) (evC (.int 0))) [some (.val (.scr ns)), some (.val (.int st)), some (.val (.int m)), c, none] = some (.nx, [some (.val (.scr ns)), some (.val (.int st)), some (.val (.int m)), c, some (.val (.int dg))]) →
      ∃ dg mx : Int, 0 ≤ dg ∧ 0 ≤ mx ∧ mx ≤ 2147483565 ∧ endV (tapeX (startE 5 [.scr ns, .int st])) = some (tapeO dg mx) := fun dg hd s3 => by
    refine ⟨dg, m, hd, k1, k2, ?_⟩
    unfold tapeX
    rw [seq_nx s1, seq_nx (show xFor (evIt (evVar 0)) (.name 3) (xSeq (xSet 2 (bx rAdd (.ex (bx rMod (.ex (intX (bx rPow (.ex (bx rAdd (.ex (bx rAdd (.ex (bx rMul (.slot 2) (lx 30029))) (.ex (bx rMul (.slot 3) (.slot 3))))) (lx 13))) (lx 2)))) (lx 2147483563))) (lx 2))) xNil) _ = _ from s2), seq_nx s3]
    kernel_rfl
  have hlt : evB (bx (rCmp .Lt) (.slot 1) (.ex (evN [.slot 0] rLen))) [some (.val (.scr ns)), some (.val (.int st)), some (.val (.int m)), c, none] = some (decide (st < (ns.length : Nat)), [some (.val (.scr ns)), some (.val (.int st)), some (.val (.int m)), c, none]) :=
    evB_e (bx_se rfl len_e rfl rLt_i)
  by_cases hl : st < (ns.length : Nat)
  · rw [decide_eq_true hl] at hlt
    have ha : ∃ z, atI ns st = some z := by
      have hi : st.toNat < ns.length := by omega
      refine ⟨ns[st.toNat], ?_⟩
      unfold atI ixN
      rw [if_pos h0, if_pos hl]
      exact List.getElem?_eq_getElem hi
    obtain ⟨z, hz⟩ := ha
    have hp : bx rPow (lx 10) (lx 18) [some (.val (.scr ns)), some (.val (.int st)), some (.val (.int m)), c, none] = some (.val (.int (10 ^ 18)), [some (.val (.scr ns)), some (.val (.int st)), some (.val (.int m)), c, none]) :=
      bx_ee evC_e evC_e (rPow_i (powOk_b (m := 64) (by decide) (bits64 (by decide) (by decide)) (by decide)))
    have hix : bx rIx (.slot 0) (.slot 1) [some (.val (.scr ns)), some (.val (.int st)), some (.val (.int m)), c, none] = some (.val (.int z), [some (.val (.scr ns)), some (.val (.int st)), some (.val (.int m)), c, none]) := bx_ss rfl rfl (ix_scr hz)
    have hge : evB (bx (rCmp .GtE) (.ex (bx rIx (.slot 0) (.slot 1))) (.ex (bx rPow (lx 10) (lx 18)))) [some (.val (.scr ns)), some (.val (.int st)), some (.val (.int m)), c, none] = some (decide ((10 : Int) ^ 18 ≤ z), [some (.val (.scr ns)), some (.val (.int st)), some (.val (.int m)), c, none]) :=
      evB_e (bx_ee hix hp rGe_i)
    by_cases hz2 : (10 : Int) ^ 18 ≤ z
    · rw [decide_eq_true hz2] at hge
      refine fin (z - 10 ^ 18) (by omega) (set_e (i := 4) (d1 := [some (.val (.scr ns)), some (.val (.int st)), some (.val (.int m)), c, none]) ?_ (by simp))
      simp only [evIf, tbAnd, hlt, hge, Option.bind_some, if_true]
      exact bx_ee hix hp rSub_i
    · rw [decide_eq_false hz2] at hge
      refine fin 0 (by decide) (set_e (i := 4) (d1 := [some (.val (.scr ns)), some (.val (.int st)), some (.val (.int m)), c, none]) ?_ (by simp))
      simp only [evIf, tbAnd, hlt, hge, Option.bind_some, if_true]
      rfl
  · rw [decide_eq_false hl] at hlt
    refine fin 0 (by decide) (set_e (i := 4) (d1 := [some (.val (.scr ns)), some (.val (.int st)), some (.val (.int m)), c, none]) ?_ (by simp))
    simp only [evIf, tbAnd, hlt, Option.bind_some]
    rfl
end Pd
set_option maxHeartbeats 1000000
/-! Pl3: the loop that all laws have: for start in range(max(1, min(3, len(script)))), the tape first. -/
namespace Pd
open PySem L2 PyProof.Rows
theorem ev2_ee {r : List D → Option O} {f g : Ev} {d d1 d2 : PEnv} {a b : D} {o : O} (h1 : f d = some (.val a, d1)) (h2 : g d1 = some (.val b, d2)) (h3 : r [a, b] = some o) : evN [.ex f, .ex g] r d = some (o, d2) := by
  simp [-List.getD_eq_getElem?_getD, evN, goL, Opn.go, lookL, Opn.look, O.shs, O.sh, h1, h2, h3, O.d]
def rngX : Ev := evN [lx 1, .ex (evN [lx 3, .ex (evN [.slot 0] rLen)] rMin)] rMax
theorem rng_run (ns : List Int) (tl : PEnv) : ∃ k : Nat, k ≤ 3 ∧ evSrc rng1 [.ex rngX] (some (.val (.scr ns)) :: tl) = some (intsR 0 k, some (.val (.scr ns)) :: tl) := by
  have e1 : evN [lx 3, .ex (evN [.slot 0] rLen)] rMin (some (.val (.scr ns)) :: tl) = some (.val (.int (if ((ns.length : Nat) : Int) < 3 then (ns.length : Nat) else 3)), some (.val (.scr ns)) :: tl) := rfl
  generalize hm : (if ((ns.length : Nat) : Int) < 3 then ((ns.length : Nat) : Int) else 3) = m at e1
  have hm3 : m ≤ 3 := by rw [← hm]; split <;> omega
  have e2 : rngX (some (.val (.scr ns)) :: tl) = some (.val (.int (if m > 1 then m else 1)), some (.val (.scr ns)) :: tl) := by
    exact ev2_ee evC_e e1 rfl
  generalize hk : (if m > 1 then m else 1) = k at e2
  have hk1 : 1 ≤ k ∧ k ≤ 3 := by rw [← hk]; split <;> omega
  refine ⟨k.toNat, by omega, ?_⟩
  have e3 : smallI k = true := by
    unfold smallI
    rw [Bool.and_eq_true, decide_eq_true_eq, decide_eq_true_eq]
    have a : (-(2 ^ 62) : Int) = -4611686018427387904 := by decide
    have b : (2 ^ 62 : Int) = 4611686018427387904 := by decide
    rw [a, b]
    omega
  simp [evSrc, goL, Opn.go, e2, O.ds, O.d, rng1, D.asInt, e3]
/-- a loop over numbers, by what holds between two turns -/
theorem forI {k : Tg} {B : Ex} (I : PEnv → Prop) (hstep : ∀ (d : PEnv) (i : Int), I d → 0 ≤ i → i ≤ 100 → ∃ d1 d2, bindT k (.int i) d = some d1 ∧ B d1 = some (.nx, d2) ∧ I d2) :
    ∀ (l : List Int) (d : PEnv), (∀ i, i ∈ l → 0 ≤ i ∧ i ≤ 100) → I d → ∃ d', forL k B (l.map D.int) d = some (.nx, d') ∧ I d'
  | [], d, _, h => ⟨d, rfl, h⟩
  | i :: l, d, hb, h => by
    obtain ⟨d1, d2, h1, h2, h3⟩ := hstep d i h (hb i List.mem_cons_self).1 (hb i List.mem_cons_self).2
    obtain ⟨d', h4, h5⟩ := forI I hstep l d2 (fun x hx => hb x (List.mem_cons_of_mem _ hx)) h3
    refine ⟨d', ?_, h5⟩
    show (bindT k (.int i) d).bind _ = _
    rw [h1]
    show (B d1).bind _ = _
    rw [h2]
    exact h4
theorem intsR_map (k : Nat) : intsR 0 k = ((List.range k).map fun (t : Nat) => (0 + (t : Int))).map D.int := by
  unfold intsR
  rw [List.map_map]
  rfl
theorem for_run {ns : List Int} {B : Ex} (I : PEnv → Prop) (hstep : ∀ (d : PEnv) (i : Int), I d → 0 ≤ i → i ≤ 100 → ∃ d1 d2, bindT (.name 1) (.int i) d = some d1 ∧ B d1 = some (.nx, d2) ∧ I d2) {tl : PEnv} (h : I (some (.val (.scr ns)) :: tl)) :
    ∃ d', xFor (evSrc rng1 [.ex rngX]) (.name 1) B (some (.val (.scr ns)) :: tl) = some (.nx, d') ∧ I d' := by
  obtain ⟨k, hk, e⟩ := rng_run ns tl
  obtain ⟨d', h1, h2⟩ := forI I hstep ((List.range k).map fun (t : Nat) => (0 + (t : Int))) (some (.val (.scr ns)) :: tl) (fun i hi => by
    obtain ⟨t, ht, e⟩ := List.mem_map.mp hi
    have := List.mem_range.mp ht
    omega) h
  refine ⟨d', ?_, h2⟩
  show (evSrc rng1 [.ex rngX] (some (.val (.scr ns)) :: tl)).bind _ = _
  rw [e, intsR_map]
  exact h1
theorem tape_step {ns : List Int} {i : Int} {tl : PEnv} {fn : List D → Option O} (hfn : ∀ ds, fn ds = endV (tapeX (startE 5 ds))) (hb : BitsOk ns) (h0 : 0 ≤ i) (h1 : i ≤ 100) {o2 : Option O} :
    ∃ dg mx : Int, 0 ≤ dg ∧ 0 ≤ mx ∧ mx ≤ 2147483565 ∧ xSet 2 (evCall [.ex (evVar 0), .ex (evVar 1)] 2 fn) (some (.val (.scr ns)) :: some (.val (.int i)) :: o2 :: tl) = some (.nx, some (.val (.scr ns)) :: some (.val (.int i)) :: some (tapeO dg mx) :: tl) := by
  obtain ⟨dg, mx, k1, k2, k3, k4⟩ := tape_run hb h0 h1
  refine ⟨dg, mx, k1, k2, k3, ?_⟩
  refine set_e (i := 2) (d1 := some (.val (.scr ns)) :: some (.val (.int i)) :: o2 :: tl) ?_ (by simp)
  have e : fn [.scr ns, .int i] = some (tapeO dg mx) := by rw [hfn, k4]
  show (evV [.ex (evVar 0), .ex (evVar 1)] fun xs => if xs.length = 2 then fn xs else none) _ = _
  simp [evV, goL, Opn.go, evVar, O.ds, O.d, e]
/-- a draw at a slot -/
theorem draw_e {fn : O → List D → Option (O × O)} (hfn : ∀ o ds, fn o ds = endM (pickX (startM 4 o ds))) {s : Nat} {f : Ev} {d d1 : PEnv} {dg mx many : Int} (hs : d1.getD s none = some (tapeO dg mx)) (h0 : d.getD s none = some (tapeO dg mx)) (hf : f d = some (.val (.int many), d1)) (hd : 0 ≤ dg) (h1 : 0 ≤ mx) (h2 : mx ≤ 2147483565) (h3 : 1 ≤ many) (h4 : many < 1073741824) :
    ∃ r dg' mx' : Int, 0 ≤ r ∧ r < many ∧ 0 ≤ dg' ∧ 0 ≤ mx' ∧ mx' ≤ 2147483565 ∧ evM s [.ex f] 1 fn d = some (.val (.int r), d1.set s (some (tapeO dg' mx'))) := by
  obtain ⟨r, dg', mx', k1, k2, k3, k4, k5, k6⟩ := pick_run hd h1 h2 h3 h4
  refine ⟨r, dg', mx', k1, k2, k3, k4, k5, ?_⟩
  have e : fn (tapeO dg mx) [.int many] = some (.val (.int r), tapeO dg' mx') := by rw [hfn, k6]
  unfold evM
  rw [h0]
  simp only [Option.bind_some, goL, Opn.go, hf, O.ds, O.d, List.append_nil]
  rw [hs]
  simp [e]
def envOf : Option (Fl × PEnv) → PEnv
  | some p => p.2
  | none => []
end Pd
set_option maxHeartbeats 1000000
/-! Pc8: what the head tells of the defs; the end. -/
namespace Pd
open PySem L2 PyProof.Rows
section
variable {K : PySem.W.Frag} {mg : Str → Option Value} {h : Heap} {C : Str → Option Addr} {sp : Spec}
abbrev fnD (x qual : Str) (st : Stmt) (kV doc pm : Value) (an : Option Addr) (cdv ct : Value) : FuncData := PySem.W.fnOf x qual (defArgs st) (defBody st) (defScope st) .none kV doc pm an cdv ct
def BindsF (x qual : Str) (st : Stmt) (ps : List Str) : Prop := ∀ (kV doc pm : Value) (an : Option Addr) (cdv ct : Value) (us : List Value), us.length = ps.length → bindArgs (fnD x qual st kV doc pm an cdv ct) ⟨us, []⟩ = pure (ps.zip us)
theorem fact_fn (x qual : Str) (st : Stmt) (X : K.In h) (G : h.Ns mainGlobals mg) (hk : sp.kind = .val ∨ sp.kind = .mut) (hx : sp.name = x) (hst : sp.st = st) {f : Addr} {oc kV doc pm cdv ct : Value} {od an : Option Addr} {osl : Array (Option Value)}
    (a : PySem.W.nsIn K mainGlobals x = some (some (.ref f))) (l : K.lookup f = some ⟨oc, od, .func (fnD x qual st kV doc pm an cdv ct), osl⟩) (c : PySem.W.codeIn K cdv qual = true) (k : PySem.W.keepIn K (.ref f) = true)
    (b : BindsF x qual st (argNames st)) : Facts K mg C sp := by
  subst hx hst
  have F := fun_mk l c k
  have hb : Binds K (fnD sp.name qual sp.st kV doc pm an cdv ct) sp.ps [] := F.binds b
  unfold Facts
  rcases hk with e | e <;> rw [e] <;> exact ⟨f, _, sp.name, qual, F, PySem.W.mg_of X G a, k, hb⟩
theorem fact_ini (c : Str) (x qual : Str) (st : Stmt) (hk : sp.kind = .ini c) (hst : sp.st = st) {cl f : Addr} {oc kV doc pm cdv ct : Value} {od an : Option Addr} {osl : Array (Option Value)} (hC : C c = some cl) (hm : mg c = some (.ref cl))
    (mk : PySem.W.makesIn K cl = true) (kc : PySem.W.keepIn K (.ref cl) = true)
    (a : PySem.W.findIn K (.ref cl) "__init__" = some (some (.ref f))) (i : PySem.W.isFn K (.ref f) = true) (l : K.lookup f = some ⟨oc, od, .func (fnD x qual st kV doc pm an cdv ct), osl⟩) (cd : PySem.W.codeIn K cdv qual = true) (k : PySem.W.keepIn K (.ref f) = true)
    (b : BindsF x qual st (argNames st)) : Facts K mg C sp := by
  subst hst
  have F := fun_mk l cd k
  have hb : Binds K (fnD x qual sp.st kV doc pm an cdv ct) sp.ps [] := F.binds b
  unfold Facts
  rw [hk]
  exact ⟨cl, f, _, x, qual, F, hC, hm, ⟨mk, a, i, kc⟩, hb⟩
theorem fact_prop (c n : Str) (x qual : Str) (st : Stmt) (hk : sp.kind = .prop c) (hn : sp.name = n) (hst : sp.st = st) {cl p f : Addr} {rest : List Value} {oc kV doc pm cdv ct : Value} {od an : Option Addr} {osl : Array (Option Value)} (hC : C c = some cl) (hcl : Cls K cl)
    (a : PySem.W.findIn K (.ref cl) n = some (some (.ref p))) (g : PySem.W.specialIn K (.ref p) "__get__" = some (some (.builtin "property.__get__"))) (t : PySem.W.takesIn K (.ref p) = some true) (r : PySem.W.recIn K p "property" = some (.ref f :: rest))
    (l : K.lookup f = some ⟨oc, od, .func (fnD x qual st kV doc pm an cdv ct), osl⟩) (cd : PySem.W.codeIn K cdv qual = true) (k : PySem.W.keepIn K (.ref f) = true)
    (b : BindsF x qual st (argNames st)) : Facts K mg C sp := by
  subst hst hn
  have F := fun_mk l cd k
  have hb : Binds K (fnD x qual sp.st kV doc pm an cdv ct) sp.ps [] := F.binds b
  unfold Facts
  rw [hk]
  exact ⟨cl, p, f, _, x, qual, F, hC, hcl, ⟨a, g, t, rest, r⟩, hb⟩
theorem fact_meth (c n : Str) (x qual : Str) (st : Stmt) (hk : sp.kind = .meth c) (hn : sp.name = n) (hst : sp.st = st) {cl f : Addr} {oc kV doc pm cdv ct : Value} {od an : Option Addr} {osl : Array (Option Value)} (hC : C c = some cl) (hcl : Cls K cl)
    (a : PySem.W.findIn K (.ref cl) n = some (some (.ref f))) (i : PySem.W.isFn K (.ref f) = true)
    (l : K.lookup f = some ⟨oc, od, .func (fnD x qual st kV doc pm an cdv ct), osl⟩) (cd : PySem.W.codeIn K cdv qual = true) (k : PySem.W.keepIn K (.ref f) = true)
    (b : BindsF x qual st (argNames st)) : Facts K mg C sp := by
  subst hst hn
  have F := fun_mk l cd k
  have hb : Binds K (fnD x qual sp.st kV doc pm an cdv ct) sp.ps [] := F.binds b
  unfold Facts
  rw [hk]
  exact ⟨cl, f, _, x, qual, F, hC, hcl, ⟨a, i, k⟩, hb⟩
end
section
variable {P : Program} {w : World} {K : PySem.W.Frag} {mg : Str → Option Value} {base : Heap} {C : Str → Option Addr} {G : GC} {k : Nat} {sp : Spec}
theorem gok0 (hf : ∀ p, p ∈ G.fld → ∃ cl, C p.1 = some cl ∧ Cls K cl ∧ NoAttr K cl p.2) (hi : ∀ p, p ∈ G.gi → ∃ t, mg p.1 = some (.int p.2 t)) (hs : ∀ p, p ∈ G.gs → ∃ t, mg p.1 = some (.str p.2 t)) (hb : ∀ x, x ∈ bnames → mg x = none)
    (e1 : G.fe = []) (e2 : G.fm = []) (e3 : G.fc = []) (e4 : G.fp = []) (e5 : G.fs = []) : GOkM P w K mg base C 0 G := by
  intro X x1 x2 x3 x4 x5 R
  subst x1 x2 x3 x4 x5
  refine ⟨fun f hf => ?_, fun f hf => ?_, fun f hf => ?_, fun f hf => ?_, fun f hf => ?_, fun p hp => ?_, hi, hs, fun x hx => hb x (of_decide_eq_true hx)⟩
  · rw [e1] at hf; cases hf
  · rw [e2] at hf; cases hf
  · rw [e3] at hf; cases hf
  · rw [e4] at hf; cases hf
  · rw [e5] at hf; cases hf
  · obtain ⟨cl, h1, h2, h3⟩ := hf p hp
    exact ⟨cl, ⟨h1, h2⟩, h3⟩
def spLaw (K : PySem.W.Frag) : Sp := fun vs H Q _ => ∃ (a : Addr) (ns : List Int), vs = [.ref a] ∧ SqL K H a (ns.map V.int) ∧ BitsOk ns ∧ ∀ H', Q (.bl true) H'
theorem law_fn (h : GOkM P w K mg base C k G) (hs : fnScopeB sp.N sp.ps (defScope sp.st) = true) (hps : sp.ps.length = 1) {x qual : Str} {f : Addr} {fd : FuncData} (F : Fun K x qual sp.st f fd)
    (law : ∀ ns, BitsOk ns → fnV G sp [.scr ns] = some (.val (.bl true))) : FnOk P w K mg base CX0 (k + 1) f fd sp.ps (spLaw K) := by
  refine (fnV_ok h (fnScopeB_ok hs) F).imp fun vs H Q E ⟨a, ns, e, hS, hb, q⟩ => ?_
  subst e
  refine ⟨H, [.scr ns], .val (.bl true), Le.rfl, .cons ⟨a, rfl, hS⟩ rfl, hps.symm, law ns hb, fun v H' Hf' f _ r => ?_⟩
  obtain ⟨_, rv⟩ := r
  obtain rfl : v = .bl true := rv
  exact q H'
theorem walkL {l : PySem.W.OpenLaw} {q : Program} {loose : List Str} {XP : (Str → Option Value) → Heap → Prop} {YP : World → Heap → Prop} {d : DefRec} {K : Params → PySem.W.Frag} {k : Nat} {x : Str} (hn : l.most = some 63) (hdf : d.params.defaults = []) (hr : Room k callerA)
    (hY : ∀ (w : World) (h : Heap), YP w h → (K w.params).In h)
    (F : ∀ (w : World) (mg : Str → Option Value) (fa : Addr) (h : Heap), (K w.params).In h → h.Ns mainGlobals mg → mg d.name = some (.ref fa) →
      ∃ fd : FuncData, (∀ (s : Shared) (u : Value), BindsTo s fd ⟨[u], []⟩ [(x, u)]) ∧ ∀ base : Heap, (K w.params).In base → base.Ns mainGlobals mg → FnOk l.prog w (K w.params) mg base CX0 k fa fd [x] (spLaw (K w.params))) :
    PySem.W.WalkO q loose XP YP l.row.toRowW d [] (fun f vs => PySem.call f vs) :=
  L2.walk_ofB (n := 63) (k := k) (x := x) (CX := fun _ => CX0) (sp := fun w => spLaw (K w.params)) hn (by decide) hdf hr hY F (fun _ _ a ns hl hb _ hS => ⟨a, ns, rfl, hS, hb, fun _ => rfl⟩) fun _ _ _ _ _ z => z
end
end Pd
set_option maxHeartbeats 1000000
/-! Lk13: the law's text reckoned. -/
namespace Pd
open PySem L2 PyProof.Rows
def topS (i : Nat) : Stmt := PySem.Challenge.pw_sidesaid_k13_talks_by_hand.main.body.getD i (.Pass ⟨0, 0, 0, 0⟩)
def G0 : GC := { fld := [("Rule", "told"), ("Rule", "all_worlds")], gi := [("LONGEST", 8)], gs := [("LETTERS", "abcdefghijklmnopqrstuvwxyz")] }
/-- is_name -/
def sp0 : Spec := ⟨.val, "is_name", ["value", "letter"], topS 15⟩
/-- are_worlds -/
def sp1 : Spec := ⟨.val, "are_worlds", ["value", "world"], topS 17⟩
/-- is_integer -/
def sp2 : Spec := ⟨.val, "is_integer", ["value"], topS 14⟩
/-- is_word -/
def sp3 : Spec := ⟨.val, "is_word", ["value"], topS 16⟩
/-- is_set_of -/
def sp4 : Spec := ⟨.val, "is_set_of", ["worlds", "value", "world"], topS 18⟩
/-- is_row -/
def sp5 : Spec := ⟨.val, "is_row", ["worlds", "value"], topS 19⟩
/-- Rule.__init__ -/
def sp6 : Spec := ⟨.ini "Rule", "__init__", ["self", "worlds", "listed", "number", "row", "some", "word"], inClass (topS 23) 0⟩
/-- all_sets -/
def sp7 : Spec := ⟨.val, "all_sets", ["worlds", "found", "world", "some"], topS 20⟩
/-- Rule.own -/
def sp8 : Spec := ⟨.meth "Rule", "own", ["self", "some"], inClass (topS 23) 5⟩
/-- Rule.words -/
def sp9 : Spec := ⟨.prop "Rule", "words", ["self", "found", "some"], inClass (topS 23) 4⟩
/-- is_set -/
def sp10 : Spec := ⟨.val, "is_set", ["rule", "value"], topS 24⟩
/-- is_word_of -/
def sp11 : Spec := ⟨.val, "is_word_of", ["rule", "value"], topS 26⟩
/-- must_be_word -/
def sp12 : Spec := ⟨.val, "must_be_word", ["rule", "value"], topS 27⟩
/-- must_be_unlike -/
def sp13 : Spec := ⟨.val, "must_be_unlike", ["rule", "one", "other"], topS 31⟩
/-- are_apart -/
def sp14 : Spec := ⟨.val, "are_apart", ["some", "more", "world"], topS 21⟩
/-- joined_set -/
def sp15 : Spec := ⟨.val, "joined_set", ["some", "more", "world"], topS 22⟩
/-- Rule.sets -/
def sp16 : Spec := ⟨.prop "Rule", "sets", ["self"], inClass (topS 23) 3⟩
/-- shortest -/
def sp17 : Spec := ⟨.val, "shortest", ["rule", "word", "ground", "some", "found", "layer", "later", "more"], topS 29⟩
/-- least_clash -/
def sp18 : Spec := ⟨.val, "least_clash", ["rule", "one", "other", "first", "second", "both", "some"], topS 32⟩
/-- clash -/
def sp19 : Spec := ⟨.val, "clash", ["rule", "one", "other"], topS 33⟩
/-- pairs -/
def sp20 : Spec := ⟨.val, "pairs", ["rule", "words", "spans", "word", "found", "place", "one", "later", "some"], topS 34⟩
/-- Rule.worlds -/
def sp21 : Spec := ⟨.prop "Rule", "worlds", ["self"], inClass (topS 23) 1⟩
/-- are_cells -/
def sp22 : Spec := ⟨.val, "are_cells", ["rule", "value", "cell", "every", "world"], topS 36⟩
/-- are_people -/
def sp23 : Spec := ⟨.val, "are_people", ["rule", "value", "cells"], topS 37⟩
/-- must_be_people -/
def sp24 : Spec := ⟨.val, "must_be_people", ["rule", "value"], topS 38⟩
/-- in_order -/
def sp25 : Spec := ⟨.val, "in_order", ["people", "cell", "cells"], topS 39⟩
/-- parted -/
def sp26 : Spec := ⟨.val, "parted", ["cells", "marks", "found", "cell", "kinds", "world", "some"], topS 41⟩
/-- turned -/
def sp27 : Spec := ⟨.val, "turned", ["rule", "people", "speaker", "hearers", "marks", "cell", "world", "number", "cells"], topS 42⟩
/-- open_turn -/
def sp28 : Spec := ⟨.val, "open_turn", ["rule", "people", "speaker", "number"], topS 43⟩
/-- talked -/
def sp29 : Spec := ⟨.val, "talked", ["rule", "people", "quiet", "number", "last", "later"], topS 44⟩
/-- end -/
def sp30 : Spec := ⟨.val, "end", ["rule", "people"], topS 45⟩
/-- turns -/
def sp31 : Spec := ⟨.val, "turns", ["rule", "people"], topS 46⟩
/-- is_settled -/
def sp32 : Spec := ⟨.val, "is_settled", ["rule", "people"], topS 47⟩
/-- cell_at -/
def sp33 : Spec := ⟨.val, "cell_at", ["cells", "world", "cell"], topS 40⟩
/-- must_be_world -/
def sp34 : Spec := ⟨.val, "must_be_world", ["rule", "value"], topS 48⟩
/-- said -/
def sp35 : Spec := ⟨.val, "said", ["rule", "people", "world", "cells"], topS 49⟩
/-- quarrel -/
def sp36 : Spec := ⟨.val, "quarrel", ["rule", "one", "other", "found", "rest", "world", "more"], topS 50⟩
/-- _law_tape -/
def sp37 : Spec := ⟨.val, "_law_tape", ["_law_script", "_law_first", "_law_mixed", "_law_cell", "_law_digits"], topS 52⟩
/-- _law_pick -/
def sp38 : Spec := ⟨.mut, "_law_pick", ["_law_tape_here", "_law_many", "_law_found", "_law_once"], topS 53⟩
/-- _law_all_sets -/
def sp39 : Spec := ⟨.val, "_law_all_sets", ["_law_worlds", "_law_found", "_law_world", "_law_some"], topS 54⟩
/-- law -/
def sp40 : Spec := ⟨.val, "law", ["_law_script", "_law_start", "_law_tape_here", "_law_size", "_law_worlds", "_law_rule", "_law_some", "_law_first", "_law_at", "_law_second", "_law_world", "_law_told", "_law_lone"], topS 55⟩
def G1 : GC := addSp G0 1 sp0
def G2 : GC := addSp G1 3 sp1
def G3 : GC := addSp G2 5 sp2
def G4 : GC := addSp G3 7 sp3
def G5 : GC := addSp G4 9 sp4
def G6 : GC := addSp G5 11 sp5
def G7 : GC := addSp G6 13 sp6
def G8 : GC := addSp G7 15 sp7
def G9 : GC := addSp G8 17 sp8
def G10 : GC := addSp G9 19 sp9
def G11 : GC := addSp G10 21 sp10
def G12 : GC := addSp G11 23 sp11
def G13 : GC := addSp G12 25 sp12
def G14 : GC := addSp G13 27 sp13
def G15 : GC := addSp G14 29 sp14
def G16 : GC := addSp G15 31 sp15
def G17 : GC := addSp G16 33 sp16
def G18 : GC := addSp G17 35 sp17
def G19 : GC := addSp G18 37 sp18
def G20 : GC := addSp G19 39 sp19
def G21 : GC := addSp G20 41 sp20
def G22 : GC := addSp G21 43 sp21
def G23 : GC := addSp G22 45 sp22
def G24 : GC := addSp G23 47 sp23
def G25 : GC := addSp G24 49 sp24
def G26 : GC := addSp G25 51 sp25
def G27 : GC := addSp G26 53 sp26
def G28 : GC := addSp G27 55 sp27
def G29 : GC := addSp G28 57 sp28
def G30 : GC := addSp G29 59 sp29
def G31 : GC := addSp G30 61 sp30
def G32 : GC := addSp G31 63 sp31
def G33 : GC := addSp G32 65 sp32
def G34 : GC := addSp G33 67 sp33
def G35 : GC := addSp G34 69 sp34
def G36 : GC := addSp G35 71 sp35
def G37 : GC := addSp G36 73 sp36
def G38 : GC := addSp G37 75 sp37
def G39 : GC := addSp G38 77 sp38
def G40 : GC := addSp G39 79 sp39

theorem e37 : bodyX G37 sp37 = tapeX := by kernel_rfl
theorem e38 : bodyX G38 sp38 = pickX := by kernel_rfl
def cL : Stmt → Ex := cS G40 sp40.N (lvl G40 sp40.N fuelE) ⟨true, defScope sp40.st⟩ (isOf sp40.kind sp40.N) fuelW 12
def cL' : Stmt → Ex := cS G40 sp40.N (lvl G40 sp40.N fuelE) ⟨true, defScope sp40.st⟩ (isOf sp40.kind sp40.N) fuelW 11
def forBody : Stmt → List Stmt
  | .For _ _ b _ _ => b
  | _ => []
def R13 : Ex := blkX cL' ((forBody ((defBody sp40.st).getD 0 (.Pass ⟨0, 0, 0, 0⟩))).drop 2)
def E13 : Ex := blkX cL ((defBody sp40.st).drop 1)
def Z13 : Ex := xSet 3 (bx rAdd (lx 2) (.ex (evM 2 [lx 4] 1 (fnM G38 sp38))))
def T13 : Ex := xSet 2 (evCall [.ex (evVar 0), .ex (evVar 1)] 2 (fnV G37 sp37))
theorem e40 : bodyX G40 sp40 = xSeq (xFor (evSrc rng1 [.ex rngX]) (.name 1) (xSeq T13 (xSeq Z13 R13))) E13 := by kernel_rfl

def env13 (ns : List Int) (o1 o2 o3 o4 o5 o7 o9 o11 o12 : Option O) : PEnv := [some (.val (.scr ns)), o1, o2, o3, o4, o5, none, o7, none, o9, none, o11, o12]
/-- size 5, in parts -/
def stR (k : Nat) : Stmt := ((forBody ((defBody sp40.st).getD 0 (.Pass ⟨0, 0, 0, 0⟩))).drop 2).getD k (.Pass ⟨0, 0, 0, 0⟩)
def CX : EvB := evB (evN [.ex (evCall [.ex (evVar 5)] 1 (fnV G20 sp20)), .ex (evLstS [(false, evTupS [(false, evC (.str "one")), (false, evC (.str "more"))])])] (r2 (rCmp .NotEq)))
def CY : EvB := evB (evN [.ex (evN [.ex (evN [.ex (evCall [.ex (evVar 5), .ex (evC (.str "more")), .ex (evC (.str "one"))] 3 (fnV G19 sp19)), .ex (evC (.int 0))] (r2 rIx))] rLen), .ex (evC (.int 2))] (r2 (rCmp .NotEq)))
def B13 : Ex := xIf (tbAnd (evB (evN [.slot 3, .ex (evC (.int 2))] (r2 (rCmp .Gt)))) (tbOr CX CY)) (blkX (cS G40 sp40.N (lvl G40 sp40.N fuelE) ⟨true, defScope sp40.st⟩ (isOf sp40.kind sp40.N) fuelW 10) [.Return (some (.Constant (.bool false) 0 ⟨0, 0, 0, 0⟩)) ⟨0, 0, 0, 0⟩]) xNil
def D13 : Ex := blkX cL' [stR 6, stR 7]
theorem r13_parts : R13 = xSeq (cL' (stR 0)) (xSeq (cL' (stR 1)) (xSeq (cL' (stR 2)) (xSeq (cL' (stR 3)) (xSeq (cL' (stR 4)) (xSeq B13 D13))))) := by kernel_rfl
def rule2 : D := .ins "Rule" [("told", .dic [(.tup [.str "a"], .str "one"), (.tup [.str "a", .str "b"], .str "more"), (.tup [.str "b"], .str "more")]), ("all_worlds", .tup [.str "a", .str "b"])]
def ws2 : D := .lst [.str "a", .str "b"]
def fst2 : D := .tup [.tup [.str "a", .str "b"]]
def snd2 : D := .tup [.tup [.str "a"], .tup [.str "b"]]
def told2 : D := .lst [.tup [.tup [.str "a", .str "b"]], .tup [.tup [.str "a"], .tup [.str "b"]]]
theorem r13_2 (ns : List Int) (o1 : Option O) (dg mx : Int) (o4 o5 o7 o9 o11 o12 : Option O) : R13 (env13 ns o1 (some (tapeO dg mx)) (some (.val (.int 2))) o4 o5 o7 o9 o11 o12) =
    some (.nx, env13 ns o1 (some (tapeO dg mx)) (some (.val (.int 2))) (some (.val ws2)) (some (.val rule2)) (some (.val fst2)) (some (.val snd2)) (some (.val told2)) o12) := by kernel_rfl
def rule3 : D := .ins "Rule" [("told", .dic [(.tup [.str "a"], .str "one"), (.tup [.str "a", .str "b"], .str "more"), (.tup [.str "a", .str "b", .str "c"], .str "more"), (.tup [.str "a", .str "c"], .str "more"), (.tup [.str "b"], .str "one"), (.tup [.str "b", .str "c"], .str "more"), (.tup [.str "c"], .str "more")]), ("all_worlds", .tup [.str "a", .str "b", .str "c"])]
def ws3 : D := .lst [.str "a", .str "b", .str "c"]
def fst3 : D := .tup [.tup [.str "a", .str "b"], .tup [.str "c"]]
def snd3 : D := .tup [.tup [.str "a"], .tup [.str "b", .str "c"]]
def told3 : D := .lst [.tup [.tup [.str "a", .str "b", .str "c"]], .tup [.tup [.str "a"], .tup [.str "b", .str "c"]]]
theorem r13_3 (ns : List Int) (o1 : Option O) (dg mx : Int) (o4 o5 o7 o9 o11 o12 : Option O) : R13 (env13 ns o1 (some (tapeO dg mx)) (some (.val (.int 3))) o4 o5 o7 o9 o11 o12) =
    some (.nx, env13 ns o1 (some (tapeO dg mx)) (some (.val (.int 3))) (some (.val ws3)) (some (.val rule3)) (some (.val fst3)) (some (.val snd3)) (some (.val told3)) o12) := by kernel_rfl
def rule4 : D := .ins "Rule" [("told", .dic [(.tup [.str "a"], .str "one"), (.tup [.str "a", .str "b"], .str "more"), (.tup [.str "a", .str "b", .str "c"], .str "more"), (.tup [.str "a", .str "b", .str "c", .str "d"], .str "more"), (.tup [.str "a", .str "b", .str "d"], .str "more"), (.tup [.str "a", .str "c"], .str "more"), (.tup [.str "a", .str "c", .str "d"], .str "more"), (.tup [.str "a", .str "d"], .str "more"), (.tup [.str "b"], .str "one"), (.tup [.str "b", .str "c"], .str "more"), (.tup [.str "b", .str "c", .str "d"], .str "more"), (.tup [.str "b", .str "d"], .str "more"), (.tup [.str "c"], .str "one"), (.tup [.str "c", .str "d"], .str "more"), (.tup [.str "d"], .str "more")]), ("all_worlds", .tup [.str "a", .str "b", .str "c", .str "d"])]
def ws4 : D := .lst [.str "a", .str "b", .str "c", .str "d"]
def fst4 : D := .tup [.tup [.str "a", .str "b"], .tup [.str "c", .str "d"]]
def snd4 : D := .tup [.tup [.str "a"], .tup [.str "b", .str "c"], .tup [.str "d"]]
def told4 : D := .lst [.tup [.tup [.str "a", .str "b", .str "c", .str "d"]], .tup [.tup [.str "a"], .tup [.str "b", .str "c", .str "d"]]]
theorem r13_4 (ns : List Int) (o1 : Option O) (dg mx : Int) (o4 o5 o7 o9 o11 o12 : Option O) : R13 (env13 ns o1 (some (tapeO dg mx)) (some (.val (.int 4))) o4 o5 o7 o9 o11 o12) =
    some (.nx, env13 ns o1 (some (tapeO dg mx)) (some (.val (.int 4))) (some (.val ws4)) (some (.val rule4)) (some (.val fst4)) (some (.val snd4)) (some (.val told4)) o12) := by kernel_rfl
def rule5 : D := .ins "Rule" [("told", .dic [(.tup [.str "a"], .str "one"), (.tup [.str "a", .str "b"], .str "more"), (.tup [.str "a", .str "b", .str "c"], .str "more"), (.tup [.str "a", .str "b", .str "c", .str "d"], .str "more"), (.tup [.str "a", .str "b", .str "c", .str "d", .str "e"], .str "more"), (.tup [.str "a", .str "b", .str "c", .str "e"], .str "more"), (.tup [.str "a", .str "b", .str "d"], .str "more"), (.tup [.str "a", .str "b", .str "d", .str "e"], .str "more"), (.tup [.str "a", .str "b", .str "e"], .str "more"), (.tup [.str "a", .str "c"], .str "more"), (.tup [.str "a", .str "c", .str "d"], .str "more"), (.tup [.str "a", .str "c", .str "d", .str "e"], .str "more"), (.tup [.str "a", .str "c", .str "e"], .str "more"), (.tup [.str "a", .str "d"], .str "more"), (.tup [.str "a", .str "d", .str "e"], .str "more"), (.tup [.str "a", .str "e"], .str "more"), (.tup [.str "b"], .str "one"), (.tup [.str "b", .str "c"], .str "more"), (.tup [.str "b", .str "c", .str "d"], .str "more"), (.tup [.str "b", .str "c", .str "d", .str "e"], .str "more"), (.tup [.str "b", .str "c", .str "e"], .str "more"), (.tup [.str "b", .str "d"], .str "more"), (.tup [.str "b", .str "d", .str "e"], .str "more"), (.tup [.str "b", .str "e"], .str "more"), (.tup [.str "c"], .str "one"), (.tup [.str "c", .str "d"], .str "more"), (.tup [.str "c", .str "d", .str "e"], .str "more"), (.tup [.str "c", .str "e"], .str "more"), (.tup [.str "d"], .str "one"), (.tup [.str "d", .str "e"], .str "more"), (.tup [.str "e"], .str "more")]), ("all_worlds", .tup [.str "a", .str "b", .str "c", .str "d", .str "e"])]
def ws5 : D := .lst [.str "a", .str "b", .str "c", .str "d", .str "e"]
def fst5 : D := .tup [.tup [.str "a", .str "b"], .tup [.str "c", .str "d"], .tup [.str "e"]]
def snd5 : D := .tup [.tup [.str "a"], .tup [.str "b", .str "c"], .tup [.str "d", .str "e"]]
def told5 : D := .lst [.tup [.tup [.str "a", .str "b", .str "c", .str "d", .str "e"]], .tup [.tup [.str "a"], .tup [.str "b", .str "c", .str "d", .str "e"]]]
theorem cx_13 (ns : List Int) (o1 : Option O) (dg mx : Int) (o4 o7 o9 o11 o12 : Option O) : CX (env13 ns o1 (some (tapeO dg mx)) (some (.val (.int 5))) o4 (some (.val rule5)) o7 o9 o11 o12) = some (false, env13 ns o1 (some (tapeO dg mx)) (some (.val (.int 5))) o4 (some (.val rule5)) o7 o9 o11 o12) := by kernel_rfl
theorem cy_13 (ns : List Int) (o1 : Option O) (dg mx : Int) (o4 o7 o9 o11 o12 : Option O) : CY (env13 ns o1 (some (tapeO dg mx)) (some (.val (.int 5))) o4 (some (.val rule5)) o7 o9 o11 o12) = some (false, env13 ns o1 (some (tapeO dg mx)) (some (.val (.int 5))) o4 (some (.val rule5)) o7 o9 o11 o12) := by kernel_rfl
theorem aq13 (ns : List Int) (o1 : Option O) (dg mx : Int) (o4 o5 o7 o9 o11 o12 : Option O) : xSeq (cL' (stR 0)) (xSeq (cL' (stR 1)) (xSeq (cL' (stR 2)) (xSeq (cL' (stR 3)) (cL' (stR 4))))) (env13 ns o1 (some (tapeO dg mx)) (some (.val (.int 5))) o4 o5 o7 o9 o11 o12) =
    some (.nx, env13 ns o1 (some (tapeO dg mx)) (some (.val (.int 5))) (some (.val ws5)) (some (.val rule5)) (some (.val fst5)) (some (.val snd5)) o11 o12) := by kernel_rfl
theorem d13 (ns : List Int) (o1 : Option O) (dg mx : Int) (o5 o7 o9 o11 o12 : Option O) : D13 (env13 ns o1 (some (tapeO dg mx)) (some (.val (.int 5))) (some (.val ws5)) o5 o7 o9 o11 o12) =
    some (.nx, env13 ns o1 (some (tapeO dg mx)) (some (.val (.int 5))) (some (.val ws5)) o5 o7 o9 (some (.val told5)) o12) := by kernel_rfl
theorem c1_13 (ns : List Int) (o1 : Option O) (dg mx : Int) (o4 o5 o7 o9 o11 o12 : Option O) : evB (evN [.slot 3, .ex (evC (.int 2))] (r2 (rCmp .Gt))) (env13 ns o1 (some (tapeO dg mx)) (some (.val (.int 5))) o4 o5 o7 o9 o11 o12) = some (true, env13 ns o1 (some (tapeO dg mx)) (some (.val (.int 5))) o4 o5 o7 o9 o11 o12) := by kernel_rfl
theorem seq_split {f k : Ex} {d d1 : PEnv} (h : xSeq f k d = some (.nx, d1)) : ∃ d2, f d = some (.nx, d2) ∧ k d2 = some (.nx, d1) := by
  unfold xSeq at h
  cases e1 : f d with
  | none => rw [e1] at h; cases h
  | some p =>
    obtain ⟨r, d2⟩ := p
    rw [e1] at h
    cases r with
    | ret o => cases h
    | nx => exact ⟨d2, rfl, h⟩
theorem and_t {f k : EvB} {d d1 : PEnv} (h : f d = some (true, d1)) : tbAnd f k d = k d1 := by
  unfold tbAnd
  rw [h]
  simp
theorem or_f {f k : EvB} {d d1 : PEnv} (h : f d = some (false, d1)) : tbOr f k d = k d1 := by
  unfold tbOr
  rw [h]
  simp
theorem r13_5 (ns : List Int) (o1 : Option O) (dg mx : Int) (o4 o5 o7 o9 o11 o12 : Option O) : ∃ p4 p5 p7 p9 p11, R13 (env13 ns o1 (some (tapeO dg mx)) (some (.val (.int 5))) o4 o5 o7 o9 o11 o12) = some (.nx, env13 ns o1 (some (tapeO dg mx)) (some (.val (.int 5))) p4 p5 p7 p9 p11 o12) := by
  refine ⟨some (.val ws5), some (.val rule5), some (.val fst5), some (.val snd5), some (.val told5), ?_⟩
  obtain ⟨d1, h1, hA⟩ := seq_split (aq13 ns o1 dg mx o4 o5 o7 o9 o11 o12)
  obtain ⟨d2, h2, hA⟩ := seq_split hA
  obtain ⟨d3, h3, hA⟩ := seq_split hA
  obtain ⟨d4, h4, h5⟩ := seq_split hA
  rw [r13_parts, seq_nx h1, seq_nx h2, seq_nx h3, seq_nx h4, seq_nx h5]
  have hc := (and_t (k := tbOr CX CY) (c1_13 ns o1 dg mx (some (.val ws5)) (some (.val rule5)) (some (.val fst5)) (some (.val snd5)) o11 o12)).trans ((or_f (k := CY) (cx_13 ns o1 dg mx (some (.val ws5)) (some (.val fst5)) (some (.val snd5)) o11 o12)).trans (cy_13 ns o1 dg mx (some (.val ws5)) (some (.val fst5)) (some (.val snd5)) o11 o12))
  have hB : B13 (env13 ns o1 (some (tapeO dg mx)) (some (.val (.int 5))) (some (.val ws5)) (some (.val rule5)) (some (.val fst5)) (some (.val snd5)) o11 o12) = some (.nx, env13 ns o1 (some (tapeO dg mx)) (some (.val (.int 5))) (some (.val ws5)) (some (.val rule5)) (some (.val fst5)) (some (.val snd5)) o11 o12) := by
    unfold B13
    rw [if_f hc]
    unfold xNil
    exact Eq.refl _
  rw [seq_nx hB]
  exact d13 ns o1 dg mx _ _ _ o11 o12
def isTr : Option O → Bool
  | some (.val (.bl b)) => b
  | _ => false
theorem isTr_ok {o : Option O} (h : isTr o = true) : o = some (.val (.bl true)) := by
  unfold isTr at h
  split at h
  · rw [h]
  · cases h
theorem e13_end (ns : List Int) (o1 o2 o3 o4 o5 o7 o9 o11 o12 : Option O) : isTr (endV (E13 (env13 ns o1 o2 o3 o4 o5 o7 o9 o11 o12))) = true := by kernel_rfl
def I13 (ns : List Int) (d : PEnv) : Prop := ∃ o1 o2 o3 o4 o5 o7 o9 o11 o12, d = env13 ns o1 o2 o3 o4 o5 o7 o9 o11 o12
theorem law13 (ns : List Int) (hb : BitsOk ns) : fnV G40 sp40 [.scr ns] = some (.val (.bl true)) := by
  have hfn : ∀ ds, fnV G37 sp37 ds = endV (tapeX (startE 5 ds)) := fun ds => by
    show endV (bodyX G37 sp37 (startE 5 ds)) = _
    rw [e37]
  have hpk : ∀ o ds, fnM G38 sp38 o ds = endM (pickX (startM 4 o ds)) := fun o ds => by
    show endM (bodyX G38 sp38 (startM 4 o ds)) = _
    rw [e38]
  have step : ∀ (d : PEnv) (i : Int), I13 ns d → 0 ≤ i → i ≤ 100 → ∃ d1 d2, bindT (.name 1) (.int i) d = some d1 ∧ (xSeq T13 (xSeq Z13 R13)) d1 = some (.nx, d2) ∧ I13 ns d2 := by
    rintro d i ⟨o1, o2, o3, o4, o5, o7, o9, o11, o12, rfl⟩ h0 h1
    obtain ⟨dg, mx, k1, k2, k3, k4⟩ := tape_step (o2 := o2) (tl := [o3, o4, o5, none, o7, none, o9, none, o11, o12]) hfn hb h0 h1
    obtain ⟨r, dg', mx', g1, g2, g3, g4, g5, g6⟩ := draw_e (fn := fnM G38 sp38) (s := 2) (f := evC (.int 4)) (d := env13 ns (some (.val (.int i))) (some (tapeO dg mx)) o3 o4 o5 o7 o9 o11 o12) (d1 := env13 ns (some (.val (.int i))) (some (tapeO dg mx)) o3 o4 o5 o7 o9 o11 o12) hpk rfl rfl evC_e k1 k2 k3 (by decide) (by decide)
    have hz : Z13 (env13 ns (some (.val (.int i))) (some (tapeO dg mx)) o3 o4 o5 o7 o9 o11 o12) = some (.nx, env13 ns (some (.val (.int i))) (some (tapeO dg' mx')) (some (.val (.int (2 + r)))) o4 o5 o7 o9 o11 o12) :=
      set_e (i := 3) (d1 := env13 ns (some (.val (.int i))) (some (tapeO dg' mx')) o3 o4 o5 o7 o9 o11 o12) (bx_ee evC_e g6 rAdd_i) (by simp [env13])
    have hr : ∃ p4 p5 p7 p9 p11, R13 (env13 ns (some (.val (.int i))) (some (tapeO dg' mx')) (some (.val (.int (2 + r)))) o4 o5 o7 o9 o11 o12) = some (.nx, env13 ns (some (.val (.int i))) (some (tapeO dg' mx')) (some (.val (.int (2 + r)))) p4 p5 p7 p9 p11 o12) := by
      have hr : r = 0 ∨ r = 1 ∨ r = 2 ∨ r = 3 := by omega
      rcases hr with e | e | e | e <;> subst e
      · exact ⟨_, _, _, _, _, r13_2 ns _ _ _ _ _ _ _ _ _⟩
      · exact ⟨_, _, _, _, _, r13_3 ns _ _ _ _ _ _ _ _ _⟩
      · exact ⟨_, _, _, _, _, r13_4 ns _ _ _ _ _ _ _ _ _⟩
      · exact r13_5 ns _ _ _ _ _ _ _ _ _
    obtain ⟨p4, p5, p7, p9, p11, hr⟩ := hr
    exact ⟨env13 ns (some (.val (.int i))) o2 o3 o4 o5 o7 o9 o11 o12, _, rfl, (seq_nx k4).trans ((seq_nx hz).trans hr), ⟨_, _, _, _, _, _, _, _, _, rfl⟩⟩
  obtain ⟨d', h1, ⟨o1, o2, o3, o4, o5, o7, o9, o11, o12, e⟩⟩ := for_run (I13 ns) step (tl := [none, none, none, none, none, none, none, none, none, none, none, none]) ⟨none, none, none, none, none, none, none, none, none, rfl⟩
  subst e
  show endV (bodyX G40 sp40 (startE 13 [.scr ns])) = _
  rw [e40, seq_nx (show xFor (evSrc rng1 [.ex rngX]) (.name 1) (xSeq T13 (xSeq Z13 R13)) (startE 13 [.scr ns]) = _ from h1)]
  exact isTr_ok (e13_end ns o1 o2 o3 o4 o5 o7 o9 o11 o12)
end Pd
set_option maxHeartbeats 4000000
namespace Pd
open PySem L2 PyProof.Rows
theorem okLaw : fnScopeB sp40.N sp40.ps (defScope sp40.st) = true := by kernel_rfl
theorem ok_0 : specOk sp0 = true := by kernel_rfl
theorem ok_1 : specOk sp1 = true := by kernel_rfl
theorem ok_2 : specOk sp2 = true := by kernel_rfl
theorem ok_3 : specOk sp3 = true := by kernel_rfl
theorem ok_4 : specOk sp4 = true := by kernel_rfl
theorem ok_5 : specOk sp5 = true := by kernel_rfl
theorem ok_6 : specOk sp6 = true := by kernel_rfl
theorem ok_7 : specOk sp7 = true := by kernel_rfl
theorem ok_8 : specOk sp8 = true := by kernel_rfl
theorem ok_9 : specOk sp9 = true := by kernel_rfl
theorem ok_10 : specOk sp10 = true := by kernel_rfl
theorem ok_11 : specOk sp11 = true := by kernel_rfl
theorem ok_12 : specOk sp12 = true := by kernel_rfl
theorem ok_13 : specOk sp13 = true := by kernel_rfl
theorem ok_14 : specOk sp14 = true := by kernel_rfl
theorem ok_15 : specOk sp15 = true := by kernel_rfl
theorem ok_16 : specOk sp16 = true := by kernel_rfl
theorem ok_17 : specOk sp17 = true := by kernel_rfl
theorem ok_18 : specOk sp18 = true := by kernel_rfl
theorem ok_19 : specOk sp19 = true := by kernel_rfl
theorem ok_20 : specOk sp20 = true := by kernel_rfl
theorem ok_21 : specOk sp21 = true := by kernel_rfl
theorem ok_22 : specOk sp22 = true := by kernel_rfl
theorem ok_23 : specOk sp23 = true := by kernel_rfl
theorem ok_24 : specOk sp24 = true := by kernel_rfl
theorem ok_25 : specOk sp25 = true := by kernel_rfl
theorem ok_26 : specOk sp26 = true := by kernel_rfl
theorem ok_27 : specOk sp27 = true := by kernel_rfl
theorem ok_28 : specOk sp28 = true := by kernel_rfl
theorem ok_29 : specOk sp29 = true := by kernel_rfl
theorem ok_30 : specOk sp30 = true := by kernel_rfl
theorem ok_31 : specOk sp31 = true := by kernel_rfl
theorem ok_32 : specOk sp32 = true := by kernel_rfl
theorem ok_33 : specOk sp33 = true := by kernel_rfl
theorem ok_34 : specOk sp34 = true := by kernel_rfl
theorem ok_35 : specOk sp35 = true := by kernel_rfl
theorem ok_36 : specOk sp36 = true := by kernel_rfl
theorem ok_37 : specOk sp37 = true := by kernel_rfl
theorem ok_38 : specOk sp38 = true := by kernel_rfl
theorem ok_39 : specOk sp39 = true := by kernel_rfl
theorem all_mk {P : Program} {w : World} {K : PySem.W.Frag} {h : Heap} {mg : Str → Option Value} {fa : Addr} (KX : K.In h) (G : h.Ns mainGlobals mg) (hfa : mg "law" = some (.ref fa))
    {C0 : Addr} {tk0 : Tok} {tk1 : Tok} {f0 : Addr} {oc0 kV0 dc0 pm0 cd0 ct0 : Value} {od0 an0 : Option Addr} {sl0 : Array (Option Value)} {f1 : Addr} {oc1 kV1 dc1 pm1 cd1 ct1 : Value} {od1 an1 : Option Addr} {sl1 : Array (Option Value)} {f2 : Addr} {oc2 kV2 dc2 pm2 cd2 ct2 : Value} {od2 an2 : Option Addr} {sl2 : Array (Option Value)} {f3 : Addr} {oc3 kV3 dc3 pm3 cd3 ct3 : Value} {od3 an3 : Option Addr} {sl3 : Array (Option Value)} {f4 : Addr} {oc4 kV4 dc4 pm4 cd4 ct4 : Value} {od4 an4 : Option Addr} {sl4 : Array (Option Value)} {f5 : Addr} {oc5 kV5 dc5 pm5 cd5 ct5 : Value} {od5 an5 : Option Addr} {sl5 : Array (Option Value)} {f6 : Addr} {oc6 kV6 dc6 pm6 cd6 ct6 : Value} {od6 an6 : Option Addr} {sl6 : Array (Option Value)} {f7 : Addr} {oc7 kV7 dc7 pm7 cd7 ct7 : Value} {od7 an7 : Option Addr} {sl7 : Array (Option Value)} {f8 : Addr} {oc8 kV8 dc8 pm8 cd8 ct8 : Value} {od8 an8 : Option Addr} {sl8 : Array (Option Value)} {f9 : Addr} {oc9 kV9 dc9 pm9 cd9 ct9 : Value} {od9 an9 : Option Addr} {sl9 : Array (Option Value)} {p9 : Addr} {rest9 : List Value} {f10 : Addr} {oc10 kV10 dc10 pm10 cd10 ct10 : Value} {od10 an10 : Option Addr} {sl10 : Array (Option Value)} {f11 : Addr} {oc11 kV11 dc11 pm11 cd11 ct11 : Value} {od11 an11 : Option Addr} {sl11 : Array (Option Value)} {f12 : Addr} {oc12 kV12 dc12 pm12 cd12 ct12 : Value} {od12 an12 : Option Addr} {sl12 : Array (Option Value)} {f13 : Addr} {oc13 kV13 dc13 pm13 cd13 ct13 : Value} {od13 an13 : Option Addr} {sl13 : Array (Option Value)} {f14 : Addr} {oc14 kV14 dc14 pm14 cd14 ct14 : Value} {od14 an14 : Option Addr} {sl14 : Array (Option Value)} {f15 : Addr} {oc15 kV15 dc15 pm15 cd15 ct15 : Value} {od15 an15 : Option Addr} {sl15 : Array (Option Value)} {f16 : Addr} {oc16 kV16 dc16 pm16 cd16 ct16 : Value} {od16 an16 : Option Addr} {sl16 : Array (Option Value)} {p16 : Addr} {rest16 : List Value} {f17 : Addr} {oc17 kV17 dc17 pm17 cd17 ct17 : Value} {od17 an17 : Option Addr} {sl17 : Array (Option Value)} {f18 : Addr} {oc18 kV18 dc18 pm18 cd18 ct18 : Value} {od18 an18 : Option Addr} {sl18 : Array (Option Value)} {f19 : Addr} {oc19 kV19 dc19 pm19 cd19 ct19 : Value} {od19 an19 : Option Addr} {sl19 : Array (Option Value)} {f20 : Addr} {oc20 kV20 dc20 pm20 cd20 ct20 : Value} {od20 an20 : Option Addr} {sl20 : Array (Option Value)} {f21 : Addr} {oc21 kV21 dc21 pm21 cd21 ct21 : Value} {od21 an21 : Option Addr} {sl21 : Array (Option Value)} {p21 : Addr} {rest21 : List Value} {f22 : Addr} {oc22 kV22 dc22 pm22 cd22 ct22 : Value} {od22 an22 : Option Addr} {sl22 : Array (Option Value)} {f23 : Addr} {oc23 kV23 dc23 pm23 cd23 ct23 : Value} {od23 an23 : Option Addr} {sl23 : Array (Option Value)} {f24 : Addr} {oc24 kV24 dc24 pm24 cd24 ct24 : Value} {od24 an24 : Option Addr} {sl24 : Array (Option Value)} {f25 : Addr} {oc25 kV25 dc25 pm25 cd25 ct25 : Value} {od25 an25 : Option Addr} {sl25 : Array (Option Value)} {f26 : Addr} {oc26 kV26 dc26 pm26 cd26 ct26 : Value} {od26 an26 : Option Addr} {sl26 : Array (Option Value)} {f27 : Addr} {oc27 kV27 dc27 pm27 cd27 ct27 : Value} {od27 an27 : Option Addr} {sl27 : Array (Option Value)} {f28 : Addr} {oc28 kV28 dc28 pm28 cd28 ct28 : Value} {od28 an28 : Option Addr} {sl28 : Array (Option Value)} {f29 : Addr} {oc29 kV29 dc29 pm29 cd29 ct29 : Value} {od29 an29 : Option Addr} {sl29 : Array (Option Value)} {f30 : Addr} {oc30 kV30 dc30 pm30 cd30 ct30 : Value} {od30 an30 : Option Addr} {sl30 : Array (Option Value)} {f31 : Addr} {oc31 kV31 dc31 pm31 cd31 ct31 : Value} {od31 an31 : Option Addr} {sl31 : Array (Option Value)} {f32 : Addr} {oc32 kV32 dc32 pm32 cd32 ct32 : Value} {od32 an32 : Option Addr} {sl32 : Array (Option Value)} {f33 : Addr} {oc33 kV33 dc33 pm33 cd33 ct33 : Value} {od33 an33 : Option Addr} {sl33 : Array (Option Value)} {f34 : Addr} {oc34 kV34 dc34 pm34 cd34 ct34 : Value} {od34 an34 : Option Addr} {sl34 : Array (Option Value)} {f35 : Addr} {oc35 kV35 dc35 pm35 cd35 ct35 : Value} {od35 an35 : Option Addr} {sl35 : Array (Option Value)} {f36 : Addr} {oc36 kV36 dc36 pm36 cd36 ct36 : Value} {od36 an36 : Option Addr} {sl36 : Array (Option Value)} {f37 : Addr} {oc37 kV37 dc37 pm37 cd37 ct37 : Value} {od37 an37 : Option Addr} {sl37 : Array (Option Value)} {f38 : Addr} {oc38 kV38 dc38 pm38 cd38 ct38 : Value} {od38 an38 : Option Addr} {sl38 : Array (Option Value)} {f39 : Addr} {oc39 kV39 dc39 pm39 cd39 ct39 : Value} {od39 an39 : Option Addr} {sl39 : Array (Option Value)} {f40 : Addr} {oc40 kV40 dc40 pm40 cd40 ct40 : Value} {od40 an40 : Option Addr} {sl40 : Array (Option Value)}
    (aC0 : PySem.W.nsIn K mainGlobals "Rule" = some (some (.ref C0)))
    (pg0 : PySem.W.plainGet K C0 Str.empty = true)
    (hd0 : PySem.W.hasDictIn K C0 = true)
    (po0 : PySem.W.plainOver K C0 = true)
    (sa0 : PySem.W.findIn K (.ref C0) "__setattr__" = some (some (.builtin "object.__setattr__")))
    (mk0 : PySem.W.makesIn K C0 = true)
    (kc0 : PySem.W.keepIn K (.ref C0) = true)
    (nf0 : PySem.W.findIn K (.ref C0) "told" = some none)
    (nf1 : PySem.W.findIn K (.ref C0) "all_worlds" = some none)
    (z0 : PySem.W.nsIn K mainGlobals "len" = some none)
    (z1 : PySem.W.nsIn K mainGlobals "set" = some none)
    (z2 : PySem.W.nsIn K mainGlobals "sorted" = some none)
    (z3 : PySem.W.nsIn K mainGlobals "list" = some none)
    (z4 : PySem.W.nsIn K mainGlobals "tuple" = some none)
    (z5 : PySem.W.nsIn K mainGlobals "isinstance" = some none)
    (z6 : PySem.W.nsIn K mainGlobals "int" = some none)
    (z7 : PySem.W.nsIn K mainGlobals "bool" = some none)
    (z8 : PySem.W.nsIn K mainGlobals "str" = some none)
    (z9 : PySem.W.nsIn K mainGlobals "dict" = some none)
    (z10 : PySem.W.nsIn K mainGlobals "max" = some none)
    (z11 : PySem.W.nsIn K mainGlobals "min" = some none)
    (z12 : PySem.W.nsIn K mainGlobals "range" = some none)
    (z13 : PySem.W.nsIn K mainGlobals "enumerate" = some none)
    (z14 : PySem.W.nsIn K mainGlobals "repr" = some none)
    (z15 : PySem.W.nsIn K mainGlobals "zip" = some none)
    (z16 : PySem.W.nsIn K mainGlobals "reversed" = some none)
    (z17 : PySem.W.nsIn K mainGlobals "sum" = some none)
    (z18 : PySem.W.nsIn K mainGlobals "any" = some none)
    (z19 : PySem.W.nsIn K mainGlobals "all" = some none)
    (gc0 : PySem.W.nsIn K mainGlobals "LETTERS" = some (some (.str "abcdefghijklmnopqrstuvwxyz" tk0)))
    (gc1 : PySem.W.nsIn K mainGlobals "LONGEST" = some (some (.int 8 tk1)))
    (a0 : PySem.W.nsIn K mainGlobals "is_name" = some (some (.ref f0)))
    (l0 : K.lookup f0 = some ⟨oc0, od0, .func (fnD "is_name" "is_name" (topS 15) kV0 dc0 pm0 an0 cd0 ct0), sl0⟩)
    (c0 : PySem.W.codeIn K cd0 "is_name" = true)
    (k0 : PySem.W.keepIn K (.ref f0) = true)
    (a1 : PySem.W.nsIn K mainGlobals "are_worlds" = some (some (.ref f1)))
    (l1 : K.lookup f1 = some ⟨oc1, od1, .func (fnD "are_worlds" "are_worlds" (topS 17) kV1 dc1 pm1 an1 cd1 ct1), sl1⟩)
    (c1 : PySem.W.codeIn K cd1 "are_worlds" = true)
    (k1 : PySem.W.keepIn K (.ref f1) = true)
    (a2 : PySem.W.nsIn K mainGlobals "is_integer" = some (some (.ref f2)))
    (l2 : K.lookup f2 = some ⟨oc2, od2, .func (fnD "is_integer" "is_integer" (topS 14) kV2 dc2 pm2 an2 cd2 ct2), sl2⟩)
    (c2 : PySem.W.codeIn K cd2 "is_integer" = true)
    (k2 : PySem.W.keepIn K (.ref f2) = true)
    (a3 : PySem.W.nsIn K mainGlobals "is_word" = some (some (.ref f3)))
    (l3 : K.lookup f3 = some ⟨oc3, od3, .func (fnD "is_word" "is_word" (topS 16) kV3 dc3 pm3 an3 cd3 ct3), sl3⟩)
    (c3 : PySem.W.codeIn K cd3 "is_word" = true)
    (k3 : PySem.W.keepIn K (.ref f3) = true)
    (a4 : PySem.W.nsIn K mainGlobals "is_set_of" = some (some (.ref f4)))
    (l4 : K.lookup f4 = some ⟨oc4, od4, .func (fnD "is_set_of" "is_set_of" (topS 18) kV4 dc4 pm4 an4 cd4 ct4), sl4⟩)
    (c4 : PySem.W.codeIn K cd4 "is_set_of" = true)
    (k4 : PySem.W.keepIn K (.ref f4) = true)
    (a5 : PySem.W.nsIn K mainGlobals "is_row" = some (some (.ref f5)))
    (l5 : K.lookup f5 = some ⟨oc5, od5, .func (fnD "is_row" "is_row" (topS 19) kV5 dc5 pm5 an5 cd5 ct5), sl5⟩)
    (c5 : PySem.W.codeIn K cd5 "is_row" = true)
    (k5 : PySem.W.keepIn K (.ref f5) = true)
    (a6 : PySem.W.findIn K (.ref C0) "__init__" = some (some (.ref f6)))
    (i6 : PySem.W.isFn K (.ref f6) = true)
    (l6 : K.lookup f6 = some ⟨oc6, od6, .func (fnD "__init__" "Rule.__init__" (inClass (topS 23) 0) kV6 dc6 pm6 an6 cd6 ct6), sl6⟩)
    (c6 : PySem.W.codeIn K cd6 "Rule.__init__" = true)
    (k6 : PySem.W.keepIn K (.ref f6) = true)
    (a7 : PySem.W.nsIn K mainGlobals "all_sets" = some (some (.ref f7)))
    (l7 : K.lookup f7 = some ⟨oc7, od7, .func (fnD "all_sets" "all_sets" (topS 20) kV7 dc7 pm7 an7 cd7 ct7), sl7⟩)
    (c7 : PySem.W.codeIn K cd7 "all_sets" = true)
    (k7 : PySem.W.keepIn K (.ref f7) = true)
    (a8 : PySem.W.findIn K (.ref C0) "own" = some (some (.ref f8)))
    (i8 : PySem.W.isFn K (.ref f8) = true)
    (l8 : K.lookup f8 = some ⟨oc8, od8, .func (fnD "own" "Rule.own" (inClass (topS 23) 5) kV8 dc8 pm8 an8 cd8 ct8), sl8⟩)
    (c8 : PySem.W.codeIn K cd8 "Rule.own" = true)
    (k8 : PySem.W.keepIn K (.ref f8) = true)
    (a9 : PySem.W.findIn K (.ref C0) "words" = some (some (.ref p9)))
    (g9 : PySem.W.specialIn K (.ref p9) "__get__" = some (some (.builtin "property.__get__")))
    (t9 : PySem.W.takesIn K (.ref p9) = some true)
    (r9 : PySem.W.recIn K p9 "property" = some (.ref f9 :: rest9))
    (l9 : K.lookup f9 = some ⟨oc9, od9, .func (fnD "words" "Rule.words" (inClass (topS 23) 4) kV9 dc9 pm9 an9 cd9 ct9), sl9⟩)
    (c9 : PySem.W.codeIn K cd9 "Rule.words" = true)
    (k9 : PySem.W.keepIn K (.ref f9) = true)
    (a10 : PySem.W.nsIn K mainGlobals "is_set" = some (some (.ref f10)))
    (l10 : K.lookup f10 = some ⟨oc10, od10, .func (fnD "is_set" "is_set" (topS 24) kV10 dc10 pm10 an10 cd10 ct10), sl10⟩)
    (c10 : PySem.W.codeIn K cd10 "is_set" = true)
    (k10 : PySem.W.keepIn K (.ref f10) = true)
    (a11 : PySem.W.nsIn K mainGlobals "is_word_of" = some (some (.ref f11)))
    (l11 : K.lookup f11 = some ⟨oc11, od11, .func (fnD "is_word_of" "is_word_of" (topS 26) kV11 dc11 pm11 an11 cd11 ct11), sl11⟩)
    (c11 : PySem.W.codeIn K cd11 "is_word_of" = true)
    (k11 : PySem.W.keepIn K (.ref f11) = true)
    (a12 : PySem.W.nsIn K mainGlobals "must_be_word" = some (some (.ref f12)))
    (l12 : K.lookup f12 = some ⟨oc12, od12, .func (fnD "must_be_word" "must_be_word" (topS 27) kV12 dc12 pm12 an12 cd12 ct12), sl12⟩)
    (c12 : PySem.W.codeIn K cd12 "must_be_word" = true)
    (k12 : PySem.W.keepIn K (.ref f12) = true)
    (a13 : PySem.W.nsIn K mainGlobals "must_be_unlike" = some (some (.ref f13)))
    (l13 : K.lookup f13 = some ⟨oc13, od13, .func (fnD "must_be_unlike" "must_be_unlike" (topS 31) kV13 dc13 pm13 an13 cd13 ct13), sl13⟩)
    (c13 : PySem.W.codeIn K cd13 "must_be_unlike" = true)
    (k13 : PySem.W.keepIn K (.ref f13) = true)
    (a14 : PySem.W.nsIn K mainGlobals "are_apart" = some (some (.ref f14)))
    (l14 : K.lookup f14 = some ⟨oc14, od14, .func (fnD "are_apart" "are_apart" (topS 21) kV14 dc14 pm14 an14 cd14 ct14), sl14⟩)
    (c14 : PySem.W.codeIn K cd14 "are_apart" = true)
    (k14 : PySem.W.keepIn K (.ref f14) = true)
    (a15 : PySem.W.nsIn K mainGlobals "joined_set" = some (some (.ref f15)))
    (l15 : K.lookup f15 = some ⟨oc15, od15, .func (fnD "joined_set" "joined_set" (topS 22) kV15 dc15 pm15 an15 cd15 ct15), sl15⟩)
    (c15 : PySem.W.codeIn K cd15 "joined_set" = true)
    (k15 : PySem.W.keepIn K (.ref f15) = true)
    (a16 : PySem.W.findIn K (.ref C0) "sets" = some (some (.ref p16)))
    (g16 : PySem.W.specialIn K (.ref p16) "__get__" = some (some (.builtin "property.__get__")))
    (t16 : PySem.W.takesIn K (.ref p16) = some true)
    (r16 : PySem.W.recIn K p16 "property" = some (.ref f16 :: rest16))
    (l16 : K.lookup f16 = some ⟨oc16, od16, .func (fnD "sets" "Rule.sets" (inClass (topS 23) 3) kV16 dc16 pm16 an16 cd16 ct16), sl16⟩)
    (c16 : PySem.W.codeIn K cd16 "Rule.sets" = true)
    (k16 : PySem.W.keepIn K (.ref f16) = true)
    (a17 : PySem.W.nsIn K mainGlobals "shortest" = some (some (.ref f17)))
    (l17 : K.lookup f17 = some ⟨oc17, od17, .func (fnD "shortest" "shortest" (topS 29) kV17 dc17 pm17 an17 cd17 ct17), sl17⟩)
    (c17 : PySem.W.codeIn K cd17 "shortest" = true)
    (k17 : PySem.W.keepIn K (.ref f17) = true)
    (a18 : PySem.W.nsIn K mainGlobals "least_clash" = some (some (.ref f18)))
    (l18 : K.lookup f18 = some ⟨oc18, od18, .func (fnD "least_clash" "least_clash" (topS 32) kV18 dc18 pm18 an18 cd18 ct18), sl18⟩)
    (c18 : PySem.W.codeIn K cd18 "least_clash" = true)
    (k18 : PySem.W.keepIn K (.ref f18) = true)
    (a19 : PySem.W.nsIn K mainGlobals "clash" = some (some (.ref f19)))
    (l19 : K.lookup f19 = some ⟨oc19, od19, .func (fnD "clash" "clash" (topS 33) kV19 dc19 pm19 an19 cd19 ct19), sl19⟩)
    (c19 : PySem.W.codeIn K cd19 "clash" = true)
    (k19 : PySem.W.keepIn K (.ref f19) = true)
    (a20 : PySem.W.nsIn K mainGlobals "pairs" = some (some (.ref f20)))
    (l20 : K.lookup f20 = some ⟨oc20, od20, .func (fnD "pairs" "pairs" (topS 34) kV20 dc20 pm20 an20 cd20 ct20), sl20⟩)
    (c20 : PySem.W.codeIn K cd20 "pairs" = true)
    (k20 : PySem.W.keepIn K (.ref f20) = true)
    (a21 : PySem.W.findIn K (.ref C0) "worlds" = some (some (.ref p21)))
    (g21 : PySem.W.specialIn K (.ref p21) "__get__" = some (some (.builtin "property.__get__")))
    (t21 : PySem.W.takesIn K (.ref p21) = some true)
    (r21 : PySem.W.recIn K p21 "property" = some (.ref f21 :: rest21))
    (l21 : K.lookup f21 = some ⟨oc21, od21, .func (fnD "worlds" "Rule.worlds" (inClass (topS 23) 1) kV21 dc21 pm21 an21 cd21 ct21), sl21⟩)
    (c21 : PySem.W.codeIn K cd21 "Rule.worlds" = true)
    (k21 : PySem.W.keepIn K (.ref f21) = true)
    (a22 : PySem.W.nsIn K mainGlobals "are_cells" = some (some (.ref f22)))
    (l22 : K.lookup f22 = some ⟨oc22, od22, .func (fnD "are_cells" "are_cells" (topS 36) kV22 dc22 pm22 an22 cd22 ct22), sl22⟩)
    (c22 : PySem.W.codeIn K cd22 "are_cells" = true)
    (k22 : PySem.W.keepIn K (.ref f22) = true)
    (a23 : PySem.W.nsIn K mainGlobals "are_people" = some (some (.ref f23)))
    (l23 : K.lookup f23 = some ⟨oc23, od23, .func (fnD "are_people" "are_people" (topS 37) kV23 dc23 pm23 an23 cd23 ct23), sl23⟩)
    (c23 : PySem.W.codeIn K cd23 "are_people" = true)
    (k23 : PySem.W.keepIn K (.ref f23) = true)
    (a24 : PySem.W.nsIn K mainGlobals "must_be_people" = some (some (.ref f24)))
    (l24 : K.lookup f24 = some ⟨oc24, od24, .func (fnD "must_be_people" "must_be_people" (topS 38) kV24 dc24 pm24 an24 cd24 ct24), sl24⟩)
    (c24 : PySem.W.codeIn K cd24 "must_be_people" = true)
    (k24 : PySem.W.keepIn K (.ref f24) = true)
    (a25 : PySem.W.nsIn K mainGlobals "in_order" = some (some (.ref f25)))
    (l25 : K.lookup f25 = some ⟨oc25, od25, .func (fnD "in_order" "in_order" (topS 39) kV25 dc25 pm25 an25 cd25 ct25), sl25⟩)
    (c25 : PySem.W.codeIn K cd25 "in_order" = true)
    (k25 : PySem.W.keepIn K (.ref f25) = true)
    (a26 : PySem.W.nsIn K mainGlobals "parted" = some (some (.ref f26)))
    (l26 : K.lookup f26 = some ⟨oc26, od26, .func (fnD "parted" "parted" (topS 41) kV26 dc26 pm26 an26 cd26 ct26), sl26⟩)
    (c26 : PySem.W.codeIn K cd26 "parted" = true)
    (k26 : PySem.W.keepIn K (.ref f26) = true)
    (a27 : PySem.W.nsIn K mainGlobals "turned" = some (some (.ref f27)))
    (l27 : K.lookup f27 = some ⟨oc27, od27, .func (fnD "turned" "turned" (topS 42) kV27 dc27 pm27 an27 cd27 ct27), sl27⟩)
    (c27 : PySem.W.codeIn K cd27 "turned" = true)
    (k27 : PySem.W.keepIn K (.ref f27) = true)
    (a28 : PySem.W.nsIn K mainGlobals "open_turn" = some (some (.ref f28)))
    (l28 : K.lookup f28 = some ⟨oc28, od28, .func (fnD "open_turn" "open_turn" (topS 43) kV28 dc28 pm28 an28 cd28 ct28), sl28⟩)
    (c28 : PySem.W.codeIn K cd28 "open_turn" = true)
    (k28 : PySem.W.keepIn K (.ref f28) = true)
    (a29 : PySem.W.nsIn K mainGlobals "talked" = some (some (.ref f29)))
    (l29 : K.lookup f29 = some ⟨oc29, od29, .func (fnD "talked" "talked" (topS 44) kV29 dc29 pm29 an29 cd29 ct29), sl29⟩)
    (c29 : PySem.W.codeIn K cd29 "talked" = true)
    (k29 : PySem.W.keepIn K (.ref f29) = true)
    (a30 : PySem.W.nsIn K mainGlobals "end" = some (some (.ref f30)))
    (l30 : K.lookup f30 = some ⟨oc30, od30, .func (fnD "end" "end" (topS 45) kV30 dc30 pm30 an30 cd30 ct30), sl30⟩)
    (c30 : PySem.W.codeIn K cd30 "end" = true)
    (k30 : PySem.W.keepIn K (.ref f30) = true)
    (a31 : PySem.W.nsIn K mainGlobals "turns" = some (some (.ref f31)))
    (l31 : K.lookup f31 = some ⟨oc31, od31, .func (fnD "turns" "turns" (topS 46) kV31 dc31 pm31 an31 cd31 ct31), sl31⟩)
    (c31 : PySem.W.codeIn K cd31 "turns" = true)
    (k31 : PySem.W.keepIn K (.ref f31) = true)
    (a32 : PySem.W.nsIn K mainGlobals "is_settled" = some (some (.ref f32)))
    (l32 : K.lookup f32 = some ⟨oc32, od32, .func (fnD "is_settled" "is_settled" (topS 47) kV32 dc32 pm32 an32 cd32 ct32), sl32⟩)
    (c32 : PySem.W.codeIn K cd32 "is_settled" = true)
    (k32 : PySem.W.keepIn K (.ref f32) = true)
    (a33 : PySem.W.nsIn K mainGlobals "cell_at" = some (some (.ref f33)))
    (l33 : K.lookup f33 = some ⟨oc33, od33, .func (fnD "cell_at" "cell_at" (topS 40) kV33 dc33 pm33 an33 cd33 ct33), sl33⟩)
    (c33 : PySem.W.codeIn K cd33 "cell_at" = true)
    (k33 : PySem.W.keepIn K (.ref f33) = true)
    (a34 : PySem.W.nsIn K mainGlobals "must_be_world" = some (some (.ref f34)))
    (l34 : K.lookup f34 = some ⟨oc34, od34, .func (fnD "must_be_world" "must_be_world" (topS 48) kV34 dc34 pm34 an34 cd34 ct34), sl34⟩)
    (c34 : PySem.W.codeIn K cd34 "must_be_world" = true)
    (k34 : PySem.W.keepIn K (.ref f34) = true)
    (a35 : PySem.W.nsIn K mainGlobals "said" = some (some (.ref f35)))
    (l35 : K.lookup f35 = some ⟨oc35, od35, .func (fnD "said" "said" (topS 49) kV35 dc35 pm35 an35 cd35 ct35), sl35⟩)
    (c35 : PySem.W.codeIn K cd35 "said" = true)
    (k35 : PySem.W.keepIn K (.ref f35) = true)
    (a36 : PySem.W.nsIn K mainGlobals "quarrel" = some (some (.ref f36)))
    (l36 : K.lookup f36 = some ⟨oc36, od36, .func (fnD "quarrel" "quarrel" (topS 50) kV36 dc36 pm36 an36 cd36 ct36), sl36⟩)
    (c36 : PySem.W.codeIn K cd36 "quarrel" = true)
    (k36 : PySem.W.keepIn K (.ref f36) = true)
    (a37 : PySem.W.nsIn K mainGlobals "_law_tape" = some (some (.ref f37)))
    (l37 : K.lookup f37 = some ⟨oc37, od37, .func (fnD "_law_tape" "_law_tape" (topS 52) kV37 dc37 pm37 an37 cd37 ct37), sl37⟩)
    (c37 : PySem.W.codeIn K cd37 "_law_tape" = true)
    (k37 : PySem.W.keepIn K (.ref f37) = true)
    (a38 : PySem.W.nsIn K mainGlobals "_law_pick" = some (some (.ref f38)))
    (l38 : K.lookup f38 = some ⟨oc38, od38, .func (fnD "_law_pick" "_law_pick" (topS 53) kV38 dc38 pm38 an38 cd38 ct38), sl38⟩)
    (c38 : PySem.W.codeIn K cd38 "_law_pick" = true)
    (k38 : PySem.W.keepIn K (.ref f38) = true)
    (a39 : PySem.W.nsIn K mainGlobals "_law_all_sets" = some (some (.ref f39)))
    (l39 : K.lookup f39 = some ⟨oc39, od39, .func (fnD "_law_all_sets" "_law_all_sets" (topS 54) kV39 dc39 pm39 an39 cd39 ct39), sl39⟩)
    (c39 : PySem.W.codeIn K cd39 "_law_all_sets" = true)
    (k39 : PySem.W.keepIn K (.ref f39) = true)
    (a40 : PySem.W.nsIn K mainGlobals "law" = some (some (.ref f40)))
    (l40 : K.lookup f40 = some ⟨oc40, od40, .func (fnD "law" "law" (topS 55) kV40 dc40 pm40 an40 cd40 ct40), sl40⟩)
    (c40 : PySem.W.codeIn K cd40 "law" = true)
    (k40 : PySem.W.keepIn K (.ref f40) = true) :
    ∃ fd : FuncData, (∀ (s : Shared) (v : Value), BindsTo s fd ⟨[v], []⟩ [("_law_script", v)]) ∧ ∀ base : Heap, K.In base → base.Ns mainGlobals mg → FnOk P w K mg base CX0 81 fa fd ["_law_script"] (spLaw K) := by
  have e := hfa.symm.trans (PySem.W.mg_of KX G a40)
  cases e
  let Cm : Str → Option Addr := fun x => [(("Rule" : Str), C0)].lookup x
  have hC0 : Cm "Rule" = some C0 := by with_unfolding_all rfl
  have cl0 : Cls K C0 := ⟨pg0, hd0, po0, sa0⟩
  have F0 : Facts K mg Cm sp0 := fact_fn "is_name" "is_name" (topS 15) KX G (.inl rfl) rfl rfl a0 l0 c0 k0 (fun _ _ _ _ _ _ us hl => match us, hl with | [_], _ => rfl)
  have F1 : Facts K mg Cm sp1 := fact_fn "are_worlds" "are_worlds" (topS 17) KX G (.inl rfl) rfl rfl a1 l1 c1 k1 (fun _ _ _ _ _ _ us hl => match us, hl with | [_], _ => rfl)
  have F2 : Facts K mg Cm sp2 := fact_fn "is_integer" "is_integer" (topS 14) KX G (.inl rfl) rfl rfl a2 l2 c2 k2 (fun _ _ _ _ _ _ us hl => match us, hl with | [_], _ => rfl)
  have F3 : Facts K mg Cm sp3 := fact_fn "is_word" "is_word" (topS 16) KX G (.inl rfl) rfl rfl a3 l3 c3 k3 (fun _ _ _ _ _ _ us hl => match us, hl with | [_], _ => rfl)
  have F4 : Facts K mg Cm sp4 := fact_fn "is_set_of" "is_set_of" (topS 18) KX G (.inl rfl) rfl rfl a4 l4 c4 k4 (fun _ _ _ _ _ _ us hl => match us, hl with | [_, _], _ => rfl)
  have F5 : Facts K mg Cm sp5 := fact_fn "is_row" "is_row" (topS 19) KX G (.inl rfl) rfl rfl a5 l5 c5 k5 (fun _ _ _ _ _ _ us hl => match us, hl with | [_, _], _ => rfl)
  have F6 : Facts K mg Cm sp6 := fact_ini "Rule" "__init__" "Rule.__init__" (inClass (topS 23) 0) rfl rfl hC0 (PySem.W.mg_of KX G aC0) mk0 kc0 a6 i6 l6 c6 k6 (fun _ _ _ _ _ _ us hl => match us, hl with | [_, _, _], _ => rfl)
  have F7 : Facts K mg Cm sp7 := fact_fn "all_sets" "all_sets" (topS 20) KX G (.inl rfl) rfl rfl a7 l7 c7 k7 (fun _ _ _ _ _ _ us hl => match us, hl with | [_], _ => rfl)
  have F8 : Facts K mg Cm sp8 := fact_meth "Rule" "own" "own" "Rule.own" (inClass (topS 23) 5) rfl rfl rfl hC0 cl0 a8 i8 l8 c8 k8 (fun _ _ _ _ _ _ us hl => match us, hl with | [_, _], _ => rfl)
  have F9 : Facts K mg Cm sp9 := fact_prop "Rule" "words" "words" "Rule.words" (inClass (topS 23) 4) rfl rfl rfl hC0 cl0 a9 g9 t9 r9 l9 c9 k9 (fun _ _ _ _ _ _ us hl => match us, hl with | [_], _ => rfl)
  have F10 : Facts K mg Cm sp10 := fact_fn "is_set" "is_set" (topS 24) KX G (.inl rfl) rfl rfl a10 l10 c10 k10 (fun _ _ _ _ _ _ us hl => match us, hl with | [_, _], _ => rfl)
  have F11 : Facts K mg Cm sp11 := fact_fn "is_word_of" "is_word_of" (topS 26) KX G (.inl rfl) rfl rfl a11 l11 c11 k11 (fun _ _ _ _ _ _ us hl => match us, hl with | [_, _], _ => rfl)
  have F12 : Facts K mg Cm sp12 := fact_fn "must_be_word" "must_be_word" (topS 27) KX G (.inl rfl) rfl rfl a12 l12 c12 k12 (fun _ _ _ _ _ _ us hl => match us, hl with | [_, _], _ => rfl)
  have F13 : Facts K mg Cm sp13 := fact_fn "must_be_unlike" "must_be_unlike" (topS 31) KX G (.inl rfl) rfl rfl a13 l13 c13 k13 (fun _ _ _ _ _ _ us hl => match us, hl with | [_, _, _], _ => rfl)
  have F14 : Facts K mg Cm sp14 := fact_fn "are_apart" "are_apart" (topS 21) KX G (.inl rfl) rfl rfl a14 l14 c14 k14 (fun _ _ _ _ _ _ us hl => match us, hl with | [_, _], _ => rfl)
  have F15 : Facts K mg Cm sp15 := fact_fn "joined_set" "joined_set" (topS 22) KX G (.inl rfl) rfl rfl a15 l15 c15 k15 (fun _ _ _ _ _ _ us hl => match us, hl with | [_, _], _ => rfl)
  have F16 : Facts K mg Cm sp16 := fact_prop "Rule" "sets" "sets" "Rule.sets" (inClass (topS 23) 3) rfl rfl rfl hC0 cl0 a16 g16 t16 r16 l16 c16 k16 (fun _ _ _ _ _ _ us hl => match us, hl with | [_], _ => rfl)
  have F17 : Facts K mg Cm sp17 := fact_fn "shortest" "shortest" (topS 29) KX G (.inl rfl) rfl rfl a17 l17 c17 k17 (fun _ _ _ _ _ _ us hl => match us, hl with | [_, _], _ => rfl)
  have F18 : Facts K mg Cm sp18 := fact_fn "least_clash" "least_clash" (topS 32) KX G (.inl rfl) rfl rfl a18 l18 c18 k18 (fun _ _ _ _ _ _ us hl => match us, hl with | [_, _, _], _ => rfl)
  have F19 : Facts K mg Cm sp19 := fact_fn "clash" "clash" (topS 33) KX G (.inl rfl) rfl rfl a19 l19 c19 k19 (fun _ _ _ _ _ _ us hl => match us, hl with | [_, _, _], _ => rfl)
  have F20 : Facts K mg Cm sp20 := fact_fn "pairs" "pairs" (topS 34) KX G (.inl rfl) rfl rfl a20 l20 c20 k20 (fun _ _ _ _ _ _ us hl => match us, hl with | [_], _ => rfl)
  have F21 : Facts K mg Cm sp21 := fact_prop "Rule" "worlds" "worlds" "Rule.worlds" (inClass (topS 23) 1) rfl rfl rfl hC0 cl0 a21 g21 t21 r21 l21 c21 k21 (fun _ _ _ _ _ _ us hl => match us, hl with | [_], _ => rfl)
  have F22 : Facts K mg Cm sp22 := fact_fn "are_cells" "are_cells" (topS 36) KX G (.inl rfl) rfl rfl a22 l22 c22 k22 (fun _ _ _ _ _ _ us hl => match us, hl with | [_, _], _ => rfl)
  have F23 : Facts K mg Cm sp23 := fact_fn "are_people" "are_people" (topS 37) KX G (.inl rfl) rfl rfl a23 l23 c23 k23 (fun _ _ _ _ _ _ us hl => match us, hl with | [_, _], _ => rfl)
  have F24 : Facts K mg Cm sp24 := fact_fn "must_be_people" "must_be_people" (topS 38) KX G (.inl rfl) rfl rfl a24 l24 c24 k24 (fun _ _ _ _ _ _ us hl => match us, hl with | [_, _], _ => rfl)
  have F25 : Facts K mg Cm sp25 := fact_fn "in_order" "in_order" (topS 39) KX G (.inl rfl) rfl rfl a25 l25 c25 k25 (fun _ _ _ _ _ _ us hl => match us, hl with | [_], _ => rfl)
  have F26 : Facts K mg Cm sp26 := fact_fn "parted" "parted" (topS 41) KX G (.inl rfl) rfl rfl a26 l26 c26 k26 (fun _ _ _ _ _ _ us hl => match us, hl with | [_, _], _ => rfl)
  have F27 : Facts K mg Cm sp27 := fact_fn "turned" "turned" (topS 42) KX G (.inl rfl) rfl rfl a27 l27 c27 k27 (fun _ _ _ _ _ _ us hl => match us, hl with | [_, _, _, _], _ => rfl)
  have F28 : Facts K mg Cm sp28 := fact_fn "open_turn" "open_turn" (topS 43) KX G (.inl rfl) rfl rfl a28 l28 c28 k28 (fun _ _ _ _ _ _ us hl => match us, hl with | [_, _, _], _ => rfl)
  have F29 : Facts K mg Cm sp29 := fact_fn "talked" "talked" (topS 44) KX G (.inl rfl) rfl rfl a29 l29 c29 k29 (fun _ _ _ _ _ _ us hl => match us, hl with | [_, _], _ => rfl)
  have F30 : Facts K mg Cm sp30 := fact_fn "end" "end" (topS 45) KX G (.inl rfl) rfl rfl a30 l30 c30 k30 (fun _ _ _ _ _ _ us hl => match us, hl with | [_, _], _ => rfl)
  have F31 : Facts K mg Cm sp31 := fact_fn "turns" "turns" (topS 46) KX G (.inl rfl) rfl rfl a31 l31 c31 k31 (fun _ _ _ _ _ _ us hl => match us, hl with | [_, _], _ => rfl)
  have F32 : Facts K mg Cm sp32 := fact_fn "is_settled" "is_settled" (topS 47) KX G (.inl rfl) rfl rfl a32 l32 c32 k32 (fun _ _ _ _ _ _ us hl => match us, hl with | [_, _], _ => rfl)
  have F33 : Facts K mg Cm sp33 := fact_fn "cell_at" "cell_at" (topS 40) KX G (.inl rfl) rfl rfl a33 l33 c33 k33 (fun _ _ _ _ _ _ us hl => match us, hl with | [_, _], _ => rfl)
  have F34 : Facts K mg Cm sp34 := fact_fn "must_be_world" "must_be_world" (topS 48) KX G (.inl rfl) rfl rfl a34 l34 c34 k34 (fun _ _ _ _ _ _ us hl => match us, hl with | [_, _], _ => rfl)
  have F35 : Facts K mg Cm sp35 := fact_fn "said" "said" (topS 49) KX G (.inl rfl) rfl rfl a35 l35 c35 k35 (fun _ _ _ _ _ _ us hl => match us, hl with | [_, _, _], _ => rfl)
  have F36 : Facts K mg Cm sp36 := fact_fn "quarrel" "quarrel" (topS 50) KX G (.inl rfl) rfl rfl a36 l36 c36 k36 (fun _ _ _ _ _ _ us hl => match us, hl with | [_, _, _], _ => rfl)
  have F37 : Facts K mg Cm sp37 := fact_fn "_law_tape" "_law_tape" (topS 52) KX G (.inl rfl) rfl rfl a37 l37 c37 k37 (fun _ _ _ _ _ _ us hl => match us, hl with | [_, _], _ => rfl)
  have F38 : Facts K mg Cm sp38 := fact_fn "_law_pick" "_law_pick" (topS 53) KX G (.inr rfl) rfl rfl a38 l38 c38 k38 (fun _ _ _ _ _ _ us hl => match us, hl with | [_, _], _ => rfl)
  have F39 : Facts K mg Cm sp39 := fact_fn "_law_all_sets" "_law_all_sets" (topS 54) KX G (.inl rfl) rfl rfl a39 l39 c39 k39 (fun _ _ _ _ _ _ us hl => match us, hl with | [_], _ => rfl)
  refine ⟨fnD "law" "law" (topS 55) kV40 dc40 pm40 an40 cd40 ct40, fun s v => .of_eq rfl, fun base _ _ => ?_⟩
  have g0 : GOkM P w K mg base Cm 0 G0 := gok0 (fun p hp => by
    simp only [G0, List.mem_cons, List.not_mem_nil, or_false] at hp
    rcases hp with rfl | rfl
    · exact ⟨C0, hC0, cl0, nf0⟩
    · exact ⟨C0, hC0, cl0, nf1⟩)
   (fun p hp => by
    simp only [G0, List.mem_cons, List.not_mem_nil, or_false] at hp
    rcases hp with rfl
    · exact ⟨tk1, PySem.W.mg_of KX G gc1⟩)
   (fun p hp => by
    simp only [G0, List.mem_cons, List.not_mem_nil, or_false] at hp
    rcases hp with rfl
    · exact ⟨tk0, PySem.W.mg_of KX G gc0⟩)
   (fun p hp => by
    simp only [bnames, List.mem_cons, List.not_mem_nil, or_false] at hp
    rcases hp with rfl | rfl | rfl | rfl | rfl | rfl | rfl | rfl | rfl | rfl | rfl | rfl | rfl | rfl | rfl | rfl | rfl | rfl | rfl | rfl
    · exact PySem.W.mg_none_of KX G z0
    · exact PySem.W.mg_none_of KX G z1
    · exact PySem.W.mg_none_of KX G z2
    · exact PySem.W.mg_none_of KX G z3
    · exact PySem.W.mg_none_of KX G z4
    · exact PySem.W.mg_none_of KX G z5
    · exact PySem.W.mg_none_of KX G z6
    · exact PySem.W.mg_none_of KX G z7
    · exact PySem.W.mg_none_of KX G z8
    · exact PySem.W.mg_none_of KX G z9
    · exact PySem.W.mg_none_of KX G z10
    · exact PySem.W.mg_none_of KX G z11
    · exact PySem.W.mg_none_of KX G z12
    · exact PySem.W.mg_none_of KX G z13
    · exact PySem.W.mg_none_of KX G z14
    · exact PySem.W.mg_none_of KX G z15
    · exact PySem.W.mg_none_of KX G z16
    · exact PySem.W.mg_none_of KX G z17
    · exact PySem.W.mg_none_of KX G z18
    · exact PySem.W.mg_none_of KX G z19) rfl rfl rfl rfl rfl
  have g1 := add_ok g0 ok_0 F0
  have g2 := add_ok g1 ok_1 F1
  have g3 := add_ok g2 ok_2 F2
  have g4 := add_ok g3 ok_3 F3
  have g5 := add_ok g4 ok_4 F4
  have g6 := add_ok g5 ok_5 F5
  have g7 := add_ok g6 ok_6 F6
  have g8 := add_ok g7 ok_7 F7
  have g9 := add_ok g8 ok_8 F8
  have g10 := add_ok g9 ok_9 F9
  have g11 := add_ok g10 ok_10 F10
  have g12 := add_ok g11 ok_11 F11
  have g13 := add_ok g12 ok_12 F12
  have g14 := add_ok g13 ok_13 F13
  have g15 := add_ok g14 ok_14 F14
  have g16 := add_ok g15 ok_15 F15
  have g17 := add_ok g16 ok_16 F16
  have g18 := add_ok g17 ok_17 F17
  have g19 := add_ok g18 ok_18 F18
  have g20 := add_ok g19 ok_19 F19
  have g21 := add_ok g20 ok_20 F20
  have g22 := add_ok g21 ok_21 F21
  have g23 := add_ok g22 ok_22 F22
  have g24 := add_ok g23 ok_23 F23
  have g25 := add_ok g24 ok_24 F24
  have g26 := add_ok g25 ok_25 F25
  have g27 := add_ok g26 ok_26 F26
  have g28 := add_ok g27 ok_27 F27
  have g29 := add_ok g28 ok_28 F28
  have g30 := add_ok g29 ok_29 F29
  have g31 := add_ok g30 ok_30 F30
  have g32 := add_ok g31 ok_31 F31
  have g33 := add_ok g32 ok_32 F32
  have g34 := add_ok g33 ok_33 F33
  have g35 := add_ok g34 ok_34 F34
  have g36 := add_ok g35 ok_35 F35
  have g37 := add_ok g36 ok_36 F36
  have g38 := add_ok g37 ok_37 F37
  have g39 := add_ok g38 ok_38 F38
  have g40 := add_ok g39 ok_39 F39
  exact law_fn (sp := sp40) (G := G40) g40 okLaw rfl (fun_mk l40 c40 k40) law13
end Pd
open PySem PySem.W PyProof.Rows
set_option maxRecDepth 100000 in
set_option maxHeartbeats 0 in
theorem PySem.Challenge.cw_sidesaid_k13_talks_by_hand_holds : PySem.Challenge.rw_sidesaid_k13_talks_by_hand.Holds := by
  w_on; o_law; k_head; (case hw => w_witness2)
  k_fill
  refine Pd.walkL (l := PySem.Challenge.rw_sidesaid_k13_talks_by_hand) (k := 81) (x := "_law_script") rfl rfl ⟨rfl, by decide, by decide⟩ (fun w h Y => PySem.W.kIn_of Y) ?F
  case F =>
    intro w mg fa h KX G hmg
    refine' Pd.all_mk KX G hmg ?aC0 ?pg0 ?hd0 ?po0 ?sa0 ?mk0 ?kc0 ?nf0 ?nf1 ?z0 ?z1 ?z2 ?z3 ?z4 ?z5 ?z6 ?z7 ?z8 ?z9 ?z10 ?z11 ?z12 ?z13 ?z14 ?z15 ?z16 ?z17 ?z18 ?z19 ?gc0 ?gc1 ?a0 ?l0 ?c0 ?k0 ?a1 ?l1 ?c1 ?k1 ?a2 ?l2 ?c2 ?k2 ?a3 ?l3 ?c3 ?k3 ?a4 ?l4 ?c4 ?k4 ?a5 ?l5 ?c5 ?k5 ?a6 ?i6 ?l6 ?c6 ?k6 ?a7 ?l7 ?c7 ?k7 ?a8 ?i8 ?l8 ?c8 ?k8 ?a9 ?g9 ?t9 ?r9 ?l9 ?c9 ?k9 ?a10 ?l10 ?c10 ?k10 ?a11 ?l11 ?c11 ?k11 ?a12 ?l12 ?c12 ?k12 ?a13 ?l13 ?c13 ?k13 ?a14 ?l14 ?c14 ?k14 ?a15 ?l15 ?c15 ?k15 ?a16 ?g16 ?t16 ?r16 ?l16 ?c16 ?k16 ?a17 ?l17 ?c17 ?k17 ?a18 ?l18 ?c18 ?k18 ?a19 ?l19 ?c19 ?k19 ?a20 ?l20 ?c20 ?k20 ?a21 ?g21 ?t21 ?r21 ?l21 ?c21 ?k21 ?a22 ?l22 ?c22 ?k22 ?a23 ?l23 ?c23 ?k23 ?a24 ?l24 ?c24 ?k24 ?a25 ?l25 ?c25 ?k25 ?a26 ?l26 ?c26 ?k26 ?a27 ?l27 ?c27 ?k27 ?a28 ?l28 ?c28 ?k28 ?a29 ?l29 ?c29 ?k29 ?a30 ?l30 ?c30 ?k30 ?a31 ?l31 ?c31 ?k31 ?a32 ?l32 ?c32 ?k32 ?a33 ?l33 ?c33 ?k33 ?a34 ?l34 ?c34 ?k34 ?a35 ?l35 ?c35 ?k35 ?a36 ?l36 ?c36 ?k36 ?a37 ?l37 ?c37 ?k37 ?a38 ?l38 ?c38 ?k38 ?a39 ?l39 ?c39 ?k39 ?a40 ?l40 ?c40 ?k40
    (case aC0 => k_is); (case pg0 => k_is); (case hd0 => k_is); (case po0 => k_is); (case sa0 => k_is); (case mk0 => k_is)
    (case kc0 => k_is); (case nf0 => k_is); (case nf1 => k_is); (case z0 => k_is); (case z1 => k_is); (case z2 => k_is)
    (case z3 => k_is); (case z4 => k_is); (case z5 => k_is); (case z6 => k_is); (case z7 => k_is); (case z8 => k_is)
    (case z9 => k_is); (case z10 => k_is); (case z11 => k_is); (case z12 => k_is); (case z13 => k_is); (case z14 => k_is)
    (case z15 => k_is); (case z16 => k_is); (case z17 => k_is); (case z18 => k_is); (case z19 => k_is); (case gc0 => k_is)
    (case gc1 => k_is); (case a0 => k_is); (case l0 => k_is); (case c0 => k_is); (case k0 => k_is); (case a1 => k_is)
    (case l1 => k_is); (case c1 => k_is); (case k1 => k_is); (case a2 => k_is); (case l2 => k_is); (case c2 => k_is)
    (case k2 => k_is); (case a3 => k_is); (case l3 => k_is); (case c3 => k_is); (case k3 => k_is); (case a4 => k_is)
    (case l4 => k_is); (case c4 => k_is); (case k4 => k_is); (case a5 => k_is); (case l5 => k_is); (case c5 => k_is)
    (case k5 => k_is); (case a6 => k_is); (case i6 => k_is); (case l6 => k_is); (case c6 => k_is); (case k6 => k_is)
    (case a7 => k_is); (case l7 => k_is); (case c7 => k_is); (case k7 => k_is); (case a8 => k_is); (case i8 => k_is)
    (case l8 => k_is); (case c8 => k_is); (case k8 => k_is); (case a9 => k_is); (case g9 => k_is); (case t9 => k_is)
    (case r9 => k_is); (case l9 => k_is); (case c9 => k_is); (case k9 => k_is); (case a10 => k_is); (case l10 => k_is)
    (case c10 => k_is); (case k10 => k_is); (case a11 => k_is); (case l11 => k_is); (case c11 => k_is); (case k11 => k_is)
    (case a12 => k_is); (case l12 => k_is); (case c12 => k_is); (case k12 => k_is); (case a13 => k_is); (case l13 => k_is)
    (case c13 => k_is); (case k13 => k_is); (case a14 => k_is); (case l14 => k_is); (case c14 => k_is); (case k14 => k_is)
    (case a15 => k_is); (case l15 => k_is); (case c15 => k_is); (case k15 => k_is); (case a16 => k_is); (case g16 => k_is)
    (case t16 => k_is); (case r16 => k_is); (case l16 => k_is); (case c16 => k_is); (case k16 => k_is); (case a17 => k_is)
    (case l17 => k_is); (case c17 => k_is); (case k17 => k_is); (case a18 => k_is); (case l18 => k_is); (case c18 => k_is)
    (case k18 => k_is); (case a19 => k_is); (case l19 => k_is); (case c19 => k_is); (case k19 => k_is); (case a20 => k_is)
    (case l20 => k_is); (case c20 => k_is); (case k20 => k_is); (case a21 => k_is); (case g21 => k_is); (case t21 => k_is)
    (case r21 => k_is); (case l21 => k_is); (case c21 => k_is); (case k21 => k_is); (case a22 => k_is); (case l22 => k_is)
    (case c22 => k_is); (case k22 => k_is); (case a23 => k_is); (case l23 => k_is); (case c23 => k_is); (case k23 => k_is)
    (case a24 => k_is); (case l24 => k_is); (case c24 => k_is); (case k24 => k_is); (case a25 => k_is); (case l25 => k_is)
    (case c25 => k_is); (case k25 => k_is); (case a26 => k_is); (case l26 => k_is); (case c26 => k_is); (case k26 => k_is)
    (case a27 => k_is); (case l27 => k_is); (case c27 => k_is); (case k27 => k_is); (case a28 => k_is); (case l28 => k_is)
    (case c28 => k_is); (case k28 => k_is); (case a29 => k_is); (case l29 => k_is); (case c29 => k_is); (case k29 => k_is)
    (case a30 => k_is); (case l30 => k_is); (case c30 => k_is); (case k30 => k_is); (case a31 => k_is); (case l31 => k_is)
    (case c31 => k_is); (case k31 => k_is); (case a32 => k_is); (case l32 => k_is); (case c32 => k_is); (case k32 => k_is)
    (case a33 => k_is); (case l33 => k_is); (case c33 => k_is); (case k33 => k_is); (case a34 => k_is); (case l34 => k_is)
    (case c34 => k_is); (case k34 => k_is); (case a35 => k_is); (case l35 => k_is); (case c35 => k_is); (case k35 => k_is)
    (case a36 => k_is); (case l36 => k_is); (case c36 => k_is); (case k36 => k_is); (case a37 => k_is); (case l37 => k_is)
    (case c37 => k_is); (case k37 => k_is); (case a38 => k_is); (case l38 => k_is); (case c38 => k_is); (case k38 => k_is)
    (case a39 => k_is); (case l39 => k_is); (case c39 => k_is); (case k39 => k_is); (case a40 => k_is); (case l40 => k_is)
    (case c40 => k_is); (case k40 => k_is)
