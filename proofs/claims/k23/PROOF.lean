import PyProof.Rows.All
import Wide.All
import OpenK.AllK
import Wide.FinOn
import PySem.Challenge.RW_mergereach_k23_whole_double_picks
import HandS.ForMost
import HandS.Exc
import HandS.TupAny
import HandS.Deep
import HandS.IsInst
import HandS.WideBits
import HandS.RaiseMore
import HandS.Defaults
import HandS.FStr
import HandS.HeadWalk
import HandS.ClsMeth
import HandS.Comp
import HandS.Iter
import HandS.Zip
import KE.GoesEnumKw
import OpenK.KOps
import PyProof.ZipIter
import KE.KDictZip
import PyProof.CollectWalk
import PyProof.ListRange
import HandS.DictComp
import HandS.Style
import HandS.Small
import HandS.HeadEnd
import HandS.Head0
import HandS.Head1
import HandS.Head2
import HandS.HeadHook1
import HandS.HeadHook2
import HandS.HeadHook3
import HandS.HeadHook4
set_option Elab.async false
set_option linter.all false
set_option maxRecDepth 100000
set_option maxHeartbeats 0
namespace PyI
open PySem PySem.Spec PyProof.Rows L2

/-- values: trees, or a reference into the list of cells -/
inductive W where
  | non | bl (b : Bool) | int (i : Int) | str (x : Str)
  | tup (ws : List W)
  | lst (ws : List W)
  | dct (ks : List Key) (ws : List W)
  | obj (c : Str) (ns : List Str) (ws : List W)
  | ref (n : Nat)
  | cls (c : Str)
  | typ (n : String)
  | scr (ns : List Int)
  deriving Inhabited

inductive Con where
  | lst (ws : List W)
  | dct (ks : List Key) (ws : List W)
  | obj (c : Str) (ns : List Str) (ws : List W)
  deriving Inhabited
structure Cell where
  live : Bool
  con : Con
  deriving Inhabited
abbrev Store := List Cell

inductive Res (α : Type) where
  | ok (a : α) (M : Store)
  | exc (c : Str) (ns : List Str) (ws : List W) (M : Store)
  | err

/-- the written part, the classes' addresses -/
structure GE where
  K : PySem.W.Frag
  cA : Str → Option Addr
/-- ghosts: the cells' addresses; addresses that no value may lean on -/
structure Gh where
  R : List Addr
  Z : List Addr

/-- no live cell lies at a -/
def NL (g : Gh) (M : Store) (a : Addr) : Prop := ∀ (i : Nat) (c : Cell), g.R[i]? = some a → M[i]? = some c → c.live = false
/-- what stands at a never changes -/
def Fro (g : Gh) (M : Store) (a : Addr) : Prop := a ∉ g.Z ∧ NL g M a

/-- the written part's own lists, tuples -/
def KT (K : PySem.W.Frag) (a : Addr) (xs : List V) : Prop := ∃ (o : Obj) (its : Array Value) (n : Nat), K.lookup a = some o ∧ o.cls = .type "tuple" ∧ o.data = .seq its n ∧ its.size ≤ sizeLine ∧ Vals xs its.toList
def StL (g : Gh) (M : Store) (H : Hp) (a : Addr) (xs : List V) : Prop := Rd H a (.lst xs) ∧ Fro g M a
def StT (K : PySem.W.Frag) (g : Gh) (M : Store) (H : Hp) (a : Addr) (xs : List V) : Prop := (Rd H a (.tup xs) ∧ Fro g M a) ∨ KT K a xs

/-- a list of the written part; the script -/
def KL (K : PySem.W.Frag) (a : Addr) (xs : List V) : Prop := ∃ (o : Obj) (its : Array Value) (n : Nat), K.lookup a = some o ∧ o.cls = .type "list" ∧ o.dict = none ∧ o.data = .seq its n ∧ its.size ≤ sizeLine ∧ Vals xs its.toList
def StS (K : PySem.W.Frag) (g : Gh) (M : Store) (H : Hp) (a : Addr) (ns : List Int) : Prop := (Rd H a (.lst (ns.map V.int)) ∧ Fro g M a) ∨ KL K a (ns.map V.int)

section
variable (G : GE)
mutual
def RW (g : Gh) (M : Store) (H : Hp) : W → V → Prop
  | .non, v => v = .non
  | .bl b, v => v = .bl b
  | .int i, v => v = .int i
  | .str x, v => v = .str x
  | .tup ws, v => ∃ a vs, v = .ref a ∧ StT G.K g M H a vs ∧ RWs g M H ws vs
  | .lst ws, v => ∃ a vs, v = .ref a ∧ StL g M H a vs ∧ RWs g M H ws vs
  | .dct ks ws, v => ∃ a kvs, v = .ref a ∧ H a = some (.dK kvs) ∧ Fro g M a ∧ kvs.map (·.1) = ks ∧ RWs g M H ws (kvs.map (·.2))
  | .obj c ns ws, v => ∃ a C dx fs, v = .ref a ∧ G.cA c = some C ∧ H a = some (.ins C dx fs) ∧ Fro g M a ∧ fs.map (·.1) = ns ∧ RWs g M H ws (fs.map (·.2))
  | .ref n, v => ∃ a, g.R[n]? = some a ∧ v = .ref a
  | .cls c, v => ∃ C, G.cA c = some C ∧ v = .ref C
  | .typ n, v => v = .ty n
  | .scr ns, v => ∃ a, v = .ref a ∧ StS G.K g M H a ns
def RWs (g : Gh) (M : Store) (H : Hp) : List W → List V → Prop
  | [], vs => vs = []
  | w :: ws, vs => ∃ v r, vs = v :: r ∧ RW g M H w v ∧ RWs g M H ws r
end

def CellAt (g : Gh) (M : Store) (H : Hp) (a : Addr) : Con → Prop
  | .lst ws => ∃ vs, H a = some (.lst vs) ∧ RWs G g M H ws vs
  | .dct ks ws => ∃ kvs, H a = some (.dK kvs) ∧ kvs.map (·.1) = ks ∧ RWs G g M H ws (kvs.map (·.2))
  | .obj c ns ws => ∃ C dx fs, G.cA c = some C ∧ H a = some (.ins C dx fs) ∧ fs.map (·.1) = ns ∧ RWs G g M H ws (fs.map (·.2))

structure Abs (g : Gh) (M : Store) (H : Hp) : Prop where
  len : g.R.length = M.length
  nd : g.R.Nodup
  nz : ∀ a ∈ g.Z, a ∉ g.R
  zd : ∀ a ∈ g.Z, H a ≠ none
  cell : ∀ (i : Nat) (c : Cell) (a : Addr), M[i]? = some c → g.R[i]? = some a → CellAt G g M H a c.con
end

/-- how the state may evolve -/
structure Evo (g : Gh) (M : Store) (H : Hp) (g' : Gh) (M' : Store) (H' : Hp) : Prop where
  more : ∃ X, g'.R = g.R ++ X ∧ ∀ a ∈ X, H a = none
  zs : g'.Z = g.Z
  len : M.length ≤ M'.length
  dead : ∀ (i : Nat) (c : Cell), M[i]? = some c → c.live = false → M'[i]? = some c
  keep : ∀ a o, H a = some o → NL g M a → H' a = some o
  dom : ∀ a, H a ≠ none → H' a ≠ none

section
variable {G : GE} {g g' g2 : Gh} {M M' M2 : Store} {H H' H2 : Hp}

theorem Evo.refl : Evo g M H g M H := ⟨⟨[], by simp, by simp⟩, rfl, Nat.le_refl _, fun _ _ h _ => h, fun _ _ h _ => h, fun _ h => h⟩

theorem Evo.nl (e : Evo g M H g' M' H') (hl : g.R.length = M.length) {a : Addr} (ha : H a ≠ none) (f : NL g M a) : NL g' M' a := by
  intro i c h1 h2
  obtain ⟨X, hR, hX⟩ := e.more
  rw [hR] at h1
  by_cases hi : i < g.R.length
  · rw [List.getElem?_append_left hi] at h1
    obtain ⟨c0, hc0⟩ : ∃ c0, M[i]? = some c0 := ⟨_, List.getElem?_eq_getElem (by omega)⟩
    have := f i c0 h1 hc0
    rw [e.dead i c0 hc0 this] at h2
    cases h2; exact this
  · rw [List.getElem?_append_right (by omega)] at h1
    exact absurd (hX a (List.mem_of_getElem? h1)) ha
theorem Evo.fro (e : Evo g M H g' M' H') (hl : g.R.length = M.length) {a : Addr} (ha : H a ≠ none) (f : Fro g M a) : Fro g' M' a :=
  ⟨by rw [e.zs]; exact f.1, e.nl hl ha f.2⟩

theorem Evo.trans (e : Evo g M H g' M' H') (hl : g.R.length = M.length) (f : Evo g' M' H' g2 M2 H2) : Evo g M H g2 M2 H2 := by
  obtain ⟨X, hR, hX⟩ := id e.more
  obtain ⟨Y, hR2, hY⟩ := id f.more
  refine ⟨⟨X ++ Y, by rw [hR2, hR, List.append_assoc], fun a ha => ?_⟩, f.zs.trans e.zs, Nat.le_trans e.len f.len, fun i c h1 h2 => f.dead i c (e.dead i c h1 h2) h2, fun a o h1 h2 => ?_, fun a h => f.dom a (e.dom a h)⟩
  · rcases List.mem_append.mp ha with h | h
    · exact hX a h
    · have := hY a h
      cases q : H a with
      | none => rfl
      | some o => exact absurd this (e.dom a (by rw [q]; simp))
  · exact f.keep a o (e.keep a o h1 h2) (e.nl hl (by rw [h1]; simp) h2)

theorem Rd.dom {a : Addr} {u : HO} (h : Rd H a u) : H a ≠ none := by
  rcases h with h | ⟨o, h⟩ <;> rw [h] <;> simp
theorem Evo.rd {a : Addr} {u : HO} (e : Evo g M H g' M' H') (f : NL g M a) (h : Rd H a u) : Rd H' a u := by
  rcases h with h | ⟨ob, h⟩
  · exact .inl (e.keep a _ h f)
  · exact .inr ⟨ob, e.keep a _ h f⟩
theorem StL.sq {K : PySem.W.Frag} {a : Addr} {vs : List V} (h : StL g M H a vs) : SqL K H a vs := .inl h.1
theorem StT.sq {K : PySem.W.Frag} {a : Addr} {vs : List V} (h : StT K g M H a vs) : SqT K H a vs := by
  rcases h with ⟨h, _⟩ | h
  · exact .inl h
  · exact .inr h
theorem StS.sq {K : PySem.W.Frag} {a : Addr} {ns : List Int} (h : StS K g M H a ns) : SqL K H a (ns.map V.int) := by
  rcases h with ⟨h, _⟩ | h
  · exact .inl h
  · exact .inr h
theorem StS.evo {K : PySem.W.Frag} {a : Addr} {ns : List Int} (h : StS K g M H a ns) (hl : g.R.length = M.length) (e : Evo g M H g' M' H') : StS K g' M' H' a ns := by
  rcases h with ⟨h, f⟩ | h
  · exact .inl ⟨e.rd f.2 h, e.fro hl (Rd.dom h) f⟩
  · exact .inr h
theorem StL.evo {a : Addr} {vs : List V} (h : StL g M H a vs) (hl : g.R.length = M.length) (e : Evo g M H g' M' H') : StL g' M' H' a vs := ⟨e.rd h.2.2 h.1, e.fro hl (Rd.dom h.1) h.2⟩
theorem StT.evo {K : PySem.W.Frag} {a : Addr} {vs : List V} (h : StT K g M H a vs) (hl : g.R.length = M.length) (e : Evo g M H g' M' H') : StT K g' M' H' a vs := by
  rcases h with ⟨h, f⟩ | h
  · exact .inl ⟨e.rd f.2 h, e.fro hl (Rd.dom h) f⟩
  · exact .inr h

mutual
theorem RW.evo (hl : g.R.length = M.length) (e : Evo g M H g' M' H') : ∀ {w : W} {v : V}, RW G g M H w v → RW G g' M' H' w v
  | .non, v, h => h
  | .bl b, v, h => h
  | .int i, v, h => h
  | .str x, v, h => h
  | .tup ws, v, h => by
    obtain ⟨a, vs, h1, h2, h3⟩ := h
    exact ⟨a, vs, h1, h2.evo hl e, RWs.evo hl e h3⟩
  | .lst ws, v, h => by
    obtain ⟨a, vs, h1, h2, h3⟩ := h
    exact ⟨a, vs, h1, h2.evo hl e, RWs.evo hl e h3⟩
  | .dct ks ws, v, h => by
    obtain ⟨a, kvs, h1, h2, h3, h4, h5⟩ := h
    exact ⟨a, kvs, h1, e.keep _ _ h2 h3.2, e.fro hl (by rw [h2]; simp) h3, h4, RWs.evo hl e h5⟩
  | .obj c ns ws, v, h => by
    obtain ⟨a, C, dx, fs, h1, h2, h3, h4, h5, h6⟩ := h
    exact ⟨a, C, dx, fs, h1, h2, e.keep _ _ h3 h4.2, e.fro hl (by rw [h3]; simp) h4, h5, RWs.evo hl e h6⟩
  | .ref n, v, h => by
    obtain ⟨a, h1, h2⟩ := h
    obtain ⟨X, hR, _⟩ := e.more
    exact ⟨a, by rw [hR, List.getElem?_append_left (List.getElem?_eq_some_iff.mp h1).1]; exact h1, h2⟩
  | .cls c, v, h => h
  | .typ n, v, h => h
  | .scr ns, v, h => by
    obtain ⟨a, h1, h2⟩ := h
    exact ⟨a, h1, h2.evo hl e⟩
theorem RWs.evo (hl : g.R.length = M.length) (e : Evo g M H g' M' H') : ∀ {ws : List W} {vs : List V}, RWs G g M H ws vs → RWs G g' M' H' ws vs
  | [], vs, h => h
  | w :: ws, vs, h => by
    obtain ⟨v, r, h1, h2, h3⟩ := h
    exact ⟨v, r, h1, RW.evo hl e h2, RWs.evo hl e h3⟩
end
theorem CellAt.evo (hl : g.R.length = M.length) (e : Evo g M H g' M' H') {a : Addr} {c : Con} (h : CellAt G g M H a c) (k : ∀ o, H a = some o → H' a = some o) : CellAt G g' M' H' a c := by
  cases c with
  | lst ws => obtain ⟨vs, h1, h2⟩ := h; exact ⟨vs, k _ h1, h2.evo hl e⟩
  | dct ks ws => obtain ⟨vs, h1, h2, h3⟩ := h; exact ⟨vs, k _ h1, h2, h3.evo hl e⟩
  | obj c ns ws => obtain ⟨C, dx, fs, h1, h2, h3, h4⟩ := h; exact ⟨C, dx, fs, h1, k _ h2, h3, h4.evo hl e⟩

/-- the locals: what is known of the slots -/
def LR (G : GE) (g : Gh) (M : Store) (H : Hp) (ws : List (Option W)) (σ : L2.St) : Prop := ws.length = σ.length ∧ ∀ (i : Nat) (w : W), ws[i]? = some (some w) → ∃ v, σ[i]? = some (some v) ∧ RW G g M H w v
theorem LR.evo (hl : g.R.length = M.length) (e : Evo g M H g' M' H') {ws : List (Option W)} {σ : L2.St} (h : LR G g M H ws σ) : LR G g' M' H' ws σ :=
  ⟨h.1, fun i w q => let ⟨v, a, b⟩ := h.2 i w q; ⟨v, a, b.evo hl e⟩⟩
theorem LR.set {ws : List (Option W)} {σ : L2.St} (h : LR G g M H ws σ) (i : Nat) {w : W} {v : V} (r : RW G g M H w v) : LR G g M H (ws.set i (some w)) (σ.set i (some v)) := by
  refine ⟨by simp [h.1], fun j x q => ?_⟩
  by_cases hj : i = j
  · subst hj
    by_cases hi : i < ws.length
    · rw [List.getElem?_set_self hi] at q
      cases q
      exact ⟨v, List.getElem?_set_self (by rw [← h.1]; exact hi), r⟩
    · rw [List.getElem?_eq_none (by simpa using hi)] at q; cases q
  · rw [List.getElem?_set_ne hj] at q
    obtain ⟨u, a, b⟩ := h.2 j x q
    exact ⟨u, by rw [List.getElem?_set_ne hj]; exact a, b⟩
theorem LR.unset {ws : List (Option W)} {σ : L2.St} (h : LR G g M H ws σ) (i : Nat) : LR G g M H (ws.set i none) (σ.set i none) := by
  refine ⟨by simp [h.1], fun j x q => ?_⟩
  by_cases hj : i = j
  · subst hj
    by_cases hi : i < ws.length
    · rw [List.getElem?_set_self hi] at q; cases q
    · rw [List.getElem?_eq_none (by simpa using hi)] at q; cases q
  · rw [List.getElem?_set_ne hj] at q
    obtain ⟨u, a, b⟩ := h.2 j x q
    exact ⟨u, by rw [List.getElem?_set_ne hj]; exact a, b⟩

theorem RWs.length : ∀ {ws : List W} {vs : List V}, RWs G g M H ws vs → ws.length = vs.length
  | [], vs, h => by have e : vs = [] := h; subst e; rfl
  | w :: ws, _, h => by
    obtain ⟨v, r, rfl, _, h3⟩ := h
    simp [RWs.length h3]
theorem RWs.get : ∀ {ws : List W} {vs : List V} {i : Nat} {w : W}, RWs G g M H ws vs → ws[i]? = some w → ∃ v, vs[i]? = some v ∧ RW G g M H w v
  | [], _, _, _, _, e => by simp at e
  | w :: ws, _, 0, _, h, e => by
    obtain ⟨v, r, rfl, h2, _⟩ := h
    simp at e; subst e
    exact ⟨v, rfl, h2⟩
  | w :: ws, _, i + 1, _, h, e => by
    obtain ⟨v, r, rfl, _, h3⟩ := h
    obtain ⟨u, a, b⟩ := RWs.get (i := i) h3 (by simpa using e)
    exact ⟨u, by simpa using a, b⟩
theorem RWs.append : ∀ {ws us : List W} {vs xs : List V}, RWs G g M H ws vs → RWs G g M H us xs → RWs G g M H (ws ++ us) (vs ++ xs)
  | [], _, _, _, h, k => by rw [show _ = [] from h]; exact k
  | w :: ws, _, _, _, h, k => by
    obtain ⟨v, r, rfl, h2, h3⟩ := h
    exact ⟨v, _, rfl, h2, RWs.append h3 k⟩
theorem RWs.nil : RWs G g M H [] [] := rfl
theorem RWs.cons {w : W} {v : V} {ws : List W} {vs : List V} (h : RW G g M H w v) (k : RWs G g M H ws vs) : RWs G g M H (w :: ws) (v :: vs) := ⟨v, vs, rfl, h, k⟩
theorem RWs.one {w : W} {v : V} (h : RW G g M H w v) : RWs G g M H [w] [v] := .cons h .nil
theorem RWs.set : ∀ {ws : List W} {vs : List V} (i : Nat) {w : W} {v : V}, RWs G g M H ws vs → RW G g M H w v → RWs G g M H (ws.set i w) (vs.set i v)
  | [], _, _, _, _, h, _ => by rw [show _ = [] from h]; exact rfl
  | w :: ws, _, 0, _, _, h, k => by
    obtain ⟨v, r, rfl, _, h3⟩ := h
    exact ⟨_, _, rfl, k, h3⟩
  | w :: ws, _, i + 1, _, _, h, k => by
    obtain ⟨v, r, rfl, h2, h3⟩ := h
    exact ⟨_, _, rfl, h2, RWs.set i h3 k⟩
theorem RWs.take : ∀ {ws : List W} {vs : List V} (n : Nat), RWs G g M H ws vs → RWs G g M H (ws.take n) (vs.take n)
  | _, _, 0, _ => by simp; exact rfl
  | [], _, n + 1, h => by rw [show _ = [] from h]; simp; exact rfl
  | w :: ws, _, n + 1, h => by
    obtain ⟨v, r, rfl, h2, h3⟩ := h
    exact ⟨_, _, rfl, h2, RWs.take n h3⟩
theorem RWs.drop : ∀ {ws : List W} {vs : List V} (n : Nat), RWs G g M H ws vs → RWs G g M H (ws.drop n) (vs.drop n)
  | _, _, 0, h => by simpa using h
  | [], _, n + 1, h => by rw [show _ = [] from h]; simp; exact rfl
  | w :: ws, _, n + 1, h => by
    obtain ⟨v, r, rfl, h2, h3⟩ := h
    exact RWs.drop n h3
theorem RWs.reverse {ws : List W} {vs : List V} (h : RWs G g M H ws vs) : RWs G g M H ws.reverse vs.reverse := by
  induction ws generalizing vs with
  | nil => rw [show vs = [] from h]; exact rfl
  | cons w ws ih =>
    obtain ⟨v, r, rfl, h2, h3⟩ := h
    rw [List.reverse_cons, List.reverse_cons]
    exact (ih h3).append (.one h2)
theorem RWs.eraseIdx : ∀ {ws : List W} {vs : List V} (n : Nat), RWs G g M H ws vs → RWs G g M H (ws.eraseIdx n) (vs.eraseIdx n)
  | [], _, n, h => by rw [show _ = [] from h]; simp; exact rfl
  | w :: ws, _, 0, h => by
    obtain ⟨v, r, rfl, h2, h3⟩ := h
    exact h3
  | w :: ws, _, n + 1, h => by
    obtain ⟨v, r, rfl, h2, h3⟩ := h
    exact ⟨_, _, rfl, h2, RWs.eraseIdx n h3⟩
end
end PyI

namespace PyI
open PySem PySem.Spec PyProof.Rows L2

/-! ### the compact text -/
/-- targets of names alone -/
inductive Tg where
  | nm (i : Nat)
  | tup (ts : List Tg)
  deriving Inhabited

/-- what is walked -/
inductive Itk where
  | seq | range | enum | zip | zips | items | values
  deriving Inhabited, DecidableEq

/-- built-in functions and classes, called by name -/
inductive Bl where
  | len | list | tuple | all | any | max | min | abs | divmod | int | str | repr | sum
  deriving Inhabited, DecidableEq
def Bl.name : Bl → Str
  | .len => "len" | .list => "list" | .tuple => "tuple" | .all => "all" | .any => "any" | .max => "max" | .min => "min" | .abs => "abs" | .divmod => "divmod"
  | .int => "int" | .str => "str" | .repr => "repr" | .sum => "sum"
/-- methods of built-in types -/
inductive Mt where
  | join | split | upper | startswith | count
  | append | extend | pop | popAt | reverse | clear | insert | index
  | get | update
  deriving Inhabited, DecidableEq
def Mt.name : Mt → Str
  | .join => "join" | .split => "split" | .upper => "upper" | .startswith => "startswith" | .count => "count"
  | .append => "append" | .extend => "extend" | .pop => "pop" | .popAt => "pop" | .reverse => "reverse" | .clear => "clear" | .insert => "insert" | .index => "index"
  | .get => "get" | .update => "update"

inductive Prm where
  | bin (op : Operator) (fz : Bool) | cmp (op : CmpOp) | neg
  | idx | slc (lo hi fz : Bool)
  | tup | lst (fz : Bool)
  | dsp (fz : Bool) (ks : List Key)
  | blt (b : Bl) (fz : Bool)
  | fst (ps : List (Option Str × Bool))
  | lzip (fz : Bool)
  deriving Inhabited

inductive E where
  | var (i : Nat)
  | con (w : W)
  | glo (x : Str)
  | prm (p : Prm) (as : List E)
  | mth (m : Mt) (fz : Bool) (o : E) (as : List E)
  | not (a : E)
  | and (as : List E)
  | or (as : List E)
  | slc3 (fz : Bool) (a b c : E)
  | isi (single : Bool) (cs : List (Str × Bool)) (a : E)
  | ife (c a b : E)
  | chain (op1 op2 : CmpOp) (a b c : E)
  | call (f : Str) (fz : Bool) (as : List E) (ks : List Str)
  | make (c : Str) (fz : Bool) (as : List E) (ks : List Str)
  | meth (c m : Str) (fz : Bool) (o : E) (as : List E) (ks : List Str)
  | lc (fz : Bool) (own : List (Str × Nat)) (k : Itk) (src : List E) (t : Tg) (cond : List E) (elt : E)
  | dc (fz : Bool) (own : List (Str × Nat)) (k : Itk) (src : List E) (t : Tg) (cond : List E) (key val : E)
  | att (a : E) (f : Str)
  | prop (c f : Str) (a : E)
  | lenU (c : Str) (a : E)
  | reprU (c : Str) (a : E)
  | eqU (neg : Bool) (a b : E)
  | exAtt (f : Str)
  | exIs (cs : List (Str × Bool))
  | bad
  deriving Inhabited

mutual
inductive S where
  | expr (e : E)
  | asg (t : Tg) (e : E)
  | par (is : List Nat) (es : List E)
  | setSub (o i e : E)
  | setAtt (o : E) (f : Str) (e : E)
  | subNm (o i : E) (j : Nat) (e : E)
  | aug (i : Nat) (op : Operator) (e : E)
  | ife (c : E) (a b : List S)
  | for (k : Itk) (src : List E) (t : Tg) (body : List S)
  | whl (c : E) (body : List S)
  | ret (e : E)
  | retN
  | raise (c : Str) (as : List E)
  | raiseIn (c : Str) (as : List E)
  | tri (body : List S) (h : Hd)
  | pass | brk | cont
  | bad
inductive Hd where
  | nil
  | cons (cs : List (Str × Bool)) (n : Option Nat) (suite : List S) (rest : Hd)
end

/-! ### views of values -/
def conL : Con → Option (List W)
  | .lst ws => some ws
  | _ => none
def vL (M : Store) : W → Option (List W)
  | .lst ws => some ws
  | .ref n => (M[n]?).bind fun c => conL c.con
  | _ => none
/-- a list or a tuple -/
def vS (M : Store) : W → Option (List W)
  | .lst ws => some ws
  | .scr ns => some (ns.map .int)
  | .tup ws => some ws
  | .ref n => (M[n]?).bind fun c => conL c.con
  | _ => none
def conD : Con → Option (List Key × List W)
  | .dct ks ws => some (ks, ws)
  | _ => none
def vD (M : Store) : W → Option (List Key × List W)
  | .dct ks ws => some (ks, ws)
  | .ref n => (M[n]?).bind fun c => conD c.con
  | _ => none
def conO : Con → Option (Str × List Str × List W)
  | .obj c ns ws => some (c, ns, ws)
  | _ => none
def vO (M : Store) : W → Option (Str × List Str × List W)
  | .obj c ns ws => some (c, ns, ws)
  | .ref n => (M[n]?).bind fun c => conO c.con
  | _ => none

/-! ### data: trees without references -/
mutual
def dataW : W → Option PyData
  | .non => some .none
  | .bl b => some (.bool b)
  | .int i => some (.int i)
  | .str x => some (.str x)
  | .tup ws => (dataWs ws).map .tuple
  | .lst ws => (dataWs ws).map .list
  | _ => none
def dataWs : List W → Option (List PyData)
  | [] => some []
  | w :: ws => (dataW w).bind fun d => (dataWs ws).map (d :: ·)
end
mutual
/-- each reference to a list, one step read -/
def res1 (M : Store) : W → W
  | .tup ws => .tup (res1s M ws)
  | .lst ws => .lst (res1s M ws)
  | .ref n => match (M[n]?).bind fun c => conL c.con with
    | some ws => .lst ws
    | none => .ref n
  | w => w
def res1s (M : Store) : List W → List W
  | [] => []
  | w :: ws => res1 M w :: res1s M ws
end
def dataM (M : Store) (w : W) : Option PyData := dataW (res1 M (res1 M (res1 M w)))

/-! ### results -/
def Res.bind {α β : Type} (r : Res α) (f : α → Store → Res β) : Res β :=
  match r with
  | .ok a M => f a M
  | .exc c ns ws M => .exc c ns ws M
  | .err => .err
def need {α β : Type} (o : Option α) (f : α → Res β) : Res β :=
  match o with
  | some a => f a
  | none => .err
/-- an answer -/
def give (w : W) (M : Store) : Res W := .ok w M
/-- a new list: frozen, or a live cell -/
def newL (fz : Bool) (ws : List W) (M : Store) : Res W := if fz then .ok (.lst ws) M else .ok (.ref M.length) (M ++ [⟨true, .lst ws⟩])
def newD (fz : Bool) (ks : List Key) (ws : List W) (M : Store) : Res W := if fz then .ok (.dct ks ws) M else .ok (.ref M.length) (M ++ [⟨true, .dct ks ws⟩])

/-! ### truth -/
def truW (M : Store) : W → Option Bool
  | .non => some false
  | .bl b => some b
  | .int i => some (i != 0)
  | .str x => if x.length ≤ sizeLine then some (x.length != 0) else none
  | .tup ws => some !ws.isEmpty
  | .lst ws => some !ws.isEmpty
  | .ref n => ((M[n]?).bind fun c => conL c.con).map fun ws => !ws.isEmpty
  | _ => none

/-! ### operators -/
instance (i j : Int) : Decidable (CMul i j) := inferInstanceAs (Decidable ((-(2 ^ 64) < i ∧ i < 2 ^ 64) ∨ (-(2 ^ 64) < j ∧ j < 2 ^ 64)))
def binW (op : Operator) (fz : Bool) (a b : W) (M : Store) : Res W :=
  match op, a, b with
  | .Add, .int i, .int j => .ok (.int (i + j)) M
  | .Sub, .int i, .int j => .ok (.int (i - j)) M
  | .Mult, .int i, .int j => if CMul i j then .ok (.int (i * j)) M else .err
  | .FloorDiv, .int i, .int j => if 0 < j ∧ j < 1073741824 then .ok (.int (i / j)) M else .err
  | .Mod, .int i, .int j => if 0 < j then .ok (.int (i % j)) M else .err
  | .Pow, .int i, .int j => if 0 ≤ j ∧ j ≤ 1000000 ∧ i.natAbs < 2 ^ 64 then .ok (.int (i ^ j.toNat)) M else .err
  | .Add, .str x, .str y => if x.length + y.length ≤ sizeLine then .ok (.str (x ++ y)) M else .err
  | .Add, .tup x, .tup y => if x.length + y.length ≤ sizeLine then .ok (.tup (x ++ y)) M else .err
  | .Mult, l, .int k => need (vL M l) fun ws => if -(2 ^ 63) ≤ k ∧ k < 2 ^ 63 ∧ ws.length * k.toNat ≤ sizeLine then newL fz (List.replicate k.toNat ws).flatten M else .err
  | .Add, l, r => need (vL M l) fun x => need (vL M r) fun y => if x.length + y.length ≤ sizeLine then newL fz (x ++ y) M else .err
  | _, _, _ => .err
def eqW (M : Store) (a b : W) : Option Bool :=
  match a, b with
  | .str x, .str y => some (decide (x = y))
  | a, b => (dataM M a).bind fun d => (dataM M b).bind fun e => if SeqAt.shaped d && SeqAt.shaped e then some (PyData.eqv d e) else none
def keyOf : W → Option Key
  | .int i => some (.inl i)
  | .str x => some (.inr x)
  | _ => none
def inW (M : Store) (a b : W) : Option Bool :=
  match a, b with
  | .str x, .str y => some (!(Builtin.Str.occurrences y x 0 y.length 1).isEmpty)
  | a, b => match vD M b with
    | some (ks, _) => (keyOf a).map fun k => ks.any fun z => decide (z = k)
    | none => (vS M b).bind fun ws => (dataM M a).bind fun d => (dataM M (.lst ws)).bind fun e => match e with
    | .list ds => if SeqAt.shaped d && SeqAt.shaped (.list ds) then some (ds.any fun z => PyData.eqv z d) else none
    | _ => none
def cmpW (op : CmpOp) (a b : W) (M : Store) : Res W :=
  match op, a, b with
  | .Lt, .int i, .int j => .ok (.bl (decide (i < j))) M
  | .LtE, .int i, .int j => .ok (.bl (decide (i ≤ j))) M
  | .Gt, .int i, .int j => .ok (.bl (decide (j < i))) M
  | .GtE, .int i, .int j => .ok (.bl (decide (j ≤ i))) M
  | .Eq, a, b => need (eqW M a b) fun r => .ok (.bl r) M
  | .NotEq, a, b => need (eqW M a b) fun r => .ok (.bl (!r)) M
  | .In, a, b => need (inW M a b) fun r => .ok (.bl r) M
  | .NotIn, a, b => need (inW M a b) fun r => .ok (.bl (!r)) M
  | .Is, a, .non => .ok (.bl (match a with | .non => true | _ => false)) M
  | .IsNot, a, .non => .ok (.bl (match a with | .non => false | _ => true)) M
  | _, _, _ => .err

/-! ### isinstance -/
def tyW (M : Store) : W → Option (String ⊕ Str)
  | .non => some (.inl "NoneType")
  | .bl _ => some (.inl "bool")
  | .int _ => some (.inl "int")
  | .str _ => some (.inl "str")
  | .tup _ => some (.inl "tuple")
  | .lst _ => some (.inl "list")
  | .dct _ _ => some (.inl "dict")
  | .obj c _ _ => some (.inr c)
  | .ref n => (M[n]?).map fun c => match c.con with
    | .lst _ => .inl "list"
    | .dct _ _ => .inl "dict"
    | .obj c _ _ => .inr c
  | _ => none
/-- the built-in classes that may be asked -/
def askTys : List (Str × String) := [("int", "int"), ("str", "str"), ("tuple", "tuple"), ("list", "list"), ("dict", "dict"), ("bool", "bool")]
/-- one asked class: its name, and whether it is a class of the text -/
def isiOne : String ⊕ Str → Str × Bool → Bool
  | .inl a, (c, false) => match askTys.lookup c with
    | some t => decide (a = t) || (decide (a = "bool") && decide (t = "int"))
    | none => false
  | .inr a, (c, true) => decide (a = c)
  | _, _ => false
/-- the classes are known -/
def isiAll (pl : Str → Bool) (t : String ⊕ Str) (cs : List (Str × Bool)) : Bool := (match t with
  | .inl _ => true
  | .inr c => pl c) && cs.all fun q => if q.2 then pl q.1 else (askTys.lookup q.1).isSome

/-! ### displays, items, slices -/
def lookK (k : Key) : List Key → List W → Option W
  | a :: ks, w :: ws => if a = k then some w else lookK k ks ws
  | _, _ => none
/-- where the key stands -/
def idxK (k : Key) : List Key → Option Nat
  | [] => none
  | a :: ks => if a = k then some 0 else (idxK k ks).map (· + 1)
def atW {α : Type} (xs : List α) (i : Int) : Option α := atI xs i
def idxW (a b : W) (M : Store) : Res W :=
  match a, b with
  | .str x, .int i => if x.length ≤ sizeLine then need (atI x.cps.toList i) fun c => .ok (.str ⟨#[c]⟩) M else .err
  | a, .int i => match vD M a with
    | some (ks, ws) => need (lookK (Sum.inl i) ks ws) fun w => .ok w M
    | none => need (vS M a) fun ws => need (atI ws i) fun w => .ok w M
  | a, .str x => need (vD M a) fun (ks, ws) => need (lookK (Sum.inr x) ks ws) fun w => .ok w M
  | _, _ => .err
def cutW {α : Type} (xs : List α) (lo hi : Option Int) : List α := (xs.drop (HT.sIx xs.length 0 lo)).take (HT.sIx xs.length xs.length hi - HT.sIx xs.length 0 lo)
def cutStr (x : Str) (lo hi : Option Int) : Str := ⟨(cutW x.cps.toList lo hi).toArray⟩
def slcW (fz : Bool) (a : W) (lo hi : Option Int) (M : Store) : Res W :=
  match a with
  | .str x => if x.length ≤ sizeLine then .ok (.str (cutStr x lo hi)) M else .err
  | .tup ws => .ok (.tup (cutW ws lo hi)) M
  | a => need (vL M a) fun ws => newL fz (cutW ws lo hi) M

/-! ### built-in functions -/
def blsOf : List W → Option (List Bool)
  | [] => some []
  | .bl b :: ws => (blsOf ws).map (b :: ·)
  | _ => none
def intsOf : List W → Option (List Int)
  | [] => some []
  | .int b :: ws => (intsOf ws).map (b :: ·)
  | _ => none
def strsOf : List W → Option (List Str)
  | [] => some []
  | .str b :: ws => (strsOf ws).map (b :: ·)
  | _ => none
def blsW (M : Store) (w : W) : Option (List Bool) := (vL M w).bind blsOf
def intsW (M : Store) (w : W) : Option (List Int) := (vL M w).bind intsOf
def strsW (M : Store) (w : W) : Option (List Str) := (vS M w).bind strsOf
def lenW (a : W) (M : Store) : Res W :=
  match a with
  | .str x => if x.length ≤ sizeLine then .ok (.int x.length) M else .err
  | a => match vD M a with
    | some (ks, _) => .ok (.int ks.length) M
    | none => need (vS M a) fun ws => .ok (.int ws.length) M
def absW (a : W) (M : Store) : Res W :=
  match a with
  | .int i => .ok (.int (if i < 0 then -i else i)) M
  | _ => .err
def intW (a : W) (M : Store) : Res W :=
  match a with
  | .int i => .ok (.int i) M
  | .bl b => .ok (.int (if b then 1 else 0)) M
  | .str x => if x.length ≤ 640 then need (intText? x) fun n => .ok (.int n) M else .err
  | _ => .err
def strW (a : W) (M : Store) : Res W :=
  match a with
  | .int i => if i.natAbs.log2 < 1920 then .ok (.str (toString i)) M else .err
  | .str x => .ok (.str x) M
  | _ => .err
def reprW (a : W) (M : Store) : Res W := need (dataM M a) fun d => if d.showable && decide (d.shown.length ≤ sizeLine) && !d.hasDict && decide (d.depth ≤ 64) then .ok (.str d.shown) M else .err
def bl1 (b : Bl) (fz : Bool) (a : W) (M : Store) : Res W :=
  match b with
  | .len => lenW a M
  | .list => need (vS M a) fun ws => newL fz ws M
  | .tuple => need (vS M a) fun ws => .ok (.tup ws) M
  | .all => need (blsW M a) fun bs => .ok (.bl (bs.all id)) M
  | .any => need (blsW M a) fun bs => .ok (.bl (bs.any id)) M
  | .abs => absW a M
  | .int => intW a M
  | .str => strW a M
  | .repr => reprW a M
  | .sum => need (intsW M a) fun ns => .ok (.int ns.sum) M
  | _ => .err
def bl2 (b : Bl) (a c : W) (M : Store) : Res W :=
  match a, c with
  | .int i, .int j => (match b with
    | .max => .ok (.int (if j > i then j else i)) M
    | .min => .ok (.int (if j < i then j else i)) M
    | .divmod => if 0 < j ∧ j < 1073741824 then .ok (.tup [.int (i / j), .int (i % j)]) M else .err
    | _ => .err)
  | _, _ => .err
def bltW (b : Bl) (fz : Bool) (as : List W) (M : Store) : Res W :=
  match as with
  | [a] => bl1 b fz a M
  | [a, c] => bl2 b a c M
  | _ => .err

/-! ### methods of built-in types -/
/-- a live list changed -/
def putL (n : Nat) (f : List W → Option (W × List W)) (M : Store) : Res W :=
  match M[n]? with
  | some ⟨true, .lst ws⟩ => need (f ws) fun (r, ws') => .ok r (M.set n ⟨true, .lst ws'⟩)
  | _ => .err
def insW {α : Type} (xs : List α) (i : Nat) (x : α) : List α := xs.take i ++ x :: xs.drop i
def mth0 (m : Mt) (o : W) (M : Store) : Res W :=
  match m, o with
  | .upper, .str x => if x.length ≤ 5592405 then .ok (.str (Txt.upper x)) M else .err
  | .pop, .ref n => putL n (fun ws => (ws[ws.length - 1]?).map fun w => (w, ws.dropLast)) M
  | .reverse, .ref n => putL n (fun ws => some (.non, ws.reverse)) M
  | .clear, .ref n => putL n (fun _ => some (.non, [])) M
  | _, _ => .err
def mth1 (m : Mt) (fz : Bool) (o a : W) (M : Store) : Res W :=
  match m with
  | .join => (match o with
    | .str x => need (strsW M a) fun ys => if (ys.map (·.length)).sum + ys.length * x.length ≤ 16777216 then .ok (.str (Txt.join x ys)) M else .err
    | _ => .err)
  | .append => (match o with
    | .ref n => putL n (fun ws => if ws.length < sizeLine then some (.non, ws ++ [a]) else none) M
    | _ => .err)
  | .extend => (match o with
    | .ref n => need (vL M a) fun us => putL n (fun ws => if ws.length + us.length ≤ sizeLine then some (.non, ws ++ us) else none) M
    | _ => .err)
  | .popAt => (match o, a with
    | .ref n, .int i => putL n (fun ws => if -(2 ^ 63) ≤ i ∧ i < 2 ^ 63 then (seqIndex? i ws.length).bind fun k => (ws[k]?).map fun w => (w, ws.eraseIdx k) else none) M
    | _, _ => .err)
  | .split => (match o, a with
    | .str x, .str y => if y.length ≠ 0 ∧ x.length + 2 ≤ sizeLine then newL fz ((Txt.split x y).map .str) M else .err
    | _, _ => .err)
  | .startswith => (match o, a with
    | .str x, .str y => .ok (.bl (Txt.startswith x y)) M
    | _, _ => .err)
  | .count => (match o, a with
    | .str x, .str y => .ok (.int (Txt.count x y)) M
    | _, _ => .err)
  | _ => .err
def mthW (m : Mt) (fz : Bool) (as : List W) (M : Store) : Res W :=
  match as with
  | [o] => mth0 m o M
  | [o, a] => mth1 m fz o a M
  | _ => .err

def isStrW : W → Bool
  | .str _ => true
  | _ => false
/-- the receiver is of the method's type -/
def kindW (m : Mt) (w : W) (M : Store) : Bool :=
  match m with
  | .join | .split | .upper | .startswith | .count => isStrW w
  | .get | .update => (vD M w).isSome
  | _ => (vL M w).isSome

/-! ### f-strings: written parts (some x), fields (none; true: !r) -/
def fldW (r : Bool) (w : W) (M : Store) : Option Str :=
  match r, w with
  | false, .str x => some x
  | false, .int i => if i.natAbs.log2 < 1920 then some (toString i) else none
  | true, w => (dataM M w).bind fun d => if d.showable && decide (d.shown.length ≤ sizeLine) && !d.hasDict && decide (d.depth ≤ 64) then some d.shown else none
  | _, _ => none
def fstW : List (Option Str × Bool) → List W → Str → Store → Option Str
  | [], [], acc, _ => some acc
  | (some x, _) :: ps, ws, acc, M => if acc.length + x.length ≤ sizeLine then fstW ps ws (acc ++ x) M else none
  | (none, r) :: ps, w :: ws, acc, M => (fldW r w M).bind fun x => if acc.length + x.length ≤ sizeLine then fstW ps ws (acc ++ x) M else none
  | _, _, _, _ => none

def intOf : W → Option Int
  | .int i => some i
  | _ => none
def slcP (lo hi : Bool) (fz : Bool) (as : List W) (M : Store) : Res W :=
  match lo, hi, as with
  | false, false, [a] => slcW fz a none none M
  | true, false, [a, i] => need (intOf i) fun i => slcW fz a (some i) none M
  | false, true, [a, j] => need (intOf j) fun j => slcW fz a none (some j) M
  | _, _, _ => .err
def two (f : W → W → Store → Res W) (as : List W) (M : Store) : Res W :=
  match as with
  | [a, b] => f a b M
  | _ => .err
def one (f : W → Store → Res W) (as : List W) (M : Store) : Res W :=
  match as with
  | [a] => f a M
  | _ => .err
def negW (a : W) (M : Store) : Res W := need (intOf a) fun i => .ok (.int (-i)) M
/-- the primitives -/
def lzipW (fz : Bool) (a b : W) (M : Store) : Res W := need (vL M a) fun x => need (vL M b) fun y => newL fz (x.zipWith (fun u v => .tup [u, v]) y) M
def prm (p : Prm) (as : List W) (M : Store) : Res W :=
  match p with
  | .bin op fz => two (binW op fz) as M
  | .cmp op => two (cmpW op) as M
  | .neg => one negW as M
  | .idx => two idxW as M
  | .slc lo hi fz => slcP lo hi fz as M
  | .tup => if as.length ≤ sizeLine then .ok (.tup as) M else .err
  | .lst fz => if as.length ≤ sizeLine then newL fz as M else .err
  | .dsp fz ks => if as.length ≤ 15 ∧ ks.length = as.length ∧ ks.Nodup then newD fz ks as M else .err
  | .blt b fz => bltW b fz as M
  | .fst ps => need (fstW ps as Str.empty M) fun x => .ok (.str x) M
  | .lzip fz => two (lzipW fz) as M

/-! ### what is walked -/
def chars (x : Str) : List W := x.cps.toList.map fun c => .str ⟨#[c]⟩
/-- the items of a loop's source -/
def itemsW (k : Itk) (as : List W) (M : Store) : Option (List W) :=
  match k, as with
  | .seq, [.str x] => some (chars x)
  | .seq, [a] => vS M a
  | .range, [.int j] => if -(2 ^ 62) ≤ j ∧ j < 2 ^ 62 then some ((List.range j.toNat).map fun (i : Nat) => .int (i : Int)) else none
  | .range, [.int i, .int j] => if -(2 ^ 62) ≤ i ∧ i < 2 ^ 62 ∧ -(2 ^ 62) ≤ j ∧ j < 2 ^ 62 then some ((List.range (j - i).toNat).map fun (n : Nat) => .int (i + (n : Int))) else none
  | .enum, [a] => (vL M a).map fun ws => (List.range ws.length).zipWith (fun (i : Nat) w => .tup [.int (i : Int), w]) ws
  | .zip, [a, b] => (vS M a).bind fun x => (vS M b).map fun y => x.zipWith (fun u v => .tup [u, v]) y
  | .zips, [a, b] => (vS M a).bind fun x => (vS M b).bind fun y => if x.length = y.length then some (x.zipWith (fun u v => .tup [u, v]) y) else none
  | .items, [a] => (vD M a).map fun (ks, ws) => ks.zipWith (fun k w => .tup [match k with | .inl i => .int i | .inr x => .str x, w]) ws
  | .values, [a] => (vD M a).map fun (_, ws) => ws
  | _, _ => none
mutual
/-- names stored -/
def tgW : Tg → W → List (Option W) → Option (List (Option W))
  | .nm i, w, l => some (l.set i (some w))
  | .tup ts, .tup ws, l => tgWs ts ws l
  | .tup _, _, _ => none
def tgWs : List Tg → List W → List (Option W) → Option (List (Option W))
  | [], [], l => some l
  | t :: ts, w :: ws, l => (tgW t w l).bind fun l' => tgWs ts ws l'
  | _, _, _ => none
end
abbrev LM := List (Option W)
def wipeW (l : LM) : List Nat → LM
  | [] => l
  | v :: vs => (wipeW l vs).set v none


/-! ### pure values: no reference within -/
mutual
def pureW : W → Bool
  | .tup ws => pureWs ws
  | .lst ws => pureWs ws
  | .dct _ ws => pureWs ws
  | .obj _ _ ws => pureWs ws
  | .ref _ => false
  | _ => true
def pureWs : List W → Bool
  | [] => true
  | w :: ws => pureW w && pureWs ws
end
def Con.ws : Con → List W
  | .lst ws => ws
  | .dct _ ws => ws
  | .obj _ _ ws => ws
def Con.frz : Con → W
  | .lst ws => .lst ws
  | .dct ks ws => .dct ks ws
  | .obj c ns ws => .obj c ns ws
def pureC (c : Cell) : Bool := pureWs c.con.ws
mutual
/-- the references from k on, opened: what lies there, frozen -/
def openW (M : Store) (k : Nat) : W → W
  | .tup ws => .tup (openWs M k ws)
  | .lst ws => .lst (openWs M k ws)
  | .ref n => if k ≤ n then (match M[n]? with
    | some c => c.con.frz
    | none => .ref n) else .ref n
  | .dct ks ws => .dct ks (openWs M k ws)
  | .obj c ns ws => .obj c ns (openWs M k ws)
  | w => w
def openWs (M : Store) (k : Nat) : List W → List W
  | [] => []
  | w :: ws => openW M k w :: openWs M k ws
end

/-! ### the global names -/
/-- a def: its parameters' names, how many of them may be given by place, what it means -/
structure FnI where
  ps : List Str
  np : Nat
  sem : List W → Store → Res W
structure Glo where
  fn : Str → Option FnI
  /-- a class's method -/
  mt : Str → Str → Option FnI
  con : Str → Option W
  /-- a plain class of the text -/
  pl : Str → Bool
  /-- what a class holds under a name -/
  att : Str → Str → Option W
  /-- a name that no class of c holds: a field of its instances -/
  fld : Str → Str → Bool
  /-- an exception class: its fields -/
  exc : Str → Option (List Str)
  /-- is the exception class c (a class of the text) of the class d (true: of the text) -/
  kin : Str → Str × Bool → Bool
/-- the exception at hand in an except suite -/
structure Cur where
  c : Str
  ns : List Str
  ws : List W
/-- the arguments' places in the parameters' order: n by place, the rest by the names ks -/
def permW (ps ks : List Str) (n : Nat) : List Nat := List.range n ++ (ps.drop n).map fun p => n + ks.idxOf p
def bindW {α : Type} (ps ks : List Str) (as : List α) : List α := match ks with
  | [] => as
  | k :: ks => (permW ps (k :: ks) (as.length - (k :: ks).length)).filterMap fun i => as[i]?
/-- the references among the arguments -/
def refsOf : List W → List Nat
  | [] => []
  | .ref n :: ws => n :: refsOf ws
  | _ :: ws => refsOf ws
/-- the arguments with the references numbered from k on -/
def renum : Nat → List W → List W
  | _, [] => []
  | k, .ref _ :: ws => .ref k :: renum (k + 1) ws
  | k, w :: ws => w :: renum k ws
def isRef : W → Bool
  | .ref _ => true
  | _ => false
/-- the cells written back -/
def putBack (M : Store) : List Nat → List Cell → Store
  | n :: ns, c :: cs => (putBack M ns cs).set n c
  | _, _ => M
/-- an answer taken over: ns the callee's first cells, M1 the caller's store -/
def takeW (fz : Bool) (ns : List Nat) (w : W) (M' M1 : Store) : Res W :=
  if pureW w then .ok w M1 else
  if fz then (let w' := openW M' ns.length (openW M' ns.length w); if pureW w' then .ok w' M1 else .err) else
  match w with
  | .ref j => match ns[j]? with
    | some n => .ok (.ref n) M1
    | none => need (M'[j]?) fun c => if pureC c then .ok (.ref M1.length) (M1 ++ [c]) else .err
  | _ => .err
/-- a def runs on the cells that it is handed, alone -/
def callW (f : List W → Store → Res W) (fz : Bool) (vs : List W) (M : Store) : Res W :=
  let ns := refsOf vs
  need (ns.mapM fun n => M[n]?) fun cs =>
  if ns.Nodup ∧ cs.all pureC ∧ (vs.all fun v => isRef v || pureW v) then
    match f (renum 0 vs) cs with
    | .ok w M' => if ns.length ≤ M'.length ∧ (M'.take ns.length).all pureC then takeW fz ns w M' (putBack M ns (M'.take ns.length)) else .err
    | .exc c xs ws M' => if ns.length ≤ M'.length ∧ (M'.take ns.length).all pureC ∧ pureWs ws then .exc c xs ws (putBack M ns (M'.take ns.length)) else .err
    | .err => .err
  else .err
/-- a new instance: its cell first -/
def makeW (f : List W → Store → Res W) (c : Str) (fz : Bool) (vs : List W) (M : Store) : Res W :=
  let ns := refsOf vs
  need (ns.mapM fun n => M[n]?) fun cs =>
  if ns.Nodup ∧ cs.all pureC ∧ (vs.all fun v => isRef v || pureW v) then
    match f (.ref 0 :: renum 1 vs) (⟨true, .obj c [] []⟩ :: cs) with
    | .ok .non M' => if 1 + ns.length ≤ M'.length ∧ ((M'.drop 1).take ns.length).all pureC then need (M'[0]?) fun o =>
        if fz then (let w' := openW M' (1 + ns.length) (openW M' (1 + ns.length) o.con.frz); if pureW w' then .ok w' (putBack M ns ((M'.drop 1).take ns.length)) else .err)
        else if pureC o then .ok (.ref M.length) (putBack M ns ((M'.drop 1).take ns.length) ++ [o]) else .err
      else .err
    | .exc e xs ws M' => if 1 + ns.length ≤ M'.length ∧ ((M'.drop 1).take ns.length).all pureC ∧ pureWs ws then .exc e xs ws (putBack M ns ((M'.drop 1).take ns.length)) else .err
    | _ => .err
  else .err
/-- nothing raised within -/
def Res.calm {α : Type} (r : Res α) : Res α := match r with
  | .exc .. => .err
  | r => r
/-- the items stand as they stood -/
def Still (k : Itk) (src : List W) (items : List W) (M : Store) : Prop := itemsW k src M = some items

open Classical in
/-- a comprehension's turns -/
noncomputable def lcW (tg : W → Option LM) (cond : LM → Store → Res Bool) (elt : LM → Store → Res W) (still : Store → Prop) : List W → Store → Res (List W)
  | [], M => .ok [] M
  | x :: xs, M => need (tg x) fun l => (cond l M).bind fun b M1 =>
    if b then (elt l M1).bind fun y M2 => if still M2 then (lcW tg cond elt still xs M2).bind fun ys M3 => .ok (y :: ys) M3 else .err
    else if still M1 then lcW tg cond elt still xs M1 else .err

def putP (k : Key) (v : W) (p : List Key × List W) : List Key × List W :=
  if (p.1.any fun a => decide (a = k)) = true then (p.1, p.1.zipWith (fun a w => if a = k then v else w) p.2) else (p.1 ++ [k], p.2 ++ [v])
open Classical in
/-- a dict comprehension's turns -/
noncomputable def dcW (tg : W → Option LM) (cond : LM → Store → Res Bool) (key val : LM → Store → Res W) (still : Store → Prop) : List W → List Key × List W → Store → Res (List Key × List W)
  | [], p, M => .ok p M
  | x :: xs, p, M => need (tg x) fun l => (cond l M).bind fun b M1 =>
    if b then (key l M1).bind fun kw M2 => need (keyOf kw) fun k => (val l M2).bind fun y M3 => if still M3 ∧ p.1.length < sizeLine then dcW tg cond key val still xs (putP k y p) M3 else .err
    else if still M1 then dcW tg cond key val still xs p M1 else .err

inductive SR where
  | nx (l : LM) (M : Store)
  | rt (w : W) (M : Store)
  | bk (l : LM) (M : Store)
  | ct (l : LM) (M : Store)
  | exc (c : Str) (ns : List Str) (ws : List W) (l : LM) (M : Store)
  | err
def needS {α : Type} (o : Option α) (f : α → SR) : SR :=
  match o with
  | some a => f a
  | none => .err
/-- a value, then a statement's rest; l: the names at a raise -/
def Res.thenS {α : Type} (r : Res α) (l : LM) (f : α → Store → SR) : SR :=
  match r with
  | .ok a M => f a M
  | .exc c ns ws M => .exc c ns ws l M
  | .err => .err
open Classical in
/-- a loop's turns -/
noncomputable def forW (tg : W → LM → Option LM) (body : LM → Store → SR) (still : Store → Prop) : List W → LM → Store → SR
  | [], l, M => .nx l M
  | x :: xs, l, M => needS (tg x l) fun l1 => match body l1 M with
    | .nx l2 M2 => if still M2 then forW tg body still xs l2 M2 else .err
    | .ct l2 M2 => if still M2 then forW tg body still xs l2 M2 else .err
    | .bk l2 M2 => .nx l2 M2
    | r => r
/-- at most n turns -/
def whlN (cond : LM → Store → Res Bool) (body : LM → Store → SR) : Nat → LM → Store → SR
  | 0, _, _ => .err
  | n + 1, l, M => (cond l M).thenS l fun b M1 => if b then (match body l M1 with
      | .nx l2 M2 => whlN cond body n l2 M2
      | .ct l2 M2 => whlN cond body n l2 M2
      | .bk l2 M2 => .nx l2 M2
      | r => r) else .nx l M1
open Classical in
noncomputable def whlW (cond : LM → Store → Res Bool) (body : LM → Store → SR) (l : LM) (M : Store) : SR :=
  if h : ∃ n, whlN cond body n l M ≠ .err then whlN cond body (Classical.choose h) l M else .err

/-- what an expression means: as a value, as a test -/
structure Sm where
  v : LM → Store → Res W
  t : LM → Store → Res Bool
def dflT (v : LM → Store → Res W) (l : LM) (M : Store) : Res Bool := (v l M).bind fun w M1 => need (truW M1 w) fun k => .ok k M1
def Sm.of (v : LM → Store → Res W) : Sm := ⟨v, dflT v⟩
def evEs : List Sm → LM → Store → Res (List W)
  | [], _, M => .ok [] M
  | a :: as, l, M => (a.v l M).bind fun w M1 => (evEs as l M1).bind fun ws M2 => .ok (w :: ws) M2
def evAnd : List Sm → LM → Store → Res W
  | [], _, _ => .err
  | [a], l, M => a.v l M
  | a :: b :: as, l, M => (a.v l M).bind fun w M1 => need (truW M1 w) fun k => if k then evAnd (b :: as) l M1 else .ok w M1
def evOr : List Sm → LM → Store → Res W
  | [], _, _ => .err
  | [a], l, M => a.v l M
  | a :: b :: as, l, M => (a.v l M).bind fun w M1 => need (truW M1 w) fun k => if k then .ok w M1 else evOr (b :: as) l M1
def evAndT : List Sm → LM → Store → Res Bool
  | [], _, M => .ok true M
  | a :: as, l, M => (a.t l M).bind fun k M1 => if k then evAndT as l M1 else .ok false M1
def evOrT : List Sm → LM → Store → Res Bool
  | [], _, M => .ok false M
  | a :: as, l, M => (a.t l M).bind fun k M1 => if k then .ok true M1 else evOrT as l M1
def evChain (op1 op2 : CmpOp) (a b c : Sm) (l : LM) (M : Store) : Res W :=
  (a.v l M).bind fun x M1 => (b.v l M1).bind fun y M2 => (cmpW op1 x y M2).bind fun r M3 => need (truW M3 r) fun k =>
    if k then (c.v l M3).bind fun z M4 => cmpW op2 y z M4 else .ok r M3
/-- as many arguments as parameters -/
def evSlc (fz : Bool) (a b c : Sm) (l : LM) (M : Store) : Res W :=
  (a.v l M).bind fun x M1 => (b.v l M1).bind fun y M2 => need (intOf y) fun i => (c.v l M2).bind fun z M3 => need (intOf z) fun j => slcW fz x (some i) (some j) M3
def fullW (f : FnI) (n : Nat) (r : Res W) : Res W := if n = f.ps.length then r else .err

/-- a method of the text, of an instance of just the class c -/
def ownW (Γ : Glo) (c m : Str) (fz : Bool) (vs : List W) (M : Store) : Res W :=
  match vs with
  | w :: _ => need (vO M w) fun q => if q.1 = c ∧ m ∉ q.2.1 then need (Γ.mt c m) fun f => fullW f vs.length (callW f.sem fz vs M) else .err
  | _ => .err
/-- == by an own __eq__ on one side, or of data -/
def eqUW (Γ : Glo) (x y : W) (M : Store) : Res W :=
  match vO M x with
  | some (c, _, _) => ownW Γ c "__eq__" true [x, y] M
  | none => match vO M y with
    | some (c, _, _) => ownW Γ c "__eq__" true [y, x] M
    | none => need (eqW M x y) fun k => .ok (.bl k) M

section
variable (Γ : Glo) (cur : Option Cur)
noncomputable def evLc (fz : Bool) (own : List (Str × Nat)) (k : Itk) (src : List Sm) (t : Tg) (cond : List Sm) (elt : Sm) (l : LM) (M : Store) : Res W :=
  (evEs src l M).bind fun vs M1 => need (itemsW k vs M1) fun items =>
    ((lcW (fun x => tgW t x (wipeW l (own.map (·.2)))) (evAndT cond) elt.v (Still k vs items) items M1).calm).bind fun ys M2 => if ys.length ≤ sizeLine then newL fz ys M2 else .err
noncomputable def evDc (fz : Bool) (own : List (Str × Nat)) (k : Itk) (src : List Sm) (t : Tg) (cond : List Sm) (key val : Sm) (l : LM) (M : Store) : Res W :=
  (evEs src l M).bind fun vs M1 => need (itemsW k vs M1) fun items =>
    ((dcW (fun x => tgW t x (wipeW l (own.map (·.2)))) (evAndT cond) key.v val.v (Still k vs items) items ([], []) M1).calm).bind fun r M2 => newD fz r.1 r.2 M2
mutual
noncomputable def ev : E → Sm
  | .var i => .of fun l M => match l[i]? with
    | some (some w) => .ok w M
    | _ => .err
  | .con w => .of fun _ M => .ok w M
  | .glo x => .of fun _ M => need (Γ.con x) fun w => .ok w M
  | .prm p as => .of fun l M => (evEs (evL as) l M).bind fun vs M1 => prm p vs M1
  | .mth m fz o as => .of fun l M => ((ev o).v l M).bind fun w M1 => if kindW m w M1 then (evEs (evL as) l M1).bind fun vs M2 => mthW m fz (w :: vs) M2 else .err
  | .not a => ⟨fun l M => ((ev a).v l M).bind fun w M1 => need (truW M1 w) fun b => .ok (.bl (!b)) M1, fun l M => ((ev a).t l M).bind fun k M1 => .ok (!k) M1⟩
  | .and as => ⟨evAnd (evL as), evAndT (evL as)⟩
  | .or as => ⟨evOr (evL as), evOrT (evL as)⟩
  | .ife c a b => ⟨fun l M => ((ev c).t l M).bind fun k M1 => if k then (ev a).v l M1 else (ev b).v l M1, fun l M => ((ev c).t l M).bind fun k M1 => if k then (ev a).t l M1 else (ev b).t l M1⟩
  | .isi _ cs a => .of fun l M => ((ev a).v l M).bind fun w M1 => need (tyW M1 w) fun t => if isiAll Γ.pl t cs then .ok (.bl (cs.any (isiOne t))) M1 else .err
  | .slc3 fz a b c => .of (evSlc fz (ev a) (ev b) (ev c))
  | .chain op1 op2 a b c => .of (evChain op1 op2 (ev a) (ev b) (ev c))
  | .call f fz as ks => .of fun l M => (evEs (evL as) l M).bind fun vs M1 => need (Γ.fn f) fun f => fullW f vs.length (callW f.sem fz (bindW f.ps ks vs) M1)
  | .make c fz as ks => .of fun l M => (evEs (evL as) l M).bind fun vs M1 => need (Γ.mt c "__init__") fun f => fullW f (vs.length + 1) (makeW f.sem c fz (bindW (f.ps.drop 1) ks vs) M1)
  | .meth c m fz o as ks => .of fun l M => ((ev o).v l M).bind fun w M1 => need (vO M1 w) fun q => if q.1 = c ∧ m ∉ q.2.1 then (evEs (evL as) l M1).bind fun vs M2 =>
      need (Γ.mt c m) fun f => fullW f (vs.length + 1) (callW f.sem fz (bindW f.ps ks (w :: vs)) M2) else .err
  | .lc fz own k src t cond elt => .of (evLc fz own k (evL src) t (evL cond) (ev elt))
  | .dc fz own k src t cond key val => .of (evDc fz own k (evL src) t (evL cond) (ev key) (ev val))
  | .bad => .of fun _ _ => .err
  | .att a f => .of fun l M => ((ev a).v l M).bind fun w M1 => match w with
    | .cls c => need (Γ.att c f) fun r => .ok r M1
    | w => need (vO M1 w) fun q => match (q.2.1.zip q.2.2).lookup f with
      | some r => if Γ.fld q.1 f then .ok r M1 else .err
      | none => need (Γ.att q.1 f) fun r => .ok r M1
  | .prop c f a => .of fun l M => ((ev a).v l M).bind fun w M1 => ownW Γ c f true [w] M1
  | .lenU c a => .of fun l M => ((ev a).v l M).bind fun w M1 => (ownW Γ c "__len__" true [w] M1).bind fun r M2 => match r with
    | .int n => if 0 ≤ n ∧ n < 2 ^ 62 then .ok (.int n) M2 else .err
    | _ => .err
  | .reprU c a => .of fun l M => ((ev a).v l M).bind fun w M1 => (ownW Γ c "__repr__" true [w] M1).bind fun r M2 => match r with
    | .str n => .ok (.str n) M2
    | _ => .err
  | .eqU neg a b => .of fun l M => ((ev a).v l M).bind fun x M1 => ((ev b).v l M1).bind fun y M2 => (eqUW Γ x y M2).bind fun r M3 => match r with
    | .bl k => .ok (.bl (if neg then !k else k)) M3
    | _ => .err
  | .exAtt f => .of fun _ M => need cur fun e => need ((e.ns.zip e.ws).lookup f) fun w => .ok w M
  | .exIs cs => .of fun _ M => need cur fun e => .ok (.bl (cs.any (Γ.kin e.c))) M
noncomputable def evL : List E → List Sm
  | [] => []
  | a :: as => ev a :: evL as
end
end

section
variable (Γ : Glo)
/-- a dict's values behind a store -/
def putW (k : Key) (v : W) (ks : List Key) (ws : List W) : Con :=
  if (ks.any fun a => decide (a = k)) = true then .dct ks (ks.zipWith (fun a w => if a = k then v else w) ws) else .dct (ks ++ [k]) (ws ++ [v])
def setSubW (o i v : W) (M : Store) : Option Store :=
  match o with
  | .ref n => match M[n]? with
    | some ⟨true, .lst ws⟩ => (intOf i).bind fun k => (ixN ws.length k).map fun j => M.set n ⟨true, .lst (ws.set j v)⟩
    | some ⟨true, .dct ks ws⟩ => (keyOf i).bind fun k => if ks.length < sizeLine ∧ ks.length = ws.length then some (M.set n ⟨true, putW k v ks ws⟩) else none
    | _ => none
  | _ => none
def putN (f : Str) : List Str → List Str
  | [] => [f]
  | g :: r => if g = f then g :: r else g :: putN f r
def putV (f : Str) (v : W) : List Str → List W → List W
  | [], _ => [v]
  | g :: r, w :: ws => if g = f then v :: ws else w :: putV f v r ws
  | _ :: _, [] => []
def setAttW (fld : Str → Str → Bool) (o : W) (f : Str) (v : W) (M : Store) : Option Store :=
  match o with
  | .ref n => match M[n]? with
    | some ⟨true, .obj c ns ws⟩ => if fld c f = true ∧ ns.length < 1000 then some (M.set n ⟨true, .obj c (putN f ns) (putV f v ns ws)⟩) else none
    | _ => none
  | _ => none
def augW (op : Operator) (a b : W) (M : Store) : Res W :=
  match op, a, b with
  | .Add, .int i, .int j => .ok (.int (i + j)) M
  | .Sub, .int i, .int j => .ok (.int (i - j)) M
  | _, _, _ => .err
/-- the exception's own handler: a clause that names one of its classes -/
def hitsW (c : Str) (cs : List (Str × Bool)) : Bool := cs.any (Γ.kin c)
mutual
noncomputable def evS : S → Option Cur → LM → Store → SR
  | .expr e, cur, l, M => ((ev Γ cur e).v l M).thenS l fun _ M1 => .nx l M1
  | .asg t e, cur, l, M => ((ev Γ cur e).v l M).thenS l fun w M1 => needS (tgW t w l) fun l1 => .nx l1 M1
  | .par is es, cur, l, M => (evEs (evL Γ cur es) l M).thenS l fun ws M1 => needS (tgWs (is.map .nm) ws l) fun l1 => .nx l1 M1
  | .setSub o i e, cur, l, M => ((ev Γ cur e).v l M).thenS l fun w M1 => ((ev Γ cur o).v l M1).thenS l fun x M2 => ((ev Γ cur i).v l M2).thenS l fun y M3 =>
      needS (setSubW x y w M3) fun M4 => .nx l M4
  | .setAtt o f e, cur, l, M => ((ev Γ cur e).v l M).thenS l fun w M1 => ((ev Γ cur o).v l M1).thenS l fun x M2 => needS (setAttW Γ.fld x f w M2) fun M3 => .nx l M3
  | .subNm o i j e, cur, l, M => ((ev Γ cur e).v l M).thenS l fun w M1 => match w with
    | .tup [u, v] => ((ev Γ cur o).v l M1).thenS l fun x M2 => ((ev Γ cur i).v l M2).thenS l fun y M3 => needS (setSubW x y u M3) fun M4 => .nx (l.set j (some v)) M4
    | _ => .err
  | .aug i op e, cur, l, M => match l[i]? with
    | some (some w) => ((ev Γ cur e).v l M).thenS l fun v M1 => (augW op w v M1).thenS l fun r M2 => .nx (l.set i (some r)) M2
    | _ => .err
  | .ife c a b, cur, l, M => ((ev Γ cur c).t l M).thenS l fun k M1 => if k then evSs a cur l M1 else evSs b cur l M1
  | .for k src t body, cur, l, M => (evEs (evL Γ cur src) l M).thenS l fun vs M1 => needS (itemsW k vs M1) fun items =>
      forW (tgW t) (evSs body cur) (Still k vs items) items l M1
  | .whl c body, cur, l, M => whlW (ev Γ cur c).t (evSs body cur) l M
  | .ret e, cur, l, M => ((ev Γ cur e).v l M).thenS l fun w M1 => .rt w M1
  | .retN, _, _, M => .rt .non M
  | .raise c as, cur, l, M => (evEs (evL Γ cur as) l M).thenS l fun ws M1 => needS (Γ.exc c) fun ns => if ns.length = ws.length then .exc c ns ws l M1 else .err
  | .raiseIn c as, cur, l, M => (evEs (evL Γ cur as) l M).thenS l fun ws M1 => needS (Γ.exc c) fun ns => if ns.length = ws.length then .exc c ns ws l M1 else .err
  | .tri body h, cur, l, M => match evSs body cur l M with
    | .exc c ns ws l1 M1 => evH h c ns ws l1 M1
    | r => r
  | .bad, _, _, _ => .err
  | .pass, _, l, M => .nx l M
  | .brk, _, l, M => .bk l M
  | .cont, _, l, M => .ct l M
noncomputable def evSs : List S → Option Cur → LM → Store → SR
  | [], _, l, M => .nx l M
  | s :: ss, cur, l, M => match evS s cur l M with
    | .nx l1 M1 => evSs ss cur l1 M1
    | r => r
noncomputable def evH : Hd → Str → List Str → List W → LM → Store → SR
  | .nil, c, ns, ws, l, M => .exc c ns ws l M
  | .cons cs n suite rest, c, ns, ws, l, M => if hitsW Γ c cs then (match n with
      | none => evSs suite (some ⟨c, ns, ws⟩) l M
      | some i => match evSs suite (some ⟨c, ns, ws⟩) (l.set i none) M with
        | .nx l1 M1 => .nx (l1.set i none) M1
        | .bk l1 M1 => .bk (l1.set i none) M1
        | .ct l1 M1 => .ct (l1.set i none) M1
        | .exc c1 ns1 ws1 l1 M1 => .exc c1 ns1 ws1 (l1.set i none) M1
        | r => r)
    else evH rest c ns ws l M
end
/-- a def: its parameters, its names by slot, its body -/
structure Df where
  ps : List Str
  N : List Str
  body : List S
/-- a def's run -/
noncomputable def runW (D : Df) (vs : List W) (M : Store) : Res W :=
  if vs.length = D.ps.length then
  match evSs Γ D.body none (vs.map some ++ List.replicate (D.N.length - vs.length) none) M with
  | .nx _ M1 => .ok .non M1
  | .rt w M1 => .ok w M1
  | .exc c ns ws _ M1 => .exc c ns ws M1
  | _ => .err
  else .err
end
end PyI

namespace PyI
open PySem PySem.Spec PyProof.Rows L2

/-! ### the state, and what is wanted behind a piece of text -/
/-- the exception at hand: its slot, its object, class, own dict -/
structure Cu where
  slot : Option Nat
  a : Addr
  cls : Value
  d : Option Addr
  cur : Cur
/-- an exception's class and fields -/
def XR (G : GE) (g : Gh) (M : Store) (H : Hp) (c : Str) (ns : List Str) (ws : List W) (cls : Value) (d : Option Addr) : Prop :=
  ∃ C dx fs, G.cA c = some C ∧ cls = .ref C ∧ d = some dx ∧ H dx = some (.xd fs) ∧ Fro g M dx ∧ ns.length = ws.length ∧ ∀ f w, (ns.zip ws).lookup f = some w → ∃ v, fs.lookup f = some v ∧ RW G g M H w v
def CuOk (G : GE) (cu : Option Cu) (g : Gh) (M : Store) (H : Hp) (σ : L2.St) : Prop := ∀ c, cu = some c → XR G g M H c.cur.c c.cur.ns c.cur.ws c.cls c.d ∧ ∀ i, c.slot = some i → σ[i]? = some (some (.ref c.a))
structure At (G : GE) (cu : Option Cu) (g : Gh) (M : Store) (H : Hp) (l : LM) (σ : L2.St) : Prop where
  abs : Abs G g M H
  lr : LR G g M H l σ
  cu : CuOk G cu g M H σ

abbrev Rel (α β : Type) := Gh → Store → Hp → α → β → Prop
def relB : Rel Bool Bool := fun _ _ _ a b => a = b
/-- what a result promises -/
def Post {α β : Type} (G : GE) (Wi : WX) (rel : Rel α β) (g : Gh) (M : Store) (H : Hp) (σ : L2.St) (r : Res α) (Q : β → Hp → Prop) : Prop :=
  match r with
  | .ok w M' => ∀ g' v H', Abs G g' M' H' → Evo g M H g' M' H' → rel g' M' H' w v → Q v H'
  | .exc c ns ws M' => ∀ g' cls d H', Abs G g' M' H' → Evo g M H g' M' H' → XR G g' M' H' c ns ws cls d → Wi cls d σ H'
  | .err => False
/-- a reading by a function -/
def TOf {α β : Type} (G : GE) (cu : Option Cu) (Wi : WX) (rel : Rel α β) (f : LM → Store → Res α) : L2.St → Hp → (β → Hp → Prop) → Prop :=
  fun σ H Q => ∃ g M l, At G cu g M H l σ ∧ Post G Wi rel g M H σ (f l M) Q
abbrev TEof (G : GE) (cu : Option Cu) (Wi : WX) (f : LM → Store → Res W) : TE := TOf G cu Wi (RW G) f
abbrev TTof (G : GE) (cu : Option Cu) (Wi : WX) (f : LM → Store → Res Bool) : TT := TOf G cu Wi relB f
abbrev TAof (G : GE) (cu : Option Cu) (Wi : WX) (f : LM → Store → Res (List W)) : TA := TOf G cu Wi (RWs G) f

section
variable {G : GE} {cu : Option Cu} {Wi : WX} {g g' g1 : Gh} {M M' M1 : Store} {H H' H1 : Hp} {σ : L2.St} {l : LM} {α β γ δ : Type}

theorem XR.evo {c : Str} {ns : List Str} {ws : List W} {cls : Value} {d : Option Addr} (hl : g.R.length = M.length) (e : Evo g M H g' M' H') (h : XR G g M H c ns ws cls d) : XR G g' M' H' c ns ws cls d := by
  obtain ⟨C, dx, fs, h1, h2, h3, h4, h5, h6, h7⟩ := h
  exact ⟨C, dx, fs, h1, h2, h3, e.keep _ _ h4 h5.2, e.fro hl (by rw [h4]; simp) h5, h6, fun f w q => let ⟨v, a, b⟩ := h7 f w q; ⟨v, a, b.evo hl e⟩⟩
theorem CuOk.evo (hl : g.R.length = M.length) (e : Evo g M H g' M' H') (h : CuOk G cu g M H σ) : CuOk G cu g' M' H' σ := fun c q => ⟨(h c q).1.evo hl e, (h c q).2⟩
theorem At.evo (h : At G cu g M H l σ) (a : Abs G g' M' H') (e : Evo g M H g' M' H') : At G cu g' M' H' l σ := ⟨a, h.lr.evo h.abs.len e, h.cu.evo h.abs.len e⟩

theorem Post.evo {rel : Rel α β} {r : Res α} {Q : β → Hp → Prop} (hl : g.R.length = M.length) (e : Evo g M H g1 M1 H1) (h : Post G Wi rel g M H σ r Q) : Post G Wi rel g1 M1 H1 σ r Q := by
  cases r with
  | ok w M' => exact fun g' v H' a e' q => h g' v H' a (e.trans hl e') q
  | exc c ns ws M' => exact fun g' cls d H' a e' q => h g' cls d H' a (e.trans hl e') q
  | err => exact h
theorem Post.imp {rel : Rel α β} {r : Res α} {Q Q' : β → Hp → Prop} (h : Post G Wi rel g M H σ r Q) (k : ∀ b H', Q b H' → Q' b H') : Post G Wi rel g M H σ r Q' := by
  cases r with
  | ok w M' => exact fun g' v H' a e q => k _ _ (h g' v H' a e q)
  | exc c ns ws M' => exact h
  | err => exact h
/-- first r, then f -/
theorem Post.bind {rel1 : Rel α β} {rel2 : Rel γ δ} {r : Res α} {f : α → Store → Res γ} {Q : δ → Hp → Prop} (hl : g.R.length = M.length) (h : Post G Wi rel2 g M H σ (r.bind f) Q) :
    Post G Wi rel1 g M H σ r (fun b H1 => ∃ g1 M1 a, Abs G g1 M1 H1 ∧ Evo g M H g1 M1 H1 ∧ rel1 g1 M1 H1 a b ∧ Post G Wi rel2 g1 M1 H1 σ (f a M1) Q) := by
  cases r with
  | ok w M' => exact fun g' v H' a e q => ⟨g', M', w, a, e, q, Post.evo hl e h⟩
  | exc c ns ws M' => exact h
  | err => exact h
theorem Post.need {o : Option α} {f : α → Res γ} {rel2 : Rel γ δ} {Q : δ → Hp → Prop} (h : Post G Wi rel2 g M H σ (need o f) Q) : ∃ a, o = some a ∧ Post G Wi rel2 g M H σ (f a) Q := by
  cases o with
  | none => exact h.elim
  | some a => exact ⟨a, rfl, h⟩
/-- the text's first part by its own reading -/
theorem TOf.bind {rel1 : Rel α β} {rel2 : Rel γ δ} {fa : LM → Store → Res α} {f : LM → α → Store → Res γ} {Q : δ → Hp → Prop} (h : TOf G cu Wi rel2 (fun l M => (fa l M).bind (f l)) σ H Q) :
    TOf G cu Wi rel1 fa σ H (fun b H1 => ∃ g1 M1 l a, At G cu g1 M1 H1 l σ ∧ rel1 g1 M1 H1 a b ∧ Post G Wi rel2 g1 M1 H1 σ (f l a M1) Q) := by
  obtain ⟨g, M, l, a, p⟩ := h
  refine ⟨g, M, l, a, (p.bind a.abs.len).imp fun b H1 ⟨g1, M1, x, a1, e1, r1, p1⟩ => ⟨g1, M1, l, x, a.evo a1 e1, r1, p1⟩⟩
theorem TOf.imp {rel : Rel α β} {f : LM → Store → Res α} {Q Q' : β → Hp → Prop} (h : TOf G cu Wi rel f σ H Q) (k : ∀ b H', Q b H' → Q' b H') : TOf G cu Wi rel f σ H Q' := by
  obtain ⟨g, M, l, a, p⟩ := h
  exact ⟨g, M, l, a, p.imp k⟩
/-- an answer at hand -/
theorem Post.now {rel : Rel α β} {w : α} {v : β} {Q : β → Hp → Prop} (h : Post G Wi rel g M H σ (.ok w M) Q) (a : Abs G g M H) (r : rel g M H w v) : Q v H := h g v H a Evo.refl r

theorem _root_.L2.PE.imp {X : Cx} {e : Expr} {t t' : TE} (h : PE X e t) (k : ∀ σ H Q, t' σ H Q → t σ H Q) : PE X e t' := ⟨fun pins s σ H Q I q => h.run pins s σ H Q I (k _ _ _ q)⟩
theorem _root_.L2.PT.imp {X : Cx} {e : Expr} {t t' : TT} (h : PT X e t) (k : ∀ σ H Q, t' σ H Q → t σ H Q) : PT X e t' := ⟨fun pins s σ H Q I q => h.run pins s σ H Q I (k _ _ _ q)⟩
theorem _root_.L2.PA.imp {X : Cx} {e : List Expr} {t t' : TA} (h : PA X e t) (k : ∀ σ H Q, t' σ H Q → t σ H Q) : PA X e t' := ⟨fun pos pins s σ H Q I q => h.run pos pins s σ H Q I (k _ _ _ q)⟩
theorem _root_.L2.PS.imp {X : Cx} {e : Stmt} {t t' : TS} (h : PS X e t) (k : ∀ D σ H, t' D σ H → t D σ H) : PS X e t' := ⟨fun pins s σ H D I q => h.run pins s σ H D I (k _ _ _ q)⟩
theorem _root_.L2.PSs.imp {X : Cx} {e : List Stmt} {t t' : TS} (h : PSs X e t) (k : ∀ D σ H, t' D σ H → t D σ H) : PSs X e t' := ⟨fun pins s σ H D I q => h.run pins s σ H D I (k _ _ _ q)⟩

/-! ### new objects -/
theorem Abs.fresh {p : Addr} {o : HO} (a : Abs G g M H) (hp : H p = none) : Abs G g M (upd H p o) ∧ Evo g M H g M (upd H p o) := by
  have e : Evo g M H g M (upd H p o) := ⟨⟨[], by simp, by simp⟩, rfl, Nat.le_refl _, fun _ _ h _ => h, fun b u h _ => by rw [upd_ne (ne_of_none h hp)]; exact h, fun b h => by
    by_cases hb : b = p
    · subst hb; rw [upd_same]; simp
    · rw [upd_ne hb]; exact h⟩
  refine ⟨⟨a.len, a.nd, a.nz, fun b hb => e.dom b (a.zd b hb), fun i c b h1 h2 => (a.cell i c b h1 h2).evo a.len e fun o h => ?_⟩, e⟩
  rw [upd_ne (ne_of_none h hp)]; exact h
theorem Abs.cellNe {p : Addr} (a : Abs G g M H) (hp : H p = none) : p ∉ g.R := fun hm => by
  obtain ⟨i, hi, e⟩ := List.mem_iff_getElem.mp hm
  have h1 : g.R[i]? = some p := by rw [List.getElem?_eq_getElem hi, e]
  obtain ⟨c, hc⟩ : ∃ c, M[i]? = some c := ⟨_, List.getElem?_eq_getElem (by rw [← a.len]; exact hi)⟩
  have := a.cell i c p hc h1
  cases h : c.con with
  | lst ws => rw [h] at this; obtain ⟨vs, q, _⟩ := this; rw [hp] at q; cases q
  | dct ks ws => rw [h] at this; obtain ⟨vs, q, _⟩ := this; rw [hp] at q; cases q
  | obj c ns ws => rw [h] at this; obtain ⟨_, _, _, _, q, _⟩ := this; rw [hp] at q; cases q
theorem Abs.fro {p : Addr} (a : Abs G g M H) (hp : H p = none) : Fro g M p := by
  refine ⟨fun h => a.zd p h hp, fun i c h1 _ => ?_⟩
  exact absurd (List.mem_of_getElem? h1) (a.cellNe hp)
/-- a new frozen list -/
theorem Abs.newLst {p : Addr} {ws : List W} {vs : List V} (a : Abs G g M H) (hp : H p = none) (r : RWs G g M H ws vs) :
    Abs G g M (upd H p (.lst vs)) ∧ Evo g M H g M (upd H p (.lst vs)) ∧ RW G g M (upd H p (.lst vs)) (.lst ws) (.ref p) := by
  obtain ⟨a1, e1⟩ := a.fresh (o := .lst vs) hp
  exact ⟨a1, e1, p, vs, rfl, ⟨.inl upd_same, a.fro hp⟩, r.evo a.len e1⟩
theorem Abs.newTup {p : Addr} {ws : List W} {vs : List V} (a : Abs G g M H) (hp : H p = none) (r : RWs G g M H ws vs) :
    Abs G g M (upd H p (.tup vs)) ∧ Evo g M H g M (upd H p (.tup vs)) ∧ RW G g M (upd H p (.tup vs)) (.tup ws) (.ref p) := by
  obtain ⟨a1, e1⟩ := a.fresh (o := .tup vs) hp
  exact ⟨a1, e1, p, vs, rfl, .inl ⟨.inl upd_same, a.fro hp⟩, r.evo a.len e1⟩
theorem Abs.newDct {p : Addr} {ws : List W} {kvs : List (Key × V)} (a : Abs G g M H) (hp : H p = none) (r : RWs G g M H ws (kvs.map (·.2))) :
    Abs G g M (upd H p (.dK kvs)) ∧ Evo g M H g M (upd H p (.dK kvs)) ∧ RW G g M (upd H p (.dK kvs)) (.dct (kvs.map (·.1)) ws) (.ref p) := by
  obtain ⟨a1, e1⟩ := a.fresh (o := .dK kvs) hp
  exact ⟨a1, e1, p, kvs, rfl, upd_same, a.fro hp, rfl, r.evo a.len e1⟩
/-- a new cell -/
theorem Abs.push {p : Addr} {o : HO} {c : Con} (a : Abs G g M H) (hp : H p = none) (hc : ∀ g' M', Evo g M H g' M' (upd H p o) → CellAt G g' M' (upd H p o) p c) :
    Abs G ⟨g.R ++ [p], g.Z⟩ (M ++ [⟨true, c⟩]) (upd H p o) ∧ Evo g M H ⟨g.R ++ [p], g.Z⟩ (M ++ [⟨true, c⟩]) (upd H p o) := by
  have e : Evo g M H ⟨g.R ++ [p], g.Z⟩ (M ++ [⟨true, c⟩]) (upd H p o) := by
    refine ⟨⟨[p], rfl, by simpa using hp⟩, rfl, by simp, fun i c h _ => by rw [List.getElem?_append_left (List.getElem?_eq_some_iff.mp h).1]; exact h, fun b u h _ => by rw [upd_ne (ne_of_none h hp)]; exact h, fun b h => ?_⟩
    by_cases hb : b = p
    · subst hb; rw [upd_same]; simp
    · rw [upd_ne hb]; exact h
  refine ⟨⟨by simp [a.len], ?_, fun b hb => ?_, fun b hb => e.dom b (a.zd b hb), fun i c' b h1 h2 => ?_⟩, e⟩
  · refine List.nodup_append.mpr ⟨a.nd, by simp, fun x hx y hy => ?_⟩
    simp at hy; subst hy
    exact fun q => a.cellNe hp (q ▸ hx)
  · intro hm
    rcases List.mem_append.mp hm with h | h
    · exact a.nz b hb h
    · simp at h; subst h; exact a.zd _ hb hp
  · by_cases hi : i < M.length
    · rw [List.getElem?_append_left hi] at h1
      rw [List.getElem?_append_left (by rw [a.len]; exact hi)] at h2
      refine (a.cell i c' b h1 h2).evo a.len e fun o h => ?_
      rw [upd_ne (ne_of_none h hp)]; exact h
    · rw [List.getElem?_append_right (by omega)] at h1
      rw [List.getElem?_append_right (by rw [a.len]; omega), a.len] at h2
      by_cases h0 : i - M.length = 0
      · rw [h0] at h1 h2
        simp at h1 h2
        subst h1 h2
        exact hc _ _ e
      · rw [List.getElem?_eq_none (by simp; omega)] at h1; cases h1
theorem Post.newL {fz : Bool} {ws : List W} {vs : List V} {Q : V → Hp → Prop} {p : Addr} (a : Abs G g M H) (r : RWs G g M H ws vs) (h : Post G Wi (RW G) g M H σ (newL fz ws M) Q) (hp : H p = none) : Q (.ref p) (upd H p (.lst vs)) := by
  cases fz with
  | true =>
    obtain ⟨a1, e1, r1⟩ := a.newLst hp r
    exact h _ _ _ a1 e1 r1
  | false =>
    obtain ⟨a1, e1⟩ := a.push (o := .lst vs) (c := .lst ws) hp fun g' M' e => ⟨vs, upd_same, r.evo a.len e⟩
    exact h _ _ _ a1 e1 ⟨p, by rw [← a.len]; simp, rfl⟩
theorem Post.newD {fz : Bool} {ks : List Key} {ws : List W} {kvs : List (Key × V)} {Q : V → Hp → Prop} {p : Addr} (a : Abs G g M H) (hk : kvs.map (·.1) = ks) (r : RWs G g M H ws (kvs.map (·.2))) (h : Post G Wi (RW G) g M H σ (newD fz ks ws M) Q) (hp : H p = none) : Q (.ref p) (upd H p (.dK kvs)) := by
  subst hk
  cases fz with
  | true =>
    obtain ⟨a1, e1, r1⟩ := a.newDct hp r
    exact h _ _ _ a1 e1 r1
  | false =>
    obtain ⟨a1, e1⟩ := a.push (o := .dK kvs) (c := .dct (kvs.map (·.1)) ws) hp fun g' M' e => ⟨kvs, upd_same, rfl, r.evo a.len e⟩
    exact h _ _ _ a1 e1 ⟨p, by rw [← a.len]; simp, rfl⟩
end
end PyI

namespace PyI
open PySem PySem.Spec PyProof.Rows L2
section
variable {G : GE} {cu : Option Cu} {Wi : WX} {g g' g1 : Gh} {M M' M1 : Store} {H H' H1 : Hp} {σ : L2.St} {l : LM}

theorem vL_ok {w : W} {ws : List W} {v : V} (a : Abs G g M H) (h : vL M w = some ws) (r : RW G g M H w v) : ∃ p vs, v = .ref p ∧ Rd H p (.lst vs) ∧ RWs G g M H ws vs := by
  cases w with
  | lst us =>
    obtain ⟨p, vs, rfl, h2, h3⟩ := r
    cases h
    exact ⟨p, vs, rfl, h2.1, h3⟩
  | ref n =>
    obtain ⟨p, h1, rfl⟩ := r
    cases hc : M[n]? with
    | none => simp [vL, hc] at h
    | some c =>
      obtain ⟨lv, cn⟩ := c
      have := a.cell n _ p hc h1
      cases cn with
      | lst us =>
        simp [vL, hc, conL] at h
        subst h
        obtain ⟨vs, h2, h3⟩ := this
        exact ⟨p, vs, rfl, .of h2, h3⟩
      | _ => simp [vL, hc, conL] at h
  | _ => simp [vL] at h
/-- a live or frozen list that stands by itself (not the script, not the written part's): wanted where a rule asks for H -/
theorem ints_rws : ∀ ns : List Int, RWs G g M H (ns.map .int) (ns.map V.int)
  | [] => rfl
  | i :: ns => .cons rfl (ints_rws ns)
theorem vS_ok {w : W} {ws : List W} {v : V} (a : Abs G g M H) (h : vS M w = some ws) (r : RW G g M H w v) : ∃ p vs, v = .ref p ∧ (SqL G.K H p vs ∨ SqT G.K H p vs) ∧ RWs G g M H ws vs := by
  cases w with
  | tup us =>
    obtain ⟨p, vs, rfl, h2, h3⟩ := r
    cases h
    exact ⟨p, vs, rfl, .inr h2.sq, h3⟩
  | lst us =>
    obtain ⟨p, vs, e, h2, h3⟩ := vL_ok a (show vL M (.lst us) = some ws from h) r
    exact ⟨p, vs, e, .inl (.inl h2), h3⟩
  | scr ns =>
    obtain ⟨p, rfl, h2⟩ := r
    cases h
    exact ⟨p, _, rfl, .inl h2.sq, ints_rws ns⟩
  | ref n =>
    obtain ⟨p, vs, e, h2, h3⟩ := vL_ok a (show vL M (.ref n) = some ws from h) r
    exact ⟨p, vs, e, .inl (.inl h2), h3⟩
  | _ => simp [vS] at h
theorem vD_ok {w : W} {ks : List Key} {ws : List W} {v : V} (a : Abs G g M H) (h : vD M w = some (ks, ws)) (r : RW G g M H w v) : ∃ p kvs, v = .ref p ∧ H p = some (.dK kvs) ∧ kvs.map (·.1) = ks ∧ RWs G g M H ws (kvs.map (·.2)) := by
  cases w with
  | dct us xs =>
    obtain ⟨p, kvs, rfl, h2, h3, h4, h5⟩ := r
    cases h
    exact ⟨p, kvs, rfl, h2, h4, h5⟩
  | ref n =>
    obtain ⟨p, h1, rfl⟩ := r
    cases hc : M[n]? with
    | none => simp [vD, hc] at h
    | some c =>
      obtain ⟨lv, cn⟩ := c
      have := a.cell n _ p hc h1
      cases cn with
      | dct us xs =>
        simp [vD, hc, conD] at h
        obtain ⟨rfl, rfl⟩ := h
        obtain ⟨kvs, h2, h3, h4⟩ := this
        exact ⟨p, kvs, rfl, h2, h3, h4⟩
      | _ => simp [vD, hc, conD] at h
  | _ => simp [vD] at h
theorem vO_ok {w : W} {c : Str} {ns : List Str} {ws : List W} {v : V} (a : Abs G g M H) (h : vO M w = some (c, ns, ws)) (r : RW G g M H w v) : ∃ p C dx fs, v = .ref p ∧ G.cA c = some C ∧ H p = some (.ins C dx fs) ∧ fs.map (·.1) = ns ∧ RWs G g M H ws (fs.map (·.2)) := by
  cases w with
  | obj c' ns' xs =>
    obtain ⟨p, C, dx, fs, rfl, h2, h3, h4, h5, h6⟩ := r
    cases h
    exact ⟨p, C, dx, fs, rfl, h2, h3, h5, h6⟩
  | ref n =>
    obtain ⟨p, h1, rfl⟩ := r
    cases hc : M[n]? with
    | none => simp [vO, hc] at h
    | some c =>
      obtain ⟨lv, cn⟩ := c
      have := a.cell n _ p hc h1
      cases cn with
      | obj c2 ns2 ws2 =>
        simp [vO, hc, conO] at h
        obtain ⟨rfl, rfl, rfl⟩ := h
        obtain ⟨C, dx, fs, h2, h3, h4, h5⟩ := this
        exact ⟨p, C, dx, fs, rfl, h2, h3, h4, h5⟩
      | _ => simp [vO, hc, conO] at h
  | _ => simp [vO] at h

/-! ### truth -/
theorem isEmpty_RWs {ws : List W} {vs : List V} (r : RWs G g M H ws vs) : ws.isEmpty = vs.isEmpty := by
  cases ws with
  | nil => rw [show vs = [] from r]; rfl
  | cons w ws => obtain ⟨v, x, rfl, _⟩ := r; rfl
theorem tru_of {w : W} {k : Bool} {v : V} (a : Abs G g M H) (h : truW M w = some k) (r : RW G g M H w v) : TruV G.K v H k := by
  cases w with
  | non => rw [show v = .non from r]; cases h; exact rfl
  | bl b => rw [show v = .bl b from r]; cases h; exact rfl
  | int i => rw [show v = .int i from r]; cases h; exact rfl
  | str x =>
    rw [show v = .str x from r]
    simp only [truW] at h
    split at h
    · rename_i hx
      cases h
      refine ⟨hx, ?_⟩
      rw [Bool.eq_iff_iff]
      simp
    · cases h
  | tup ws =>
    obtain ⟨p, vs, rfl, h2, h3⟩ := r
    cases h
    exact .inr (.inl ⟨vs, h2.sq, by rw [isEmpty_RWs h3]⟩)
  | lst ws =>
    obtain ⟨p, vs, rfl, h2, h3⟩ := r
    cases h
    exact .inl ⟨vs, h2.sq, by rw [isEmpty_RWs h3]⟩
  | ref n =>
    obtain ⟨ws, h1, h2⟩ : ∃ ws, vL M (.ref n) = some ws ∧ k = !ws.isEmpty := by
      simp only [truW, Option.map_eq_some_iff] at h
      obtain ⟨ws, h1, h2⟩ := h
      exact ⟨ws, h1, h2.symm⟩
    obtain ⟨p, vs, rfl, h3, h4⟩ := vL_ok a h1 r
    exact .inl ⟨vs, .inl h3, by rw [h2, isEmpty_RWs h4]⟩
  | _ => cases h
/-- a test by truth -/
theorem pt_dfl {X : Cx} {e : Expr} {f : LM → Store → Res W} (hK : X.K = G.K) (h : PE X e (TEof G cu Wi f)) (he : ∀ whole, isTrue e X.env whole = (do let v ← whole; standAt e.pos; holding [v] (truthy v))) : PT X e (TTof G cu Wi (dflT f)) := by
  refine (pt_truth h he).imp fun σ H Q q => ?_
  refine (TOf.bind (f := fun _ w M1 => need (truW M1 w) fun k => .ok k M1) (rel1 := RW G) q).imp fun v H1 ⟨g1, M1, l, w, a1, r1, p⟩ => ?_
  obtain ⟨k, hk, p⟩ := p.need
  exact ⟨k, hK ▸ tru_of a1.abs hk r1, p.now a1.abs rfl⟩

/-! ### two-place operations by values -/
/-- the rule r serves the function f -/
def Serves2 (G : GE) (r : R2) (f : W → W → Store → Res W) : Prop := ∀ (Wi : WX) (σ : L2.St) (g : Gh) (M : Store) (H : Hp) (x y : W) (v u : V) (Q : VK), Abs G g M H → RW G g M H x v → RW G g M H y u → Post G Wi (RW G) g M H σ (f x y M) Q → r v u H Q
theorem tOp_of {r : R2} {f : W → W → Store → Res W} {sa sb : Sm} {Q : VK} (hs : Serves2 G r f) (h : TEof G cu Wi (fun l M => (evEs [sa, sb] l M).bind fun vs M1 => match vs with | [x, y] => f x y M1 | _ => .err) σ H Q) : tOp r (TEof G cu Wi sa.v) (TEof G cu Wi sb.v) σ H Q := by
  obtain ⟨g, M, l, a, p⟩ := h
  refine ⟨g, M, l, a, ?_⟩
  have p1 : Post G Wi (RW G) g M H σ ((sa.v l M).bind fun x M1 => (sb.v l M1).bind fun y M2 => f x y M2) Q := by
    simp only [evEs] at p
    cases h1 : sa.v l M with
    | ok x M1 =>
      simp only [h1, Res.bind] at p ⊢
      cases h2 : sb.v l M1 with
      | ok y M2 => simpa only [h2, Res.bind] using p
      | exc c ns ws M2 => simpa only [h2, Res.bind] using p
      | err => simpa only [h2, Res.bind] using p
    | exc c ns ws M1 => simpa only [h1, Res.bind] using p
    | err => simpa only [h1, Res.bind] using p
  refine (p1.bind (rel1 := RW G) a.abs.len).imp fun v H1 ⟨g1, M1, x, a1, e1, r1, p2⟩ => ?_
  have at1 := a.evo a1 e1
  refine ⟨g1, M1, l, at1, (p2.bind (rel1 := RW G) a1.len).imp fun u H2 ⟨g2, M2, y, a2, e2, r2, p3⟩ => ?_⟩
  exact hs Wi σ g2 M2 H2 x y v u Q a2 (r1.evo a1.len e2) r2 p3
end
end PyI

namespace PyI
open PySem PySem.Spec PyProof.Rows L2

/-! ### list + list, list * int, of lists that stand -/
section
variable {X : Cx} {pins : List (Addr × Obj)} {σ : L2.St} {H : Hp} {s : Shared} {l : Addr} {xs ys : List V}
theorem Inv_lstR (I : Inv X pins σ H s) (hH : Rd H l (.lst xs)) : xs.length ≤ sizeLine ∧ ∃ (its : List Value) (n : Nat), Vals xs its ∧ xs.length = its.length ∧ s.heap.get? l = some { cls := .type "list", data := .seq its.toArray n } := by
  obtain ⟨z, its, n, r, e⟩ := hH.ok I.hok
  exact ⟨z, its, n, r, r.length, e⟩
def rCatR : R2 := fun x y H Q => ∃ l b xs zs, x = .ref l ∧ y = .ref b ∧ Rd H l (.lst xs) ∧ Rd H b (.lst zs) ∧ xs.length + zs.length ≤ sizeLine ∧ ∀ p, H p = none → Q (.ref p) (upd H p (.lst (xs ++ zs)))
theorem op_catR : OpR X (binaryOp .Add) rCatR := by
  intro pins s σ H x y v u Q I rx ry h
  obtain ⟨l, b, xs, zs, rfl, rfl, hH, hB, hz, q⟩ := h
  cases rx
  cases ry
  obtain ⟨z, its, n, r, hl, e⟩ := Inv_lstR I hH
  obtain ⟨z2, its2, n2, r2, hl2, e2⟩ := Inv_lstR I hB
  refine PySem.P.add_list e e2 ?_ (by rw [List.size_toArray, List.size_toArray]; omega)
  have ea : its.toArray ++ its2.toArray = (its ++ its2).toArray := by simp
  rw [ea]
  exact ⟨.ref _, _, I.lnew (t' := s.toks) (r.append r2) (by rw [List.length_append]; omega), rfl, q _ I.fresh⟩
def rRepR : R2 := fun x y H Q => ∃ l k xs, x = .ref l ∧ y = .int k ∧ Rd H l (.lst xs) ∧ -(2 ^ 63) ≤ k ∧ k < 2 ^ 63 ∧ xs.length * k.toNat ≤ sizeLine ∧
  ∀ p, H p = none → Q (.ref p) (upd H p (.lst (List.replicate k.toNat xs).flatten))
theorem op_repR : OpR X (binaryOp .Mult) rRepR := by
  intro pins s σ H x y v u Q I rx ry h
  obtain ⟨l, k, xs, rfl, rfl, hH, h1, h2, hz, q⟩ := h
  cases rx
  obtain ⟨t, rfl⟩ := ry
  obtain ⟨z, its, n, r, hl, e⟩ := Inv_lstR I hH
  have hlen : its.toArray.size * k.toNat ≤ sizeLine := by rw [List.size_toArray, ← hl]; exact hz
  have hcap : ¬ its.toArray.size * k.toNat > (2 ^ 63 - 1) / 8 := by
    have : (sizeLine : Nat) ≤ (2 ^ 63 - 1) / 8 := by decide
    omega
  have hfit : ¬ (!Builtin.List.listFitsIndex k) = true := by
    rw [fitsIndex_both h1 h2]
    exact Bool.false_ne_true
  have hlong : ¬ Builtin.List.listTooLong (its.toArray.size * k.toNat) = true := by
    rw [notLongL hlen]
    exact Bool.false_ne_true
  have hnew : List.foldl (fun x1 x2 => x1 ++ x2) #[] (List.replicate (if its.toArray.isEmpty = true then 0 else k.toNat) its.toArray) = (List.replicate k.toNat its).flatten.toArray := by
    have f0 : ∀ m : Nat, List.foldl (fun x1 x2 => x1 ++ x2) #[] (List.replicate m its.toArray) = (List.replicate m its).flatten.toArray := fun m => by
      have := foldl_rep its m []
      rw [List.nil_append] at this
      exact this
    rw [f0]
    cases its with
    | nil => simp
    | cons a r' => rw [if_neg (by simp)]
  refine wpAny_binaryOp_repeat_ref (T := "list") (U := "int") (by decide) ⟨_, e, rfl⟩ (fun s' => typeIs_int s' k t) noFill_list_mul F.fills_int_mul F.slot_int_rmul repeat_list F.slot_int_index.lookup
    (call_meets F.slot_int_rmul (typeIs_int s k t) F.entry_int_rmul (F.args_int_rmul_2 _ _) (int___rmul___int_list k t l its.toArray n)
      ⟨e, rfl, ⟨_, e, rfl⟩, call_meets F.slot_list_mul ⟨_, e, rfl⟩ F.entry_list_mul (F.args_list_mul_2 _ _) (AutoListH.list___mul___list_int_3 l its.toArray n k t hfit hcap hlong) ⟨e, ?_⟩⟩)
  rw [hnew]
  exact ⟨.ref _, _, I.lnew (t' := s.toks) (r.rep k.toNat) (by rw [PyProof.Rows.lm_len_rep_flat, Nat.mul_comm]; exact hz), rfl, q _ I.fresh⟩
end

def rNo : R2 := fun _ _ _ _ => False
def rBin (K : PySem.W.Frag) : Operator → R2
  | .Add => fun x y H Q => (rI0 (fun i j => .int (i + j)) x y H Q ∨ (∃ i j, x = .str i ∧ y = .str j ∧ i.length + j.length ≤ sizeLine ∧ Q (.str (i ++ j)) H)) ∨ (rCatA K x y H Q ∨ rCatR x y H Q)
  | .Sub => rI0 fun i j => .int (i - j)
  | .Mult => fun x y H Q => rI CMul (fun i j => .int (i * j)) x y H Q ∨ rRepR x y H Q
  | .FloorDiv => rI CDiv fun i j => .int (i / j)
  | .Mod => rI (fun _ j => 0 < j) fun i j => .int (i % j)
  | .Pow => rI CPow fun i j => .int (i ^ j.toNat)
  | _ => rNo
theorem op_no {X : Cx} {f : Value → Value → Sem Value} : OpR X f rNo := fun _ _ _ _ _ _ _ _ _ _ _ _ h => h.elim
theorem op_bin {X : Cx} (op : Operator) : OpR X (binaryOp op) (rBin X.K op) := by
  cases op with
  | Add => exact (op_add.or op_add_str).or (op_catA.or op_catR)
  | Sub => exact op_sub
  | Mult => exact op_mul.or op_repR
  | FloorDiv => exact op_fdiv
  | Mod => exact op_mod
  | Pow => exact op_pow
  | _ => exact op_no

section
variable {G : GE} {cu : Option Cu} {Wi : WX} {g g' g1 : Gh} {M M' M1 : Store} {H H' H1 : Hp} {σ : L2.St} {l : LM}
theorem RWs.repl {ws : List W} {vs : List V} (r : RWs G g M H ws vs) : ∀ k : Nat, RWs G g M H (List.replicate k ws).flatten (List.replicate k vs).flatten
  | 0 => rfl
  | k + 1 => by
    rw [List.replicate_succ, List.replicate_succ, List.flatten_cons, List.flatten_cons]
    exact r.append (RWs.repl r k)
theorem Post.no {α β : Type} {rel : Rel α β} {Q : β → Hp → Prop} (h : Post G Wi rel g M H σ .err Q) : False := h
theorem serves_bin {op : Operator} {fz : Bool} : Serves2 G (rBin G.K op) (binW op fz) := by
  intro Wi σ g M H x y v u Q a rx ry p
  cases op with
  | Add =>
    have lists : ∀ {x y : W} {v u : V}, RW G g M H x v → RW G g M H y u → Post G Wi (RW G) g M H σ (need (vL M x) fun x => need (vL M y) fun y => if x.length + y.length ≤ sizeLine then newL fz (x ++ y) M else .err) Q → rBin G.K .Add v u H Q := by
      intro x y v u rx ry p
      obtain ⟨xs, hx, p⟩ := p.need
      obtain ⟨ys, hy, p⟩ := p.need
      obtain ⟨b, vs, rfl, h1, h2⟩ := vL_ok a hx rx
      obtain ⟨c, us, rfl, h3, h4⟩ := vL_ok a hy ry
      split at p
      · rename_i hz
        exact .inr (.inr ⟨b, c, vs, us, rfl, rfl, h1, h3, by rw [← h2.length, ← h4.length]; exact hz, fun q hq => Post.newL a (h2.append h4) p hq⟩)
      · exact p.no.elim
    cases x with
    | int i =>
      cases y with
      | int j =>
        rw [show v = .int i from rx, show u = .int j from ry]
        exact .inl (.inl ⟨i, j, rfl, rfl, p.now a rfl⟩)
      | _ => exact lists rx ry p
    | str i =>
      cases y with
      | str j =>
        rw [show v = .str i from rx, show u = .str j from ry]
        simp only [binW] at p
        split at p
        · rename_i hz
          exact .inl (.inr ⟨i, j, rfl, rfl, hz, p.now a rfl⟩)
        · exact p.no.elim
      | _ => exact lists rx ry p
    | tup xs =>
      cases y with
      | tup ys =>
        obtain ⟨b, vs, rfl, h1, h2⟩ := rx
        obtain ⟨c, us, rfl, h3, h4⟩ := ry
        simp only [binW] at p
        split at p
        · rename_i hz
          refine .inr (.inl ⟨b, c, vs, us, rfl, rfl, h1.sq, h3.sq, by rw [← h2.length, ← h4.length]; exact hz, fun e => ?_, fun e1 e2 => ?_, fun _ _ q hq => ?_⟩)
          · subst e
            have e : xs = [] := List.eq_nil_of_length_eq_zero (by rw [h2.length]; rfl)
            subst e
            exact p.now a ⟨c, us, rfl, h3, h4⟩
          · subst e2
            have e : ys = [] := List.eq_nil_of_length_eq_zero (by rw [h4.length]; rfl)
            subst e
            rw [List.append_nil] at p
            exact p.now a ⟨b, vs, rfl, h1, h2⟩
          · obtain ⟨a1, e1, r1⟩ := a.newTup hq (h2.append h4)
            exact p _ _ _ a1 e1 r1
        · exact p.no.elim
      | _ => exact lists rx ry p
    | _ => exact lists rx ry p
  | Sub =>
    cases x <;> first | exact p.no.elim | skip
    rename_i i
    cases y <;> first | exact p.no.elim | skip
    rename_i j
    rw [show v = .int i from rx, show u = .int j from ry]
    exact ⟨i, j, rfl, rfl, p.now a rfl⟩
  | Mult =>
    cases y with
    | int k =>
      rw [show u = .int k from ry]
      have lists : ∀ {x : W} {v : V}, RW G g M H x v → Post G Wi (RW G) g M H σ (need (vL M x) fun ws => if -(2 ^ 63) ≤ k ∧ k < 2 ^ 63 ∧ ws.length * k.toNat ≤ sizeLine then newL fz (List.replicate k.toNat ws).flatten M else .err) Q → rBin G.K .Mult v (.int k) H Q := by
        intro x v rx p
        obtain ⟨xs, hx, p⟩ := p.need
        obtain ⟨b, vs, rfl, h1, h2⟩ := vL_ok a hx rx
        split at p
        · rename_i hz
          exact .inr ⟨b, k, vs, rfl, rfl, h1, hz.1, hz.2.1, by rw [← h2.length]; exact hz.2.2, fun q hq => Post.newL a (h2.repl k.toNat) p hq⟩
        · exact p.no.elim
      cases x with
      | int i =>
        rw [show v = .int i from rx]
        simp only [binW] at p
        split at p
        · rename_i hc
          exact .inl ⟨i, k, rfl, rfl, hc, p.now a rfl⟩
        · exact p.no.elim
      | _ => exact lists rx p
    | _ => cases x <;> exact p.no.elim
  | FloorDiv =>
    cases x <;> first | exact p.no.elim | skip
    rename_i i
    cases y <;> first | exact p.no.elim | skip
    rename_i j
    rw [show v = .int i from rx, show u = .int j from ry]
    simp only [binW] at p
    split at p
    · rename_i hc
      exact ⟨i, j, rfl, rfl, hc, p.now a rfl⟩
    · exact p.no.elim
  | Mod =>
    cases x <;> first | exact p.no.elim | skip
    rename_i i
    cases y <;> first | exact p.no.elim | skip
    rename_i j
    rw [show v = .int i from rx, show u = .int j from ry]
    simp only [binW] at p
    split at p
    · rename_i hc
      exact ⟨i, j, rfl, rfl, hc, p.now a rfl⟩
    · exact p.no.elim
  | Pow =>
    cases x <;> first | exact p.no.elim | skip
    rename_i i
    cases y <;> first | exact p.no.elim | skip
    rename_i j
    rw [show v = .int i from rx, show u = .int j from ry]
    simp only [binW] at p
    split at p
    · rename_i hc
      exact ⟨i, j, rfl, rfl, hc, p.now a rfl⟩
    · exact p.no.elim
  | _ => cases x <;> cases y <;> exact p.no.elim
end
end PyI

namespace PyI
open PySem PySem.Spec PyProof.Rows L2
/-! ### values as they are read now (nothing said of later) -/
section
variable (G : GE)
mutual
def RV (g : Gh) (H : Hp) : W → V → Prop
  | .non, v => v = .non
  | .bl b, v => v = .bl b
  | .int i, v => v = .int i
  | .str x, v => v = .str x
  | .tup ws, v => ∃ a vs, v = .ref a ∧ SqT G.K H a vs ∧ RVs g H ws vs
  | .lst ws, v => ∃ a vs, v = .ref a ∧ SqL G.K H a vs ∧ RVs g H ws vs
  | .ref n, v => ∃ a, g.R[n]? = some a ∧ v = .ref a
  | _, _ => True
def RVs (g : Gh) (H : Hp) : List W → List V → Prop
  | [], vs => vs = []
  | w :: ws, vs => ∃ v r, vs = v :: r ∧ RV g H w v ∧ RVs g H ws r
end
end
section
variable {G : GE} {cu : Option Cu} {Wi : WX} {g g' g1 : Gh} {M M' M1 : Store} {H H' H1 : Hp} {σ : L2.St} {l : LM}
mutual
theorem RW.rv : ∀ {w : W} {v : V}, RW G g M H w v → RV G g H w v
  | .non, v, h => h
  | .bl b, v, h => h
  | .int i, v, h => h
  | .str x, v, h => h
  | .tup ws, v, h => by
    obtain ⟨a, vs, h1, h2, h3⟩ := h
    exact ⟨a, vs, h1, h2.sq, RWs.rv h3⟩
  | .lst ws, v, h => by
    obtain ⟨a, vs, h1, h2, h3⟩ := h
    exact ⟨a, vs, h1, h2.sq, RWs.rv h3⟩
  | .ref n, v, h => h
  | .dct ks ws, v, h => True.intro
  | .obj c ns ws, v, h => True.intro
  | .cls c, v, h => True.intro
  | .typ n, v, h => True.intro
  | .scr ns, v, h => True.intro
theorem RWs.rv : ∀ {ws : List W} {vs : List V}, RWs G g M H ws vs → RVs G g H ws vs
  | [], vs, h => h
  | w :: ws, vs, h => by
    obtain ⟨v, r, h1, h2, h3⟩ := h
    exact ⟨v, r, h1, RW.rv h2, RWs.rv h3⟩
end
mutual
theorem RV.res1 (a : Abs G g M H) : ∀ {w : W} {v : V}, RV G g H w v → RV G g H (res1 M w) v
  | .non, v, h => h
  | .bl b, v, h => h
  | .int i, v, h => h
  | .str x, v, h => h
  | .tup ws, v, h => by
    obtain ⟨p, vs, h1, h2, h3⟩ := h
    exact ⟨p, vs, h1, h2, RVs.res1 a h3⟩
  | .lst ws, v, h => by
    obtain ⟨p, vs, h1, h2, h3⟩ := h
    exact ⟨p, vs, h1, h2, RVs.res1 a h3⟩
  | .ref n, v, h => by
    obtain ⟨p, h1, h2⟩ := h
    unfold PyI.res1
    cases hc : (M[n]?).bind fun c => conL c.con with
    | none => exact ⟨p, h1, h2⟩
    | some ws =>
      obtain ⟨q, vs, rfl, h3, h4⟩ := vL_ok a (show vL M (.ref n) = some ws from hc) (show RW G g M H (.ref n) v from ⟨p, h1, h2⟩)
      exact ⟨q, vs, rfl, .inl h3, h4.rv⟩
  | .dct ks ws, v, h => True.intro
  | .obj c ns ws, v, h => True.intro
  | .cls c, v, h => True.intro
  | .typ n, v, h => True.intro
  | .scr ns, v, h => True.intro
theorem RVs.res1 (a : Abs G g M H) : ∀ {ws : List W} {vs : List V}, RVs G g H ws vs → RVs G g H (res1s M ws) vs
  | [], vs, h => h
  | w :: ws, vs, h => by
    obtain ⟨v, r, h1, h2, h3⟩ := h
    exact ⟨v, r, h1, RV.res1 a h2, RVs.res1 a h3⟩
end
mutual
theorem RV.dp : ∀ {w : W} {v : V} {d : PyData}, dataW w = some d → RV G g H w v → Dp G.K H v d
  | .non, v, d, e, h => by cases e; rw [show v = .non from h]; exact .non
  | .bl b, v, d, e, h => by cases e; rw [show v = .bl b from h]; exact .bl b
  | .int i, v, d, e, h => by cases e; rw [show v = .int i from h]; exact .int i
  | .str x, v, d, e, h => by cases e; rw [show v = .str x from h]; exact .str x
  | .tup ws, v, d, e, h => by
    obtain ⟨a, vs, rfl, h2, h3⟩ := h
    simp only [dataW, Option.map_eq_some_iff] at e
    obtain ⟨ds, e1, rfl⟩ := e
    exact .tup h2 (RVs.dp e1 h3)
  | .lst ws, v, d, e, h => by
    obtain ⟨a, vs, rfl, h2, h3⟩ := h
    simp only [dataW, Option.map_eq_some_iff] at e
    obtain ⟨ds, e1, rfl⟩ := e
    exact .lst h2 (RVs.dp e1 h3)
  | .ref n, v, d, e, h => by cases e
  | .dct ks ws, v, d, e, h => by cases e
  | .obj c ns ws, v, d, e, h => by cases e
  | .cls c, v, d, e, h => by cases e
  | .typ n, v, d, e, h => by cases e
  | .scr ns, v, d, e, h => by cases e
theorem RVs.dp : ∀ {ws : List W} {vs : List V} {ds : List PyData}, dataWs ws = some ds → RVs G g H ws vs → DpAll G.K H vs ds
  | [], vs, ds, e, h => by cases e; rw [show vs = [] from h]; exact .nil
  | w :: ws, vs, ds, e, h => by
    obtain ⟨v, r, rfl, h2, h3⟩ := h
    simp only [dataWs, Option.bind_eq_some_iff, Option.map_eq_some_iff] at e
    obtain ⟨d, e1, ds', e2, rfl⟩ := e
    exact .cons (RV.dp e1 h2) (RVs.dp e2 h3)
end
theorem dataM_dp {w : W} {v : V} {d : PyData} (a : Abs G g M H) (h : dataM M w = some d) (r : RW G g M H w v) : Dp G.K H v d :=
  RV.dp h (RV.res1 a (RV.res1 a (RV.res1 a r.rv)))
theorem eqW_ok {x y : W} {v u : V} {k : Bool} (a : Abs G g M H) (h : eqW M x y = some k) (rx : RW G g M H x v) (ry : RW G g M H y u) :
    (∃ d e, Dp G.K H v d ∧ Dp G.K H u e ∧ SeqAt.shaped d = true ∧ SeqAt.shaped e = true ∧ PyData.eqv d e = k) ∨ ∃ i j, v = .str i ∧ u = .str j ∧ decide (i = j) = k := by
  unfold eqW at h
  split at h
  · cases h
    exact .inr ⟨_, _, rx, ry, rfl⟩
  · simp only [Option.bind_eq_some_iff] at h
    obtain ⟨d, h1, e, h2, h3⟩ := h
    split at h3
    · rename_i hs
      cases h3
      obtain ⟨s1, s2⟩ := Bool.and_eq_true_iff.mp hs
      exact .inl ⟨d, e, dataM_dp a h1 rx, dataM_dp a h2 ry, s1, s2, rfl⟩
    · cases h3

/-! ### comparisons -/
def rCmp (K : PySem.W.Frag) : CmpOp → R2
  | .Lt => rI0 fun i j => .bl (decide (i < j))
  | .LtE => rI0 fun i j => .bl (decide (i ≤ j))
  | .Gt => rI0 fun i j => .bl (decide (j < i))
  | .GtE => rI0 fun i j => .bl (decide (j ≤ i))
  | .Eq => fun x y H Q => rEqD K x y H Q ∨ rEq x y H Q
  | .NotEq => fun x y H Q => rNeD K x y H Q ∨ rNe x y H Q
  | .In => fun x y H Q => (∃ i j, x = .str i ∧ y = .str j ∧ Q (.bl (!(Builtin.Str.occurrences j i 0 j.length 1).isEmpty)) H) ∨ (∃ d ds, Dp K H x d ∧ (Dp K H y (.list ds) ∨ Dp K H y (.tuple ds)) ∧ SeqAt.shaped d = true ∧ SeqAt.shaped (.list ds) = true ∧ Q (.bl (ds.any fun z => PyData.eqv z d)) H) ∨ (∃ pa o, y = .ref pa ∧ DGet H pa x o ∧ Q (.bl o.isSome) H)
  | .NotIn => fun x y H Q => (∃ i j, x = .str i ∧ y = .str j ∧ Q (.bl (!(!(Builtin.Str.occurrences j i 0 j.length 1).isEmpty))) H) ∨ (∃ d ds, Dp K H x d ∧ (Dp K H y (.list ds) ∨ Dp K H y (.tuple ds)) ∧ SeqAt.shaped d = true ∧ SeqAt.shaped (.list ds) = true ∧ Q (.bl (!ds.any fun z => PyData.eqv z d)) H) ∨ (∃ pa o, y = .ref pa ∧ DGet H pa x o ∧ Q (.bl (!o.isSome)) H)
  | .Is => fun x y H Q => y = .non ∧ Q (.bl (decide (x = .non))) H
  | .IsNot => fun x y H Q => y = .non ∧ Q (.bl (!decide (x = .non))) H
end
theorem canLayT_of_shaped {ds : List PyData} (h : SeqAt.shaped (.list ds) = true) : PyData.canLayAll0 ds = true := SeqAt.canLay_of_shaped (d := .list ds) h
section
variable {X : Cx}
theorem op_inDT (hu : X.A.units + 65 < cLine) : OpR X (compareOp .In) (fun x y H Q => ∃ d ds, Dp X.K H x d ∧ (Dp X.K H y (.list ds) ∨ Dp X.K H y (.tuple ds)) ∧ SeqAt.shaped d = true ∧ SeqAt.shaped (.list ds) = true ∧ Q (.bl (ds.any fun z => PyData.eqv z d)) H) := by
  intro pins s σ H x y v u Q I rx ry h
  obtain ⟨d, ds, hd, he | he, sd, se, q⟩ := h
  · exact op_inD hu pins s σ H x y v u Q I rx ry ⟨d, ds, hd, he, sd, se, q⟩
  · obtain ⟨as, r1⟩ := Dp.reads I d x v hd rx
    obtain ⟨bs, r2⟩ := Dp.reads I (.tuple ds) y u he ry
    exact SeqAt.in_tuple_reads r2 r1 (canLayT_of_shaped se) (SeqAt.canLay_of_shaped sd) (room_in_shaped sd hu) ⟨.bl _, H, I, rfl, q⟩
theorem op_notInDT (hu : X.A.units + 65 < cLine) : OpR X (compareOp .NotIn) (fun x y H Q => ∃ d ds, Dp X.K H x d ∧ (Dp X.K H y (.list ds) ∨ Dp X.K H y (.tuple ds)) ∧ SeqAt.shaped d = true ∧ SeqAt.shaped (.list ds) = true ∧ Q (.bl (!ds.any fun z => PyData.eqv z d)) H) := by
  intro pins s σ H x y v u Q I rx ry h
  obtain ⟨d, ds, hd, he | he, sd, se, q⟩ := h
  · exact op_notInD hu pins s σ H x y v u Q I rx ry ⟨d, ds, hd, he, sd, se, q⟩
  · obtain ⟨as, r1⟩ := Dp.reads I d x v hd rx
    obtain ⟨bs, r2⟩ := Dp.reads I (.tuple ds) y u he ry
    exact SeqAt.notIn_tuple_reads r2 r1 (canLayT_of_shaped se) (SeqAt.canLay_of_shaped sd) (room_in_shaped sd hu) ⟨.bl _, H, I, rfl, q⟩
theorem op_inK (hu : X.A.units + 65 < cLine) : OpR X (compareOp .In) (fun x y H Q => ∃ pa o, y = .ref pa ∧ DGet H pa x o ∧ Q (.bl o.isSome) H) := by
  intro pins s σ H x y v u Q I rx ry ⟨pa, o, e, g, q⟩
  subst e
  obtain rfl : u = Value.ref pa := ry
  exact d_in (by omega) I g rx fun s3 I3 => ⟨.bl o.isSome, H, I3, rfl, q⟩
theorem op_notInK (hu : X.A.units + 65 < cLine) : OpR X (compareOp .NotIn) (fun x y H Q => ∃ pa o, y = .ref pa ∧ DGet H pa x o ∧ Q (.bl (!o.isSome)) H) := by
  intro pins s σ H x y v u Q I rx ry ⟨pa, o, e, g, q⟩
  subst e
  obtain rfl : u = Value.ref pa := ry
  exact d_notIn (by omega) I g rx fun s3 I3 => ⟨.bl (!o.isSome), H, I3, rfl, q⟩
theorem op_cmp (hu : X.A.units + 65 < cLine) (op : CmpOp) : OpR X (compareOp op) (rCmp X.K op) := by
  cases op with
  | Eq => exact (op_eqD (by omega)).or op_eq
  | NotEq => exact (op_neD (by omega)).or op_ne
  | Lt => exact op_lt
  | LtE => exact op_le
  | Gt => exact op_gt
  | GtE => exact op_ge
  | Is => exact op_isN
  | IsNot => exact op_notN
  | In => exact op_in_str.or ((op_inDT hu).or (op_inK hu))
  | NotIn => exact op_notin_str.or ((op_notInDT hu).or (op_notInK hu))
end
section
variable {G : GE} {cu : Option Cu} {Wi : WX} {g g' g1 : Gh} {M M' M1 : Store} {H H' H1 : Hp} {σ : L2.St} {l : LM}
theorem valV_any {k : Key} : ∀ {kvs : List (Key × V)}, (valV kvs k).isSome = (kvs.map (·.1)).any fun z => decide (z = k)
  | [] => rfl
  | q :: r => by
    have ih := valV_any (k := k) (kvs := r)
    simp only [valV, List.map_cons, List.any_cons] at ih ⊢
    by_cases h : q.1 = k <;> simp_all
theorem keyOf_V {kw : W} {q : Key} {v : V} (h : keyOf kw = some q) (r : RW G g M H kw v) : v = kV q := by
  unfold keyOf at h
  split at h
  · cases h; exact r
  · cases h; exact r
  · cases h
theorem inW_ok {x y : W} {v u : V} {k : Bool} (a : Abs G g M H) (h : inW M x y = some k) (rx : RW G g M H x v) (ry : RW G g M H y u) :
    (∃ i j, v = .str i ∧ u = .str j ∧ (!(Builtin.Str.occurrences j i 0 j.length 1).isEmpty) = k) ∨
    (∃ d ds, Dp G.K H v d ∧ (Dp G.K H u (.list ds) ∨ Dp G.K H u (.tuple ds)) ∧ SeqAt.shaped d = true ∧ SeqAt.shaped (.list ds) = true ∧ (ds.any fun z => PyData.eqv z d) = k) ∨ (∃ pa o, u = .ref pa ∧ DGet H pa v o ∧ o.isSome = k) := by
  have seqs : ∀ {x y : W} {v u : V}, RW G g M H x v → RW G g M H y u → ((vS M y).bind fun ws => (dataM M x).bind fun d => (dataM M (.lst ws)).bind fun e => match e with
    | .list ds => if SeqAt.shaped d && SeqAt.shaped (.list ds) then some (ds.any fun z => PyData.eqv z d) else none
    | _ => none) = some k → (∃ d ds, Dp G.K H v d ∧ (Dp G.K H u (.list ds) ∨ Dp G.K H u (.tuple ds)) ∧ SeqAt.shaped d = true ∧ SeqAt.shaped (.list ds) = true ∧ (ds.any fun z => PyData.eqv z d) = k) := by
    intro x y v u rx ry h
    simp only [Option.bind_eq_some_iff] at h
    obtain ⟨ws, h1, d, h2, e, h3, h4⟩ := h
    obtain ⟨p, vs, rfl, h5, h6⟩ := vS_ok a h1 ry
    have e3 : ∃ ds, e = .list ds ∧ dataWs (res1s M (res1s M (res1s M ws))) = some ds := by
      simp only [dataM, res1, dataW, Option.map_eq_some_iff] at h3
      obtain ⟨ds, e1, e2⟩ := h3
      exact ⟨ds, e2.symm, e1⟩
    obtain ⟨ds, rfl, e4⟩ := e3
    have dp := RVs.dp e4 (RVs.res1 a (RVs.res1 a (RVs.res1 a h6.rv)))
    have h4 : (if SeqAt.shaped d && SeqAt.shaped (.list ds) then some (ds.any fun z => PyData.eqv z d) else none) = some k := h4
    split at h4
    · rename_i hs
      cases h4
      obtain ⟨s1, s2⟩ := Bool.and_eq_true_iff.mp hs
      rcases h5 with h5 | h5
      · exact ⟨d, ds, dataM_dp a h2 rx, .inl (.lst h5 dp), s1, s2, rfl⟩
      · exact ⟨d, ds, dataM_dp a h2 rx, .inr (.tup h5 dp), s1, s2, rfl⟩
    · cases h4
  have rest : ∀ {x y : W} {v u : V}, RW G g M H x v → RW G g M H y u → (match vD M y with
    | some (ks, _) => (keyOf x).map fun k => ks.any fun z => decide (z = k)
    | none => (vS M y).bind fun ws => (dataM M x).bind fun d => (dataM M (.lst ws)).bind fun e => match e with
      | .list ds => if SeqAt.shaped d && SeqAt.shaped (.list ds) then some (ds.any fun z => PyData.eqv z d) else none
      | _ => none) = some k → (∃ d ds, Dp G.K H v d ∧ (Dp G.K H u (.list ds) ∨ Dp G.K H u (.tuple ds)) ∧ SeqAt.shaped d = true ∧ SeqAt.shaped (.list ds) = true ∧ (ds.any fun z => PyData.eqv z d) = k) ∨ (∃ pa o, u = .ref pa ∧ DGet H pa v o ∧ o.isSome = k) := by
    intro x y v u rx ry h
    cases hd : vD M y with
    | none =>
      rw [hd] at h
      exact .inl (seqs rx ry h)
    | some q =>
      obtain ⟨ks, ws⟩ := q
      rw [hd] at h
      obtain ⟨q, hq, hk⟩ := Option.map_eq_some_iff.mp h
      obtain ⟨p, kvs, e, h1, h2, h3⟩ := vD_ok a hd ry
      have ev := keyOf_V hq rx
      subst ev
      exact .inr ⟨p, _, e, DGet.k h1, by rw [valV_any, h2]; exact hk⟩
  cases x with
  | str i =>
    cases y with
    | str j =>
      rw [show v = .str i from rx, show u = .str j from ry]
      cases h
      exact .inl ⟨i, j, rfl, rfl, rfl⟩
    | _ => exact .inr (rest rx ry h)
  | _ => exact .inr (rest rx ry h)
theorem serves_cmp {op : CmpOp} : Serves2 G (rCmp G.K op) (cmpW op) := by
  intro Wi σ g M H x y v u Q a rx ry p
  cases op with
  | Eq =>
    have p : Post G Wi (RW G) g M H σ (need (eqW M x y) fun r => .ok (.bl r) M) Q := by
      cases x <;> cases y <;> exact p
    obtain ⟨k, hk, p⟩ := p.need
    rcases eqW_ok a hk rx ry with ⟨d, e, h1, h2, h3, h4, rfl⟩ | ⟨i, j, rfl, rfl, rfl⟩
    · exact .inl ⟨d, e, h1, h2, h3, h4, p.now a rfl⟩
    · exact .inr ⟨rfl, by rw [show (decide (V.str i = V.str j)) = decide (i = j) from by simp]; exact p.now a rfl⟩
  | NotEq =>
    have p : Post G Wi (RW G) g M H σ (need (eqW M x y) fun r => .ok (.bl (!r)) M) Q := by
      cases x <;> cases y <;> exact p
    obtain ⟨k, hk, p⟩ := p.need
    rcases eqW_ok a hk rx ry with ⟨d, e, h1, h2, h3, h4, rfl⟩ | ⟨i, j, rfl, rfl, rfl⟩
    · exact .inl ⟨d, e, h1, h2, h3, h4, p.now a rfl⟩
    · exact .inr ⟨rfl, by rw [show (!decide (V.str i = V.str j)) = !decide (i = j) from by simp]; exact p.now a rfl⟩
  | In =>
    have p : Post G Wi (RW G) g M H σ (need (inW M x y) fun r => .ok (.bl r) M) Q := by
      cases x <;> cases y <;> exact p
    obtain ⟨k, hk, p⟩ := p.need
    rcases inW_ok a hk rx ry with ⟨i, j, rfl, rfl, rfl⟩ | ⟨d, ds, h1, h2, h3, h4, rfl⟩ | ⟨pa, o, e, h1, rfl⟩
    · exact .inl ⟨i, j, rfl, rfl, p.now a rfl⟩
    · exact .inr (.inl ⟨d, ds, h1, h2, h3, h4, p.now a rfl⟩)
    · exact .inr (.inr ⟨pa, o, e, h1, p.now a rfl⟩)
  | NotIn =>
    have p : Post G Wi (RW G) g M H σ (need (inW M x y) fun r => .ok (.bl (!r)) M) Q := by
      cases x <;> cases y <;> exact p
    obtain ⟨k, hk, p⟩ := p.need
    rcases inW_ok a hk rx ry with ⟨i, j, rfl, rfl, rfl⟩ | ⟨d, ds, h1, h2, h3, h4, rfl⟩ | ⟨pa, o, e, h1, rfl⟩
    · exact .inl ⟨i, j, rfl, rfl, p.now a rfl⟩
    · exact .inr (.inl ⟨d, ds, h1, h2, h3, h4, p.now a rfl⟩)
    · exact .inr (.inr ⟨pa, o, e, h1, p.now a rfl⟩)
  | Is =>
    cases y <;> try (cases x <;> exact p.no.elim)
    have key : ∀ b, v ≠ .non ∧ b = false ∨ v = .non ∧ b = true → decide (v = .non) = b := by
      intro b h
      rcases h with ⟨h, rfl⟩ | ⟨h, rfl⟩ <;> simp [h]
    refine ⟨show u = .non from ry, ?_⟩
    cases x with
    | non => rw [key true (.inr ⟨rx, rfl⟩)]; exact p.now a rfl
    | bl b => rw [key false (.inl ⟨by rw [show v = .bl b from rx]; simp, rfl⟩)]; exact p.now a rfl
    | int b => rw [key false (.inl ⟨by rw [show v = .int b from rx]; simp, rfl⟩)]; exact p.now a rfl
    | str b => rw [key false (.inl ⟨by rw [show v = .str b from rx]; simp, rfl⟩)]; exact p.now a rfl
    | tup b => rw [key false (.inl ⟨by obtain ⟨_, _, e, _⟩ := rx; rw [e]; simp, rfl⟩)]; exact p.now a rfl
    | lst b => rw [key false (.inl ⟨by obtain ⟨_, _, e, _⟩ := rx; rw [e]; simp, rfl⟩)]; exact p.now a rfl
    | dct k b => rw [key false (.inl ⟨by obtain ⟨_, _, e, _⟩ := rx; rw [e]; simp, rfl⟩)]; exact p.now a rfl
    | obj c k b => rw [key false (.inl ⟨by obtain ⟨_, _, _, _, e, _⟩ := rx; rw [e]; simp, rfl⟩)]; exact p.now a rfl
    | ref b => rw [key false (.inl ⟨by obtain ⟨_, _, e⟩ := rx; rw [e]; simp, rfl⟩)]; exact p.now a rfl
    | cls b => rw [key false (.inl ⟨by obtain ⟨_, _, e⟩ := rx; rw [e]; simp, rfl⟩)]; exact p.now a rfl
    | typ b => rw [key false (.inl ⟨by rw [show v = .ty b from rx]; simp, rfl⟩)]; exact p.now a rfl
    | scr b => rw [key false (.inl ⟨by obtain ⟨_, e, _⟩ := rx; rw [e]; simp, rfl⟩)]; exact p.now a rfl
  | IsNot =>
    cases y <;> try (cases x <;> exact p.no.elim)
    have key : ∀ b, v ≠ .non ∧ b = true ∨ v = .non ∧ b = false → (!decide (v = .non)) = b := by
      intro b h
      rcases h with ⟨h, rfl⟩ | ⟨h, rfl⟩ <;> simp [h]
    refine ⟨show u = .non from ry, ?_⟩
    cases x with
    | non => rw [key false (.inr ⟨rx, rfl⟩)]; exact p.now a rfl
    | bl b => rw [key true (.inl ⟨by rw [show v = .bl b from rx]; simp, rfl⟩)]; exact p.now a rfl
    | int b => rw [key true (.inl ⟨by rw [show v = .int b from rx]; simp, rfl⟩)]; exact p.now a rfl
    | str b => rw [key true (.inl ⟨by rw [show v = .str b from rx]; simp, rfl⟩)]; exact p.now a rfl
    | tup b => rw [key true (.inl ⟨by obtain ⟨_, _, e, _⟩ := rx; rw [e]; simp, rfl⟩)]; exact p.now a rfl
    | lst b => rw [key true (.inl ⟨by obtain ⟨_, _, e, _⟩ := rx; rw [e]; simp, rfl⟩)]; exact p.now a rfl
    | dct k b => rw [key true (.inl ⟨by obtain ⟨_, _, e, _⟩ := rx; rw [e]; simp, rfl⟩)]; exact p.now a rfl
    | obj c k b => rw [key true (.inl ⟨by obtain ⟨_, _, _, _, e, _⟩ := rx; rw [e]; simp, rfl⟩)]; exact p.now a rfl
    | ref b => rw [key true (.inl ⟨by obtain ⟨_, _, e⟩ := rx; rw [e]; simp, rfl⟩)]; exact p.now a rfl
    | cls b => rw [key true (.inl ⟨by obtain ⟨_, _, e⟩ := rx; rw [e]; simp, rfl⟩)]; exact p.now a rfl
    | typ b => rw [key true (.inl ⟨by rw [show v = .ty b from rx]; simp, rfl⟩)]; exact p.now a rfl
    | scr b => rw [key true (.inl ⟨by obtain ⟨_, e, _⟩ := rx; rw [e]; simp, rfl⟩)]; exact p.now a rfl
  | _ =>
    cases x <;> first | exact p.no.elim | skip
    rename_i i
    cases y <;> first | exact p.no.elim | skip
    rename_i j
    rw [show v = .int i from rx, show u = .int j from ry]
    exact ⟨i, j, rfl, rfl, p.now a rfl⟩
theorem cmpW_bl {op : CmpOp} {x y : W} {r : W} (h : cmpW op x y M = .ok r M1) : M1 = M ∧ ∃ k, r = .bl k := by
  unfold cmpW at h
  split at h <;> first | (cases h; exact ⟨rfl, _, rfl⟩) | skip
  all_goals first
    | (unfold need at h; split at h <;> first | (cases h; exact ⟨rfl, _, rfl⟩) | cases h)
    | cases h
end
end PyI

namespace PyI
open PySem PySem.Spec PyProof.Rows L2

/-- the built-in names that the text may use -/
def bltNames : List Str := ["len", "list", "tuple", "all", "any", "max", "min", "abs", "divmod", "int", "str", "repr", "sum", "range", "enumerate", "zip", "isinstance", "sorted", "bool", "dict", "set"]
/-- a context that the reader serves -/
structure Good (G : GE) (N : List Str) (sc : Scope) (calm : Bool) (X : Cx) : Prop where
  K : X.K = G.K
  xN : X.N = N
  nd : N.Nodup
  sc : X.env.scope = sc
  blt : ∀ x ∈ bltNames, X.mg x = none
  gd : X.A.guards = some []
  un : X.A.units + 200 < cLine
  calm : calm = true → X.calm = true
def notStar : Expr → Bool
  | .Starred _ _ => false
  | _ => true
/-- what an expression of the text means -/
structure PX (G : GE) (cu : Option Cu) (Wi : WX) (X : Cx) (x : Expr) (s : Sm) : Prop where
  pe : PE X x (TEof G cu Wi s.v)
  pt : PT X x (TTof G cu Wi s.t)
  ns : notStar x = true
inductive PXs (G : GE) (cu : Option Cu) (Wi : WX) (X : Cx) : List Expr → List Sm → Prop
  | nil : PXs G cu Wi X [] []
  | cons {x : Expr} {xs : List Expr} {s : Sm} {ss : List Sm} : PX G cu Wi X x s → PXs G cu Wi X xs ss → PXs G cu Wi X (x :: xs) (s :: ss)

section
variable {G : GE} {cu : Option Cu} {Wi : WX} {X : Cx} {g g' g1 : Gh} {M M' M1 : Store} {H H' H1 : Hp} {σ : L2.St} {l : LM}
theorem PX.of {x : Expr} {v : LM → Store → Res W} (hK : X.K = G.K) (h : PE X x (TEof G cu Wi v)) (he : ∀ whole, isTrue x X.env whole = (do let v ← whole; standAt x.pos; holding [v] (truthy v))) (hs : notStar x = true) : PX G cu Wi X x (.of v) :=
  ⟨h, pt_dfl hK h he, hs⟩
theorem starEach_cons {x : Expr} {xs : List Expr} {env : Env} (h : notStar x = true) : starEach (x :: xs) env = (false, eval x env) :: starEach xs env := by
  cases x <;> first | rfl | cases h
theorem PXs.stars {xs : List Expr} {ss : List Sm} (h : PXs G cu Wi X xs ss) (pos : Pos) : (backTo pos (starEach xs X.env)).any (·.1) = false := by
  induction h with
  | nil => rfl
  | cons h1 _ ih =>
    rw [starEach_cons h1.ns]
    show (false || (backTo pos (starEach _ X.env)).any (·.1)) = false
    rw [ih]
    rfl
/-- the arguments, from the left -/
theorem PXs.pa {xs : List Expr} {ss : List Sm} (h : PXs G cu Wi X xs ss) : PA X xs (TAof G cu Wi (evEs ss)) := by
  induction h with
  | nil =>
    refine pa_nil.imp fun σ H Q ⟨g, M, l, a, p⟩ => ?_
    exact p.now a.abs rfl
  | @cons x xs s ss h1 _ ih =>
    refine (pa_cons h1.pe ih (starEach_cons h1.ns)).imp fun σ H Q q => ?_
    refine (TOf.bind (fa := s.v) (f := fun l w M1 => (evEs ss l M1).bind fun ws M2 => .ok (w :: ws) M2) (rel1 := RW G) q).imp fun v H1 ⟨g1, M1, l, w, a1, r1, p⟩ => ?_
    refine ⟨g1, M1, l, a1, (p.bind (rel1 := RWs G) a1.abs.len).imp fun vs H2 ⟨g2, M2, ws, a2, e2, r2, p2⟩ => ?_⟩
    exact p2.now a2 ⟨v, vs, rfl, r1.evo a1.abs.len e2, r2⟩

/-! ### calls of built-in functions -/
/-- the rule r serves the function f on argument lists -/
def ServesC (G : GE) (r : List V → Hp → VK → Prop) (f : List W → Store → Res W) : Prop := ∀ (Wi : WX) (σ : L2.St) (g : Gh) (M : Store) (H : Hp) (ws : List W) (vs : List V) (Q : VK), Abs G g M H → RWs G g M H ws vs → Post G Wi (RW G) g M H σ (f ws M) Q → r vs H Q
theorem tCB_of {r : List V → Hp → VK → Prop} {f : List W → Store → Res W} {ss : List Sm} {Q : VK} (hs : ServesC G r f) (h : TEof G cu Wi (fun l M => (evEs ss l M).bind f) σ H Q) : tCB r (TAof G cu Wi (evEs ss)) σ H Q :=
  (TOf.bind (fa := evEs ss) (f := fun _ => f) (rel1 := RWs G) h).imp fun vs H1 ⟨g1, M1, l, ws, a1, r1, p⟩ => hs Wi σ g1 M1 H1 ws vs Q a1.abs r1 p

theorem RWs.one_inv {w : W} {vs : List V} (r : RWs G g M H [w] vs) : ∃ v, vs = [v] ∧ RW G g M H w v := by
  obtain ⟨v, r', rfl, h1, h2⟩ := r
  exact ⟨v, by rw [show r' = [] from h2], h1⟩
theorem RWs.two_inv {w x : W} {vs : List V} (r : RWs G g M H [w, x] vs) : ∃ v u, vs = [v, u] ∧ RW G g M H w v ∧ RW G g M H x u := by
  obtain ⟨v, r', rfl, h1, h2⟩ := r
  obtain ⟨u, rfl, h3⟩ := RWs.one_inv h2
  exact ⟨v, u, rfl, h1, h3⟩
theorem RWs.three_inv {w x y : W} {vs : List V} (r : RWs G g M H [w, x, y] vs) : ∃ v u z, vs = [v, u, z] ∧ RW G g M H w v ∧ RW G g M H x u ∧ RW G g M H y z := by
  obtain ⟨v, r', rfl, h1, h2⟩ := r
  obtain ⟨u, z, rfl, h3, h4⟩ := RWs.two_inv h2
  exact ⟨v, u, z, rfl, h1, h3, h4⟩
theorem bls_ok : ∀ {ws : List W} {bs : List Bool} {vs : List V}, blsOf ws = some bs → RWs G g M H ws vs → vs = bs.map V.bl
  | [], bs, vs, h, r => by cases h; exact r
  | w :: ws, bs, vs, h, r => by
    obtain ⟨v, r', rfl, h1, h2⟩ := r
    cases w <;> first | (cases h; done) | skip
    rename_i b
    simp only [blsOf, Option.map_eq_some_iff] at h
    obtain ⟨bs', h3, rfl⟩ := h
    rw [bls_ok h3 h2, show v = .bl b from h1]; rfl
theorem ints_ok : ∀ {ws : List W} {bs : List Int} {vs : List V}, intsOf ws = some bs → RWs G g M H ws vs → vs = bs.map V.int
  | [], bs, vs, h, r => by cases h; exact r
  | w :: ws, bs, vs, h, r => by
    obtain ⟨v, r', rfl, h1, h2⟩ := r
    cases w <;> first | (cases h; done) | skip
    rename_i b
    simp only [intsOf, Option.map_eq_some_iff] at h
    obtain ⟨bs', h3, rfl⟩ := h
    rw [ints_ok h3 h2, show v = .int b from h1]; rfl
theorem strs_ok : ∀ {ws : List W} {bs : List Str} {vs : List V}, strsOf ws = some bs → RWs G g M H ws vs → vs = bs.map V.str
  | [], bs, vs, h, r => by cases h; exact r
  | w :: ws, bs, vs, h, r => by
    obtain ⟨v, r', rfl, h1, h2⟩ := r
    cases w <;> first | (cases h; done) | skip
    rename_i b
    simp only [strsOf, Option.map_eq_some_iff] at h
    obtain ⟨bs', h3, rfl⟩ := h
    rw [strs_ok h3 h2, show v = .str b from h1]; rfl
/-- repr of data -/
def rRepr (K : PySem.W.Frag) : List V → Hp → VK → Prop := fun xs H Q => ∃ x d, xs = [x] ∧ Dp K H x d ∧ d.showable = true ∧ d.shown.length ≤ sizeLine ∧ d.hasDict = false ∧ d.depth ≤ 64 ∧ Q (.str d.shown) H
theorem call_reprD (hg : X.A.guards = some []) (hu : X.A.units + 200 < cLine) : CallR X (.builtin "repr") (rRepr X.K) := by
  intro pins s σ H xs us Q I r h
  obtain ⟨x, d, rfl, hd, hs, hz, hn, hp, q⟩ := h
  obtain ⟨u, rfl, rx⟩ := vals1 r
  obtain ⟨as, rd⟩ := Dp.reads I d x u hd rx
  cases rd with
  | none => exact PySem.P.repr_of_none ⟨.str _, H, I.tok _, ⟨_, rfl⟩, q⟩
  | bool b => exact PySem.P.repr_of_bool ⟨.str _, H, I.tok _, ⟨_, rfl⟩, by cases b <;> exact q⟩
  | int i t =>
    have hi : i.natAbs.log2 < 1920 := by simpa [PyData.showable] using hs
    exact PySem.P.repr_of_int hi ⟨.str _, H, I.tok _, ⟨_, rfl⟩, q⟩
  | str y t => exact PySem.P.repr_of_str ⟨.str _, H, I.tok _, ⟨_, rfl⟩, q⟩ hz
  | list h1 h2 h3 h4 =>
    exact repr_of_reads' (.list h1 h2 h3 h4) hs (fun z => by rw [hn] at z; cases z) hg (by omega) (fun _ _ e => e) (fun h' u tk k => ⟨.str _, H, I.kept (t' := tk) k, ⟨_, rfl⟩, q⟩) hz
  | tuple h1 h2 h3 h4 =>
    exact repr_of_reads' (.tuple h1 h2 h3 h4) hs (fun z => by rw [hn] at z; cases z) hg (by omega) (fun _ _ e => e) (fun h' u tk k => ⟨.str _, H, I.kept (t' := tk) k, ⟨_, rfl⟩, q⟩) hz
  | dict h1 h2 h3 h4 h5 => simp [PyData.hasDict] at hn
end
end PyI

namespace PyI
open PySem PySem.Spec PyProof.Rows L2
def rNoC : List V → Hp → VK → Prop := fun _ _ _ => False
/-- the rules of the built-in functions -/
def rBl (K : PySem.W.Frag) : Bl → List V → Hp → VK → Prop
  | .len => fun xs H Q => (∃ z, xs = [.str z] ∧ z.length ≤ sizeLine ∧ Q (.int z.length) H) ∨ (∃ p ys, xs = [.ref p] ∧ (SqL K H p ys ∨ SqT K H p ys) ∧ Q (.int ys.length) H) ∨ (∃ a kvs, xs = [V.ref a] ∧ H a = some (.dK kvs) ∧ Q (.int kvs.length) H)
  | .list => fun xs H Q => ∃ p ys, xs = [.ref p] ∧ (SqL K H p ys ∨ SqT K H p ys) ∧ ∀ l, H l = none → Q (.ref l) (upd H l (.lst ys))
  | .tuple => fun xs H Q => ∃ p ys, xs = [.ref p] ∧ ((SqL K H p ys ∧ ∀ l, H l = none → Q (.ref l) (upd H l (.tup ys))) ∨ (SqT K H p ys ∧ Q (.ref p) H))
  | .all => rAll K
  | .any => rAny K
  | .max => fun xs H Q => ∃ i j, xs = [.int i, .int j] ∧ Q (.int (if j > i then j else i)) H
  | .min => fun xs H Q => ∃ i j, xs = [.int i, .int j] ∧ Q (.int (if j < i then j else i)) H
  | .abs => fun xs H Q => ∃ i, xs = [.int i] ∧ Q (.int (if i < 0 then -i else i)) H
  | .divmod => fun xs H Q => ∃ i j, xs = [.int i, .int j] ∧ CDiv i j ∧ ∀ p, H p = none → Q (.ref p) (upd H p (.tup [.int (i / j), .int (i % j)]))
  | .int => fun xs H Q => ((∃ i, xs = [.int i] ∧ Q (.int i) H) ∨ ∃ k, xs = [.bl k] ∧ Q (.int (if k then 1 else 0)) H) ∨ (∃ a n, xs = [.str a] ∧ PySem.intText? a = some n ∧ a.length ≤ 640 ∧ Q (.int n) H)
  | .str => fun xs H Q => (∃ i, xs = [.int i] ∧ i.natAbs.log2 < 1920 ∧ Q (.str (toString i)) H) ∨ (∃ a, xs = [.str a] ∧ Q (.str a) H)
  | .repr => rRepr K
  | .sum => rSum K
def Bl.fn : Bl → Value
  | .list => .type "list" | .tuple => .type "tuple" | .int => .type "int" | .str => .type "str"
  | .len => .builtin "len" | .all => .builtin "all" | .any => .builtin "any" | .max => .builtin "max" | .min => .builtin "min" | .abs => .builtin "abs" | .divmod => .builtin "divmod" | .repr => .builtin "repr" | .sum => .builtin "sum"
/-- those that want a frame in which nothing is handled -/
def Bl.calm : Bl → Bool
  | .all | .any | .max | .min | .sum => true
  | _ => false
theorem call_bl {X : Cx} (hg : X.A.guards = some []) (hu : X.A.units + 200 < cLine) (b : Bl) (hc : b.calm = true → X.calm = true) : CallR X b.fn (rBl X.K b) := by
  cases b with
  | len => exact call_len_str.or (call_len_seq.or call_lenD)
  | list => exact call_list_of
  | tuple => exact call_tuple_of
  | all => exact cr_all (hc rfl)
  | any => exact cr_any (hc rfl)
  | max => exact call_max2 (hc rfl)
  | min => exact call_min2 (hc rfl)
  | abs => exact call_abs
  | divmod => exact call_divmod
  | int => exact call_int1.or call_int_str
  | str => exact call_str_int.or SkE.call_str_str
  | repr => exact call_reprD hg hu
  | sum => exact cr_sum (hc rfl)
section
variable {G : GE} {cu : Option Cu} {Wi : WX} {X : Cx} {g g' g1 : Gh} {M M' M1 : Store} {H H' H1 : Hp} {σ : L2.St} {l : LM}
theorem rBl_tup_of {ws : List W} {p : Addr} {vs : List V} {Q : VK} (a : Abs G g M H) (h : Post G Wi (RW G) g M H σ (.ok (.tup ws) M) Q) (r : RWs G g M H ws vs) (hp : H p = none) : Q (.ref p) (upd H p (.tup vs)) := by
  obtain ⟨a1, e1, r1⟩ := a.newTup hp r
  exact h _ _ _ a1 e1 r1
theorem serves_bl {b : Bl} {fz : Bool} : ServesC G (rBl G.K b) (bltW b fz) := by
  intro Wi σ g M H ws vs Q a r p
  match ws, r, p with
  | [], _, p => exact p.no.elim
  | _ :: _ :: _ :: _, _, p => exact p.no.elim
  | [w, x], r, p =>
    obtain ⟨v, u, rfl, h1, h2⟩ := r.two_inv
    cases w <;> first | exact p.no.elim | skip
    rename_i i
    cases x <;> first | exact p.no.elim | skip
    rename_i j
    rw [show v = .int i from h1, show u = .int j from h2]
    cases b <;> first | exact p.no.elim | skip
    · exact ⟨i, j, rfl, p.now a rfl⟩
    · exact ⟨i, j, rfl, p.now a rfl⟩
    · simp only [bltW, bl2] at p
      split at p
      · rename_i hc
        exact ⟨i, j, rfl, hc, fun q hq => rBl_tup_of a p (.cons rfl (.one rfl)) hq⟩
      · exact p.no.elim
  | [w], r, p =>
    obtain ⟨v, rfl, rw⟩ := r.one_inv
    cases b with
    | len =>
      have seqs : ∀ {w : W} {v : V}, RW G g M H w v → Post G Wi (RW G) g M H σ (match vD M w with
        | some (ks, _) => .ok (.int ks.length) M
        | none => need (vS M w) fun ws => .ok (.int ws.length) M) Q → rBl G.K .len [v] H Q := by
        intro w v rw p
        cases hd : vD M w with
        | some kv =>
          obtain ⟨ks, us⟩ := kv
          rw [hd] at p
          obtain ⟨q, kvs, rfl, h1, h2, h3⟩ := vD_ok a hd rw
          refine .inr (.inr ⟨q, kvs, rfl, h1, ?_⟩)
          have e : ks.length = kvs.length := by rw [← h2, List.length_map]
          rw [← e]
          exact p.now a rfl
        | none =>
          rw [hd] at p
          obtain ⟨us, hs, p⟩ := p.need
          obtain ⟨q, vs, rfl, h1, h2⟩ := vS_ok a hs rw
          refine .inr (.inl ⟨q, vs, rfl, h1, ?_⟩)
          rw [← h2.length]
          exact p.now a rfl
      cases w with
      | str x =>
        rw [show v = .str x from rw]
        simp only [bltW, bl1, lenW] at p
        split at p
        · rename_i hz
          exact .inl ⟨x, rfl, hz, p.now a rfl⟩
        · exact p.no.elim
      | _ => exact seqs rw p
    | list =>
      obtain ⟨us, hs, p⟩ := Post.need p
      obtain ⟨q, vs, rfl, h1, h2⟩ := vS_ok a hs rw
      exact ⟨q, vs, rfl, h1, fun l hl => Post.newL a h2 p hl⟩
    | tuple =>
      obtain ⟨us, hs, p2⟩ := Post.need p
      clear p
      cases w with
      | tup us' =>
        cases hs
        obtain ⟨q, vs, rfl, h1, h2⟩ := rw
        exact ⟨q, vs, rfl, .inr ⟨h1.sq, p2.now a ⟨q, vs, rfl, h1, h2⟩⟩⟩
      | lst us' =>
        obtain ⟨q, vs, rfl, h1, h2⟩ := vL_ok a (show vL M (.lst us') = some us from hs) rw
        exact ⟨q, vs, rfl, .inl ⟨.inl h1, fun l hl => rBl_tup_of a p2 h2 hl⟩⟩
      | ref n =>
        obtain ⟨q, vs, rfl, h1, h2⟩ := vL_ok a (show vL M (.ref n) = some us from hs) rw
        exact ⟨q, vs, rfl, .inl ⟨.inl h1, fun l hl => rBl_tup_of a p2 h2 hl⟩⟩
      | scr ns =>
        obtain ⟨q, rfl, h1⟩ := rw
        cases hs
        exact ⟨q, _, rfl, .inl ⟨h1.sq, fun l hl => rBl_tup_of a p2 (ints_rws ns) hl⟩⟩
      | _ => simp [vS] at hs
    | all =>
      obtain ⟨bs, hs, p⟩ := Post.need p
      unfold blsW at hs
      obtain ⟨us, h1, h2⟩ := Option.bind_eq_some_iff.mp hs
      obtain ⟨q, vs, rfl, h3, h4⟩ := vL_ok a h1 rw
      have e := bls_ok h2 h4
      subst e
      exact ⟨q, bs, rfl, .inl h3, p.now a rfl⟩
    | any =>
      obtain ⟨bs, hs, p⟩ := Post.need p
      unfold blsW at hs
      obtain ⟨us, h1, h2⟩ := Option.bind_eq_some_iff.mp hs
      obtain ⟨q, vs, rfl, h3, h4⟩ := vL_ok a h1 rw
      have e := bls_ok h2 h4
      subst e
      exact ⟨q, bs, rfl, .inl h3, p.now a rfl⟩
    | sum =>
      obtain ⟨bs, hs, p⟩ := Post.need p
      unfold intsW at hs
      obtain ⟨us, h1, h2⟩ := Option.bind_eq_some_iff.mp hs
      obtain ⟨q, vs, rfl, h3, h4⟩ := vL_ok a h1 rw
      have e := ints_ok h2 h4
      subst e
      exact ⟨q, bs, rfl, .inl h3, p.now a rfl⟩
    | repr =>
      obtain ⟨d, hd, p⟩ := Post.need p
      split at p
      · rename_i hc
        simp only [Bool.and_eq_true, decide_eq_true_eq, Bool.not_eq_true'] at hc
        obtain ⟨⟨⟨h1, h2⟩, h3⟩, h4⟩ := hc
        exact ⟨v, d, rfl, dataM_dp a hd rw, h1, h2, h3, h4, p.now a rfl⟩
      · exact p.no.elim
    | abs =>
      cases w <;> first | exact p.no.elim | skip
      rename_i i
      rw [show v = .int i from rw]
      exact ⟨i, rfl, p.now a rfl⟩
    | int =>
      cases w <;> first | exact p.no.elim | skip
      · rename_i b
        rw [show v = .bl b from rw]
        exact .inl (.inr ⟨b, rfl, p.now a rfl⟩)
      · rename_i i
        rw [show v = .int i from rw]
        exact .inl (.inl ⟨i, rfl, p.now a rfl⟩)
      · rename_i x
        rw [show v = .str x from rw]
        simp only [bltW, bl1, intW] at p
        split at p
        · rename_i hz
          obtain ⟨n, hn, p⟩ := p.need
          exact .inr ⟨x, n, rfl, hn, hz, p.now a rfl⟩
        · exact p.no.elim
    | str =>
      cases w <;> first | exact p.no.elim | skip
      · rename_i i
        rw [show v = .int i from rw]
        simp only [bltW, bl1, strW] at p
        split at p
        · rename_i hz
          exact .inl ⟨i, rfl, hz, p.now a rfl⟩
        · exact p.no.elim
      · rename_i x
        rw [show v = .str x from rw]
        exact .inr ⟨x, rfl, p.now a rfl⟩
    | _ => exact p.no.elim
end
end PyI

namespace PyI
open PySem PySem.Spec PyProof.Rows L2
section
variable {G : GE} {cu : Option Cu} {Wi : WX} {g g' g1 : Gh} {M M' M1 : Store} {H H' H1 : Hp} {σ : L2.St} {l : LM}
/-! ### the same values over other ghosts -/
def SameR (g g' : Gh) : Prop := ∀ (n : Nat) (a : Addr), g.R[n]? = some a → g'.R[n]? = some a
theorem StT.via {K : PySem.W.Frag} {a : Addr} {vs : List V} (hf : ∀ a, H a ≠ none → Fro g M a → Fro g' M' a) (h : StT K g M H a vs) : StT K g' M' H a vs := by
  rcases h with ⟨h, f⟩ | h
  · exact .inl ⟨h, hf _ (Rd.dom h) f⟩
  · exact .inr h
mutual
theorem RW.via (hf : ∀ a, H a ≠ none → Fro g M a → Fro g' M' a) : ∀ {w : W} {v : V}, (pureW w = true ∨ SameR g g') → RW G g M H w v → RW G g' M' H w v
  | .non, v, _, h => h
  | .bl b, v, _, h => h
  | .int i, v, _, h => h
  | .str x, v, _, h => h
  | .tup ws, v, p, h => by
    obtain ⟨a, vs, h1, h2, h3⟩ := h
    exact ⟨a, vs, h1, h2.via hf, RWs.via hf p h3⟩
  | .lst ws, v, p, h => by
    obtain ⟨a, vs, h1, h2, h3⟩ := h
    exact ⟨a, vs, h1, ⟨h2.1, hf _ (Rd.dom h2.1) h2.2⟩, RWs.via hf p h3⟩
  | .dct ks ws, v, p, h => by
    obtain ⟨a, kvs, h1, h2, h3, h4, h5⟩ := h
    exact ⟨a, kvs, h1, h2, hf _ (by rw [h2]; simp) h3, h4, RWs.via hf p h5⟩
  | .obj c ns ws, v, p, h => by
    obtain ⟨a, C, dx, fs, h1, h2, h3, h4, h5, h6⟩ := h
    exact ⟨a, C, dx, fs, h1, h2, h3, hf _ (by rw [h3]; simp) h4, h5, RWs.via hf p h6⟩
  | .ref n, v, p, h => by
    obtain ⟨a, h1, h2⟩ := h
    rcases p with p | p
    · cases p
    · exact ⟨a, p n a h1, h2⟩
  | .cls c, v, _, h => h
  | .typ n, v, _, h => h
  | .scr ns, v, _, h => by
    obtain ⟨a, h1, h2⟩ := h
    rcases h2 with ⟨h2, f⟩ | h2
    · exact ⟨a, h1, .inl ⟨h2, hf _ (Rd.dom h2) f⟩⟩
    · exact ⟨a, h1, .inr h2⟩
theorem RWs.via (hf : ∀ a, H a ≠ none → Fro g M a → Fro g' M' a) : ∀ {ws : List W} {vs : List V}, (pureWs ws = true ∨ SameR g g') → RWs G g M H ws vs → RWs G g' M' H ws vs
  | [], vs, _, h => h
  | w :: ws, vs, p, h => by
    obtain ⟨v, r, h1, h2, h3⟩ := h
    have p1 : pureW w = true ∨ SameR g g' := p.imp_left fun q => (Bool.and_eq_true_iff.mp q).1
    have p2 : pureWs ws = true ∨ SameR g g' := p.imp_left fun q => (Bool.and_eq_true_iff.mp q).2
    exact ⟨v, r, h1, RW.via hf p1 h2, RWs.via hf p2 h3⟩
end
theorem CellAt.via {a : Addr} {c : Con} (hf : ∀ a, H a ≠ none → Fro g M a → Fro g' M' a) (p : pureWs c.ws = true ∨ SameR g g') (h : CellAt G g M H a c) : CellAt G g' M' H a c := by
  cases c with
  | lst ws => obtain ⟨vs, h1, h2⟩ := h; exact ⟨vs, h1, h2.via hf p⟩
  | dct ks ws => obtain ⟨vs, h1, h2, h3⟩ := h; exact ⟨vs, h1, h2, h3.via hf p⟩
  | obj c ns ws => obtain ⟨C, dx, fs, h1, h2, h3, h4⟩ := h; exact ⟨C, dx, fs, h1, h2, h3, h4.via hf p⟩
theorem CellAt.frz {a : Addr} {c : Con} (f : Fro g M a) (h : CellAt G g M H a c) : RW G g M H c.frz (.ref a) := by
  cases c with
  | lst ws => obtain ⟨vs, h1, h2⟩ := h; exact ⟨a, vs, rfl, ⟨.of h1, f⟩, h2⟩
  | dct ks ws => obtain ⟨vs, h1, h2, h3⟩ := h; exact ⟨a, vs, rfl, h1, f, h2, h3⟩
  | obj c ns ws => obtain ⟨C, dx, fs, h1, h2, h3, h4⟩ := h; exact ⟨a, C, dx, fs, rfl, h1, h2, f, h3, h4⟩
theorem XR.via {c : Str} {ns : List Str} {ws : List W} {cls : Value} {d : Option Addr} (hf : ∀ a, H a ≠ none → Fro g M a → Fro g' M' a) (p : pureWs ws = true) (h : XR G g M H c ns ws cls d) : XR G g' M' H c ns ws cls d := by
  obtain ⟨C, dx, fs, h1, h2, h3, h4, h5, h6, h7⟩ := h
  refine ⟨C, dx, fs, h1, h2, h3, h4, hf _ (by rw [h4]; simp) h5, h6, fun f w q => ?_⟩
  obtain ⟨v, a, b⟩ := h7 f w q
  have pw : pureW w = true := by
    have key : ∀ {ns : List Str} {ws : List W}, pureWs ws = true → (ns.zip ws).lookup f = some w → pureW w = true := by
      intro ns
      induction ns with
      | nil => intro ws _ q; cases q
      | cons n ns ih =>
        intro ws p q
        cases ws with
        | nil => cases q
        | cons u us =>
          obtain ⟨p1, p2⟩ := Bool.and_eq_true_iff.mp p
          rw [List.zip_cons_cons, List.lookup_cons] at q
          split at q
          · cases q; exact p1
          · exact ih p2 q
    exact key p q
  exact ⟨v, a, b.via hf (.inl pw)⟩

/-! ### the cells handed over -/
theorem mapM_get {M : Store} : ∀ {ns : List Nat} {cs : List Cell}, (ns.mapM fun n => M[n]?) = some cs → cs.length = ns.length ∧ ∀ (j n : Nat), ns[j]? = some n → ∃ c, cs[j]? = some c ∧ M[n]? = some c
  | [], cs, h => by
    simp only [List.mapM_nil, Option.pure_def, Option.some.injEq] at h
    subst h
    exact ⟨rfl, fun j n q => by simp at q⟩
  | m :: ns, cs, h => by
    simp only [List.mapM_cons, Option.bind_eq_bind, Option.bind_eq_some_iff, Option.pure_def, Option.some.injEq] at h
    obtain ⟨c, h1, cs', h2, rfl⟩ := h
    obtain ⟨e, k⟩ := mapM_get h2
    refine ⟨by simp [e], fun j n q => ?_⟩
    cases j with
    | zero => simp at q; subst q; exact ⟨c, rfl, h1⟩
    | succ j => simpa using k j n (by simpa using q)
theorem putBack_length : ∀ (ns : List Nat) (cs : List Cell), (putBack M ns cs).length = M.length
  | [], cs => by cases cs <;> rfl
  | n :: ns, [] => rfl
  | n :: ns, c :: cs => by simp [putBack, putBack_length ns cs]
theorem putBack_out {i : Nat} : ∀ (ns : List Nat) (cs : List Cell), i ∉ ns → (putBack M ns cs)[i]? = M[i]?
  | [], cs, _ => by cases cs <;> rfl
  | n :: ns, [], _ => rfl
  | n :: ns, c :: cs, h => by
    simp only [List.mem_cons, not_or] at h
    rw [putBack, List.getElem?_set_ne (Ne.symm h.1), putBack_out ns cs h.2]
theorem putBack_in {j n : Nat} : ∀ (ns : List Nat) (cs : List Cell), ns.Nodup → cs.length = ns.length → ns[j]? = some n → n < M.length → (putBack M ns cs)[n]? = cs[j]?
  | [], cs, _, _, q, _ => by simp at q
  | m :: ns, [], _, e, _, _ => by simp at e
  | m :: ns, c :: cs, nd, e, q, hl => by
    obtain ⟨h1, h2⟩ := List.nodup_cons.mp nd
    cases j with
    | zero =>
      simp at q; subst q
      rw [putBack, List.getElem?_set_self (by rw [putBack_length]; exact hl)]
      rfl
    | succ j =>
      have q' : ns[j]? = some n := by simpa using q
      have hne : m ≠ n := fun e => h1 (e ▸ List.mem_of_getElem? q')
      rw [putBack, List.getElem?_set_ne hne, putBack_in ns cs h2 (by simpa using e) q' hl]
      simp

/-- the callee's ghosts: P the addresses of its own first cells, then those of the cells ns; nothing may lean on the caller's other live cells -/
def othersZ (g : Gh) (M : Store) (ns : List Nat) : List Addr := ((List.range M.length).filter fun i => decide (i ∉ ns) && (match M[i]? with | some c => c.live | none => false)).filterMap fun i => g.R[i]?
def subG (g : Gh) (M : Store) (ns : List Nat) (P : List Addr) : Gh := ⟨P ++ ns.filterMap (fun n => g.R[n]?), g.Z ++ othersZ g M ns⟩
theorem mem_othersZ {ns : List Nat} {a : Addr} : a ∈ othersZ g M ns ↔ ∃ i c, i ∉ ns ∧ M[i]? = some c ∧ c.live = true ∧ g.R[i]? = some a := by
  unfold othersZ
  simp only [List.mem_filterMap, List.mem_filter, List.mem_range, Bool.and_eq_true, decide_eq_true_eq]
  constructor
  · rintro ⟨i, ⟨hi, h1, h2⟩, h3⟩
    cases hc : M[i]? with
    | none => rw [hc] at h2; cases h2
    | some c => rw [hc] at h2; exact ⟨i, c, h1, hc, h2, h3⟩
  · rintro ⟨i, c, h1, h2, h3, h4⟩
    exact ⟨i, ⟨(List.getElem?_eq_some_iff.mp h2).1, h1, by rw [h2]; exact h3⟩, h4⟩
theorem fm_get {R : List Addr} : ∀ {ns : List Nat}, (∀ n ∈ ns, n < R.length) → (ns.filterMap (fun n => R[n]?)).length = ns.length ∧ ∀ (j n : Nat), ns[j]? = some n → (ns.filterMap (fun n => R[n]?))[j]? = R[n]?
  | [], _ => ⟨rfl, fun j n q => by simp at q⟩
  | m :: ns, h => by
    have hm : R[m]? = some (R[m]'(h m (by simp))) := List.getElem?_eq_getElem _
    obtain ⟨e, k⟩ := fm_get (R := R) (ns := ns) fun n hn => h n (by simp [hn])
    rw [List.filterMap_cons_some hm]
    refine ⟨by simp [e], fun j n q => ?_⟩
    cases j with
    | zero => simp at q; subst q; rw [hm]; rfl
    | succ j => simpa using k j n (by simpa using q)

/-- the cells ns are at hand -/
structure Take (M : Store) (ns : List Nat) (cs : List Cell) : Prop where
  nd : ns.Nodup
  len : cs.length = ns.length
  get : ∀ (j n : Nat), ns[j]? = some n → ∃ c, cs[j]? = some c ∧ M[n]? = some c
theorem Take.lt {ns : List Nat} {cs : List Cell} (T : Take M ns cs) : ∀ n ∈ ns, n < M.length := fun n hn => by
  obtain ⟨j, hj⟩ := List.mem_iff_getElem?.mp hn
  obtain ⟨c, _, h⟩ := T.get j n hj
  exact (List.getElem?_eq_some_iff.mp h).1
theorem Abs.inj (a : Abs G g M H) {i j : Nat} {p : Addr} (h1 : g.R[i]? = some p) (h2 : g.R[j]? = some p) : i = j := by
  exact (List.getElem?_inj (List.getElem?_eq_some_iff.mp h1).1 a.nd).mp (h1.trans h2.symm)
theorem Abs.at_ (a : Abs G g M H) {i : Nat} {c : Cell} (h : M[i]? = some c) : ∃ p, g.R[i]? = some p ∧ H p ≠ none := by
  have hi := (List.getElem?_eq_some_iff.mp h).1
  have e : g.R[i]? = some (g.R[i]'(by rw [a.len]; exact hi)) := List.getElem?_eq_getElem _
  refine ⟨_, e, fun q => a.cellNe q (List.mem_of_getElem? e)⟩
/-- the callee's cell j (behind the first m) -/
theorem subG_at {ns : List Nat} {cs : List Cell} {P : List Addr} (a : Abs G g M H) (T : Take M ns cs) {j n : Nat} (h : ns[j]? = some n) : (subG g M ns P).R[P.length + j]? = g.R[n]? := by
  have k := (fm_get (R := g.R) (ns := ns) fun n hn => by rw [a.len]; exact T.lt n hn).2 j n h
  show (P ++ ns.filterMap (fun n => g.R[n]?))[P.length + j]? = _
  rw [List.getElem?_append_right (by omega), Nat.add_sub_cancel_left, k]
theorem subG_len {ns : List Nat} {cs : List Cell} {P : List Addr} (a : Abs G g M H) (T : Take M ns cs) : (subG g M ns P).R.length = P.length + ns.length := by
  have k := (fm_get (R := g.R) (ns := ns) fun n hn => by rw [a.len]; exact T.lt n hn).1
  show (P ++ ns.filterMap (fun n => g.R[n]?)).length = _
  rw [List.length_append, k]

/-- what a call leaves: the cells ns as the callee left them, some of its cells taken over -/
theorem ran_core {ns : List Nat} {cs pre : List Cell} {P : List Addr} (a : Abs G g M H) (T : Take M ns cs) (hP : ∀ p ∈ P, H p = none) (hlP : pre.length = P.length) (ext : ∀ b o, H b = some o → H1 b = some o)
    (a' : Abs G g' M' H') (e : Evo (subG g M ns P) (pre ++ cs) H1 g' M' H') (hl : P.length + ns.length ≤ M'.length) (hp : ((M'.drop P.length).take ns.length).all pureC = true)
    (L : List (Addr × Cell)) (hL : ∀ q ∈ L, ∃ j : Nat, g'.R[j]? = some q.1 ∧ M'[j]? = some q.2 ∧ (j < P.length ∨ P.length + ns.length ≤ j) ∧ pureC q.2 = true) (hnd : (L.map (·.1)).Nodup) :
    Abs G ⟨g.R ++ L.map (·.1), g.Z⟩ (putBack M ns ((M'.drop P.length).take ns.length) ++ L.map (·.2)) H' ∧
    Evo g M H ⟨g.R ++ L.map (·.1), g.Z⟩ (putBack M ns ((M'.drop P.length).take ns.length) ++ L.map (·.2)) H' ∧
    (∀ b, b ∉ (subG g M ns P).Z → (∀ (j : Nat) (c : Cell), P.length ≤ j → j < P.length + ns.length → g'.R[j]? = some b → M'[j]? = some c → c.live = false) → (∀ q ∈ L, q.1 = b → q.2.live = false) →
      Fro ⟨g.R ++ L.map (·.1), g.Z⟩ (putBack M ns ((M'.drop P.length).take ns.length) ++ L.map (·.2)) b) := by
  have lt := T.lt
  obtain ⟨X, hR, hX⟩ := e.more
  have sl := subG_len (P := P) a T
  have csl : ((M'.drop P.length).take ns.length).length = ns.length := by rw [List.length_take, List.length_drop]; omega
  have pbl : (putBack M ns ((M'.drop P.length).take ns.length)).length = M.length := putBack_length _ _
  -- the callee's cells that are the caller's
  have gB : ∀ (j n : Nat), ns[j]? = some n → g'.R[P.length + j]? = g.R[n]? := fun j n h => by
    have hj := (List.getElem?_eq_some_iff.mp h).1
    rw [hR, List.getElem?_append_left (by rw [sl]; omega), subG_at a T h]
  have cB : ∀ (j n : Nat), ns[j]? = some n → (putBack M ns ((M'.drop P.length).take ns.length))[n]? = M'[P.length + j]? := fun j n h => by
    have hj := (List.getElem?_eq_some_iff.mp h).1
    rw [putBack_in ns _ T.nd csl h (lt n (List.mem_of_getElem? h)), List.getElem?_take_of_lt hj, List.getElem?_drop]
  have preB : ∀ (j n : Nat), ns[j]? = some n → (pre ++ cs)[P.length + j]? = M[n]? := fun j n h => by
    obtain ⟨c, h1, h2⟩ := T.get j n h
    rw [List.getElem?_append_right (by omega), hlP, Nat.add_sub_cancel_left, h1, h2]
  -- addresses of the callee's first cells
  have subAt : ∀ {i : Nat} {b : Addr} {c : Cell}, (subG g M ns P).R[i]? = some b → (pre ++ cs)[i]? = some c → H b = none ∨ ∃ (j n : Nat), ns[j]? = some n ∧ g.R[n]? = some b ∧ M[n]? = some c := fun {i b c} h1 h2 => by
    by_cases hi : i < P.length
    · have : (P ++ ns.filterMap (fun n => g.R[n]?))[i]? = some b := h1
      rw [List.getElem?_append_left hi] at this
      exact .inl (hP _ (List.mem_of_getElem? this))
    · have hi2 : i < P.length + ns.length := by rw [← sl]; exact (List.getElem?_eq_some_iff.mp h1).1
      obtain ⟨j, rfl⟩ : ∃ j, i = P.length + j := ⟨i - P.length, by omega⟩
      have hj : j < ns.length := by omega
      have hn : ns[j]? = some ns[j] := List.getElem?_eq_getElem hj
      rw [subG_at a T hn] at h1
      rw [preB j _ hn] at h2
      exact .inr ⟨j, _, hn, h1, h2⟩
  have hLn : ∀ q ∈ L, H q.1 = none := fun q hq => by
    obtain ⟨j, h1, h2, h3, h4⟩ := hL q hq
    rw [hR] at h1
    rcases h3 with h3 | h3
    · rw [List.getElem?_append_left (by rw [sl]; omega)] at h1
      have : (P ++ ns.filterMap (fun n => g.R[n]?))[j]? = some q.1 := h1
      rw [List.getElem?_append_left h3] at this
      exact hP _ (List.mem_of_getElem? this)
    · rw [List.getElem?_append_right (by rw [sl]; omega)] at h1
      have := hX _ (List.mem_of_getElem? h1)
      cases q1 : H q.1 with
      | none => rfl
      | some o => rw [ext _ _ q1] at this; cases this
  have ev : Evo g M H ⟨g.R ++ L.map (·.1), g.Z⟩ (putBack M ns ((M'.drop P.length).take ns.length) ++ L.map (·.2)) H' := by
    refine ⟨⟨L.map (·.1), rfl, fun b hb => ?_⟩, rfl, by rw [List.length_append, pbl]; omega, fun i c h1 h2 => ?_, fun b o h1 h2 => ?_, fun b h => ?_⟩
    · obtain ⟨q, hq, rfl⟩ := List.mem_map.mp hb
      exact hLn q hq
    · have hi := (List.getElem?_eq_some_iff.mp h1).1
      rw [List.getElem?_append_left (by rw [pbl]; exact hi)]
      by_cases hn : i ∈ ns
      · obtain ⟨j, hj⟩ := List.mem_iff_getElem?.mp hn
        rw [cB j i hj]
        exact e.dead _ c (by rw [preB j i hj]; exact h1) h2
      · rw [putBack_out _ _ hn]; exact h1
    · refine e.keep b o (ext _ _ h1) fun i c q1 q2 => ?_
      rcases subAt q1 q2 with z | ⟨j, n, h3, h4, h5⟩
      · rw [z] at h1; cases h1
      · exact h2 n c h4 h5
    · refine e.dom b ?_
      cases q : H b with
      | none => exact absurd q h
      | some o => rw [ext _ _ q]; simp
  have fro : ∀ b, b ∉ (subG g M ns P).Z → (∀ (j : Nat) (c : Cell), P.length ≤ j → j < P.length + ns.length → g'.R[j]? = some b → M'[j]? = some c → c.live = false) → (∀ q ∈ L, q.1 = b → q.2.live = false) →
      Fro ⟨g.R ++ L.map (·.1), g.Z⟩ (putBack M ns ((M'.drop P.length).take ns.length) ++ L.map (·.2)) b := fun b h1 h2 h3 => by
    refine ⟨fun h => h1 (List.mem_append_left _ h), fun i c q1 q2 => ?_⟩
    by_cases hi : i < M.length
    · rw [List.getElem?_append_left (by rw [pbl]; exact hi)] at q2
      have q1 : (g.R ++ L.map (·.1))[i]? = some b := q1
      rw [List.getElem?_append_left (by rw [a.len]; exact hi)] at q1
      by_cases hn : i ∈ ns
      · obtain ⟨j, hj⟩ := List.mem_iff_getElem?.mp hn
        have hj2 := (List.getElem?_eq_some_iff.mp hj).1
        rw [cB j i hj] at q2
        exact h2 _ c (by omega) (by omega) (by rw [gB j i hj]; exact q1) q2
      · rw [putBack_out _ _ hn] at q2
        cases hc : c.live with
        | false => rfl
        | true => exact absurd (List.mem_append_right _ (mem_othersZ.mpr ⟨i, c, hn, q2, hc, q1⟩)) h1
    · rw [List.getElem?_append_right (by rw [pbl]; omega), pbl] at q2
      have q1 : (g.R ++ L.map (·.1))[i]? = some b := q1
      rw [List.getElem?_append_right (by rw [a.len]; omega), a.len] at q1
      simp only [List.getElem?_map, Option.map_eq_some_iff] at q1 q2
      obtain ⟨q, hq, e1⟩ := q1
      obtain ⟨q', hq', e2⟩ := q2
      rw [hq] at hq'
      cases hq'
      rw [← e2]
      exact h3 q (List.mem_of_getElem? hq) e1
  have fro' : ∀ b, Fro g' M' b → Fro ⟨g.R ++ L.map (·.1), g.Z⟩ (putBack M ns ((M'.drop P.length).take ns.length) ++ L.map (·.2)) b := fun b h => by
    refine fro b (by rw [← e.zs]; exact h.1) (fun j c _ _ q1 q2 => h.2 j c q1 q2) fun q hq h1 => ?_
    obtain ⟨j, q1, q2, _⟩ := hL q hq
    exact h.2 j _ (by rw [q1, h1]) q2
  refine ⟨⟨by simp [a.len, pbl], ?_, fun z hz => ?_, fun z hz => ev.dom z (a.zd z hz), fun i c p h1 h2 => ?_⟩, ev, fro⟩
  · refine List.nodup_append.mpr ⟨a.nd, hnd, fun x hx y hy q => ?_⟩
    obtain ⟨q', hq, e1⟩ := List.mem_map.mp hy
    have hn := hLn q' hq
    rw [e1, ← q] at hn
    exact a.cellNe hn hx
  · intro hm
    rcases List.mem_append.mp hm with h | h
    · exact a.nz z hz h
    · obtain ⟨q, hq, e1⟩ := List.mem_map.mp h
      exact a.zd z hz (e1 ▸ hLn q hq)
  · by_cases hi : i < M.length
    · rw [List.getElem?_append_left (by rw [pbl]; exact hi)] at h1
      have h2 : (g.R ++ L.map (·.1))[i]? = some p := h2
      rw [List.getElem?_append_left (by rw [a.len]; exact hi)] at h2
      by_cases hn : i ∈ ns
      · obtain ⟨j, hj⟩ := List.mem_iff_getElem?.mp hn
        have hj2 := (List.getElem?_eq_some_iff.mp hj).1
        have k1 : M'[P.length + j]? = some c := by rw [← cB j i hj]; exact h1
        have k2 : g'.R[P.length + j]? = some p := by rw [gB j i hj]; exact h2
        have hpc : pureC c = true := by
          refine List.all_eq_true.mp hp c (List.mem_iff_getElem?.mpr ⟨j, ?_⟩)
          rw [List.getElem?_take_of_lt hj2, List.getElem?_drop]; exact k1
        exact (a'.cell _ c p k1 k2).via (fun b _ => fro' b) (.inl hpc)
      · rw [putBack_out _ _ hn] at h1
        refine (a.cell i c p h1 h2).evo a.len ev fun o ho => ?_
        refine e.keep p o (ext _ _ ho) fun i' c' q1 q2 => ?_
        rcases subAt q1 q2 with z | ⟨j, n, h3, h4, h5⟩
        · rw [z] at ho; cases ho
        · exact absurd (List.mem_of_getElem? h3) (by rw [a.inj h4 h2]; exact hn)
    · rw [List.getElem?_append_right (by rw [pbl]; omega), pbl] at h1
      have h2 : (g.R ++ L.map (·.1))[i]? = some p := h2
      rw [List.getElem?_append_right (by rw [a.len]; omega), a.len] at h2
      simp only [List.getElem?_map, Option.map_eq_some_iff] at h1 h2
      obtain ⟨q, hq, e1⟩ := h2
      obtain ⟨q', hq', e2⟩ := h1
      rw [hq] at hq'
      cases hq'
      obtain ⟨j, k1, k2, _, k3⟩ := hL q (List.mem_of_getElem? hq)
      rw [← e1, ← e2]
      exact (a'.cell j _ _ k2 k1).via (fun b _ => fro' b) (.inl k3)

theorem nodup_fm {R : List Addr} (nd : R.Nodup) : ∀ {ns : List Nat}, ns.Nodup → (ns.filterMap (fun n => R[n]?)).Nodup
  | [], _ => by simp
  | n :: ns, h => by
    obtain ⟨h1, h2⟩ := List.nodup_cons.mp h
    cases q : R[n]? with
    | none => rw [List.filterMap_cons_none q]; exact nodup_fm nd h2
    | some p =>
      rw [List.filterMap_cons_some q]
      refine List.nodup_cons.mpr ⟨fun hm => ?_, nodup_fm nd h2⟩
      obtain ⟨i, hi, e⟩ := List.mem_filterMap.mp hm
      have : n = i := (List.getElem?_inj (List.getElem?_eq_some_iff.mp q).1 nd).mp (q.trans e.symm)
      exact h1 (this ▸ hi)
/-- the callee's world at its start -/
theorem sub_fro {ns : List Nat} {cs pre : List Cell} {P : List Addr} (a : Abs G g M H) (T : Take M ns cs) (hP : ∀ p ∈ P, H p = none) (hlP : pre.length = P.length) {b : Addr} (hb : H b ≠ none) (f : Fro g M b) : Fro (subG g M ns P) (pre ++ cs) b := by
  refine ⟨fun h => ?_, fun i c h1 h2 => ?_⟩
  · rcases List.mem_append.mp h with h | h
    · exact f.1 h
    · obtain ⟨i, c, _, q2, q3, q4⟩ := mem_othersZ.mp h
      rw [f.2 i c q4 q2] at q3
      cases q3
  · by_cases hi : i < P.length
    · have : (P ++ ns.filterMap (fun n => g.R[n]?))[i]? = some b := h1
      rw [List.getElem?_append_left hi] at this
      exact absurd (hP _ (List.mem_of_getElem? this)) hb
    · have hi2 : i < P.length + ns.length := by rw [← subG_len a T]; exact (List.getElem?_eq_some_iff.mp h1).1
      obtain ⟨j, rfl⟩ : ∃ j, i = P.length + j := ⟨i - P.length, by omega⟩
      have hj : j < ns.length := by omega
      have hn : ns[j]? = some ns[j] := List.getElem?_eq_getElem hj
      rw [subG_at a T hn] at h1
      obtain ⟨c', k1, k2⟩ := T.get j _ hn
      rw [List.getElem?_append_right (by omega), hlP, Nat.add_sub_cancel_left, k1] at h2
      cases h2
      exact f.2 _ c h1 k2
theorem evo_ext (ext : ∀ b o, H b = some o → H1 b = some o) : Evo g M H g M H1 := ⟨⟨[], by simp, by simp⟩, rfl, Nat.le_refl _, fun _ _ h _ => h, fun b o h _ => ext b o h, fun b h => by
  cases q : H b with
  | none => exact absurd q h
  | some o => rw [ext _ _ q]; simp⟩
theorem sub_abs {ns : List Nat} {cs pre : List Cell} {P : List Addr} (a : Abs G g M H) (T : Take M ns cs) (hpc : cs.all pureC = true) (hP : ∀ p ∈ P, H p = none) (hPn : P.Nodup) (hlP : pre.length = P.length) (ext : ∀ b o, H b = some o → H1 b = some o)
    (hpre : ∀ (i : Nat) (c : Cell) (p : Addr), pre[i]? = some c → P[i]? = some p → CellAt G (subG g M ns P) (pre ++ cs) H1 p c.con) : Abs G (subG g M ns P) (pre ++ cs) H1 := by
  have len : (subG g M ns P).R.length = (pre ++ cs).length := by rw [subG_len a T, List.length_append, hlP, T.len]
  have dom : ∀ b, H b ≠ none → H1 b ≠ none := (evo_ext (g := g) (M := M) ext).dom
  have atI : ∀ {i : Nat} {p : Addr}, i ∈ ns → g.R[i]? = some p → H p ≠ none := fun {i p} hi h => by
    obtain ⟨j, hj⟩ := List.mem_iff_getElem?.mp hi
    obtain ⟨c, _, h2⟩ := T.get j i hj
    obtain ⟨q, h3, h4⟩ := a.at_ h2
    rw [h] at h3; cases h3; exact h4
  refine ⟨len, List.nodup_append.mpr ⟨hPn, nodup_fm a.nd T.nd, fun x hx y hy q => ?_⟩, fun z hz hm => ?_, fun z hz => dom z ?_, fun i c p h1 h2 => ?_⟩
  · obtain ⟨i, hi, e⟩ := List.mem_filterMap.mp hy
    exact atI hi (q ▸ e) (hP x hx)
  · rcases List.mem_append.mp hz with h | h
    · rcases List.mem_append.mp hm with k | k
      · exact a.zd z h (hP z k)
      · obtain ⟨i, hi, e⟩ := List.mem_filterMap.mp k
        exact a.nz z h (List.mem_of_getElem? e)
    · obtain ⟨i, c, q1, q2, q3, q4⟩ := mem_othersZ.mp h
      rcases List.mem_append.mp hm with k | k
      · obtain ⟨p', h3, h4⟩ := a.at_ q2
        rw [q4] at h3; cases h3
        exact h4 (hP z k)
      · obtain ⟨i', hi, e⟩ := List.mem_filterMap.mp k
        exact q1 (a.inj e q4 ▸ hi)
  · rcases List.mem_append.mp hz with h | h
    · exact a.zd z h
    · obtain ⟨i, c, q1, q2, q3, q4⟩ := mem_othersZ.mp h
      obtain ⟨p', h3, h4⟩ := a.at_ q2
      rw [q4] at h3; cases h3
      exact h4
  · by_cases hi : i < P.length
    · rw [List.getElem?_append_left (by omega)] at h1
      have h2 : (P ++ ns.filterMap (fun n => g.R[n]?))[i]? = some p := h2
      rw [List.getElem?_append_left hi] at h2
      exact hpre i c p h1 h2
    · have hi2 : i < P.length + ns.length := by rw [← subG_len a T]; exact (List.getElem?_eq_some_iff.mp h2).1
      obtain ⟨j, rfl⟩ : ∃ j, i = P.length + j := ⟨i - P.length, by omega⟩
      have hj : j < ns.length := by omega
      have hn : ns[j]? = some ns[j] := List.getElem?_eq_getElem hj
      rw [subG_at a T hn] at h2
      obtain ⟨c', k1, k2⟩ := T.get j _ hn
      rw [List.getElem?_append_right (by omega), hlP, Nat.add_sub_cancel_left, k1] at h1
      cases h1
      have pc : pureC c = true := List.all_eq_true.mp hpc c (List.mem_of_getElem? k1)
      have C1 : CellAt G (subG g M ns P) (pre ++ cs) H p c.con := (a.cell _ c p k2 h2).via (fun b hb f => sub_fro a T hP hlP hb f) (.inl pc)
      exact C1.evo len (evo_ext ext) (ext p)
theorem args_ok {ns : List Nat} {cs pre : List Cell} {P : List Addr} (a : Abs G g M H) (T : Take M ns cs) (hP : ∀ p ∈ P, H p = none) (hlP : pre.length = P.length) (ext : ∀ b o, H b = some o → H1 b = some o) :
    ∀ {ws : List W} {xs : List V} (ms : List Nat), ns = ms ++ refsOf ws → (ws.all fun v => isRef v || pureW v) = true → RWs G g M H ws xs → RWs G (subG g M ns P) (pre ++ cs) H1 (renum (P.length + ms.length) ws) xs
  | [], xs, ms, _, _, h => h
  | w :: ws, xs, ms, e, p, h => by
    obtain ⟨v, r, h1, h2, h3⟩ := h
    have len : (subG g M ns P).R.length = (pre ++ cs).length := by rw [subG_len a T, List.length_append, hlP, T.len]
    rw [List.all_cons, Bool.and_eq_true] at p
    have pure' : isRef w = false → ∃ v r, xs = v :: r ∧ RW G (subG g M ns P) (pre ++ cs) H1 w v ∧ RWs G (subG g M ns P) (pre ++ cs) H1 (renum (P.length + ms.length) ws) r := fun hw => by
      have pw : pureW w = true := by have := p.1; rw [hw] at this; exact this
      have e2 : ns = ms ++ refsOf ws := by rw [e]; cases w <;> first | rfl | cases hw
      exact ⟨v, r, h1, (h2.via (fun b hb f => sub_fro a T hP hlP hb f) (.inl pw)).evo len (evo_ext ext), args_ok a T hP hlP ext ms e2 p.2 h3⟩
    cases w with
    | ref n =>
      have e2 : ns = (ms ++ [n]) ++ refsOf ws := by rw [e, List.append_assoc]; rfl
      have k := args_ok a T hP hlP ext (ms ++ [n]) e2 p.2 h3
      rw [List.length_append, List.length_singleton, ← Nat.add_assoc] at k
      obtain ⟨q, h4, h5⟩ := h2
      refine ⟨v, r, h1, ⟨q, ?_, h5⟩, k⟩
      have hn : ns[ms.length]? = some n := by rw [e, List.getElem?_append_right (Nat.le_refl _)]; simp [refsOf]
      rw [subG_at a T hn]; exact h4
    | non => exact pure' rfl
    | bl b => exact pure' rfl
    | int b => exact pure' rfl
    | str b => exact pure' rfl
    | tup b => exact pure' rfl
    | lst b => exact pure' rfl
    | dct k b => exact pure' rfl
    | obj c k b => exact pure' rfl
    | cls b => exact pure' rfl
    | typ b => exact pure' rfl
    | scr b => exact pure' rfl
end
end PyI

namespace PyI
open PySem PySem.Spec PyProof.Rows L2
section
variable {G : GE} {cu : Option Cu} {Wi : WX} {g g' g1 : Gh} {M M' M1 : Store} {H H' H1 : Hp} {σ : L2.St} {l : LM}
/-! ### references opened -/
def killOut (m hi : Nat) (M : Store) : Store := M.mapIdx fun i c => if m ≤ i ∧ i < hi then c else ⟨false, c.con⟩
theorem killOut_get {m hi i : Nat} {c : Cell} (h : (killOut m hi M)[i]? = some c) : (m ≤ i ∧ i < hi ∧ M[i]? = some c) ∨ (¬ (m ≤ i ∧ i < hi) ∧ c.live = false) := by
  unfold killOut at h
  rw [List.getElem?_mapIdx, Option.map_eq_some_iff] at h
  obtain ⟨c', h1, h2⟩ := h
  split at h2
  · rename_i q
    subst h2
    exact .inl ⟨q.1, q.2, h1⟩
  · rename_i q
    subst h2
    exact .inr ⟨q, rfl⟩
theorem killOut_at {m hi i : Nat} (h : m ≤ i ∧ i < hi) : (killOut m hi M)[i]? = M[i]? := by
  unfold killOut
  rw [List.getElem?_mapIdx]
  cases M[i]? with
  | none => rfl
  | some c => simp [h]
theorem fro_kill {m k : Nat} {b : Addr} (h : Fro g M b) : Fro g (killOut m k M) b := ⟨h.1, fun i c h1 h2 => by
  rcases killOut_get h2 with ⟨_, _, q⟩ | ⟨_, q⟩
  · exact h.2 i c h1 q
  · exact q⟩
mutual
theorem openW_ok {m k : Nat} (a : Abs G g M H) : ∀ {w : W} {v : V}, RW G g (killOut m k M) H w v → RW G g (killOut m k M) H (openW M k w) v
  | .non, v, h => h
  | .bl b, v, h => h
  | .int i, v, h => h
  | .str x, v, h => h
  | .tup ws, v, h => by
    obtain ⟨p, vs, h1, h2, h3⟩ := h
    exact ⟨p, vs, h1, h2, openWs_ok a h3⟩
  | .lst ws, v, h => by
    obtain ⟨p, vs, h1, h2, h3⟩ := h
    exact ⟨p, vs, h1, h2, openWs_ok a h3⟩
  | .ref n, v, h => by
    unfold openW
    split
    · rename_i hk
      cases hc : M[n]? with
      | none => exact h
      | some c =>
        obtain ⟨p, h1, rfl⟩ := h
        refine ((a.cell n c p hc h1).via (fun b _ f => fro_kill f) (.inr fun _ _ q => q)).frz ⟨fun hz => a.nz p hz (List.mem_of_getElem? h1), fun i c' q1 q2 => ?_⟩
        rw [a.inj q1 h1] at q2
        rcases killOut_get q2 with ⟨_, q, _⟩ | ⟨_, q⟩
        · omega
        · exact q
    · exact h
  | .dct ks ws, v, h => by
    obtain ⟨p, kvs, h1, h2, h3, h4, h5⟩ := h
    exact ⟨p, kvs, h1, h2, h3, h4, openWs_ok a h5⟩
  | .obj c ns ws, v, h => by
    obtain ⟨p, C, dx, fs, h1, h2, h3, h4, h5, h6⟩ := h
    exact ⟨p, C, dx, fs, h1, h2, h3, h4, h5, openWs_ok a h6⟩
  | .cls c, v, h => h
  | .typ n, v, h => h
  | .scr ns, v, h => h
theorem openWs_ok {m k : Nat} (a : Abs G g M H) : ∀ {ws : List W} {vs : List V}, RWs G g (killOut m k M) H ws vs → RWs G g (killOut m k M) H (openWs M k ws) vs
  | [], vs, h => h
  | w :: ws, vs, h => by
    obtain ⟨v, r, h1, h2, h3⟩ := h
    exact ⟨v, r, h1, openW_ok a h2, openWs_ok a h3⟩
end

/-! ### what a def promises -/
def PostF (G : GE) (g : Gh) (M : Store) (H : Hp) (r : Res W) (Q : VK) (E : XK) : Prop := Post G (fun c d _ H => E c d H) (RW G) g M H ([] : L2.St) r Q
/-- the promise of a def that means sem on n values -/
def spOf (G : GE) (n : Nat) (sem : List W → Store → Res W) : Sp := fun xs H Q E => ∃ g M ws, Abs G g M H ∧ RWs G g M H ws xs ∧ ws.length = n ∧ PostF G g M H (sem ws M) Q E
theorem refsOf_renum : ∀ {ws : List W} {k : Nat}, (renum k ws).length = ws.length
  | [], _ => rfl
  | w :: ws, k => by cases w <;> simp [renum, refsOf_renum (ws := ws)]
/-- an answer taken over, the callee's first cells its own (P), then the caller's cells ns -/
theorem take_ok {fz : Bool} {ns : List Nat} {cs : List Cell} {w : W} {v : V} {Q : VK} (a : Abs G g M H) (T : Take M ns cs)
    (a' : Abs G g' M' H') (e : Evo (subG g M ns []) cs H g' M' H') (hl : ns.length ≤ M'.length) (hp : (M'.take ns.length).all pureC = true) (r : RW G g' M' H' w v)
    (h : Post G Wi (RW G) g M H σ (takeW fz ns w M' (putBack M ns (M'.take ns.length))) Q) : Q v H' := by
  have core0 := ran_core (pre := []) (P := []) a T (by simp) rfl (fun _ _ q => q) a' e (by simpa using hl) (by simpa using hp) [] (by simp) (by simp)
  simp only [List.map_nil, List.append_nil, List.length_nil, List.drop_zero, Nat.zero_add] at core0
  obtain ⟨a2, e2, f2⟩ := core0
  have gh : (⟨g.R, g.Z⟩ : Gh) = g := rfl
  rw [gh] at a2 e2 f2
  have fro : ∀ b, Fro g' M' b → Fro g (putBack M ns (M'.take ns.length)) b := fun b f => f2 b (by have := f.1; rw [e.zs] at this; exact this) (fun j c _ _ q1 q2 => f.2 j c q1 q2) (by simp)
  have froK : ∀ b, Fro g' (killOut 0 ns.length M') b → Fro g (putBack M ns (M'.take ns.length)) b := fun b f => f2 b (by have := f.1; rw [e.zs] at this; exact this) (fun j c _ hj q1 q2 => f.2 j c q1 (by
    rw [killOut_at ⟨Nat.zero_le _, hj⟩]; exact q2)) (by simp)
  unfold takeW at h
  split at h
  · rename_i hw
    exact h g v H' a2 e2 (r.via (fun b _ f => fro b f) (.inl hw))
  · split at h
    · simp only at h
      split at h
      · rename_i hw
        exact h g v H' a2 e2 ((openW_ok a' (openW_ok a' (r.via (fun b _ f => fro_kill f) (.inr fun _ _ q => q)))).via (fun b _ f => froK b f) (.inl hw))
      · exact h.elim
    · cases w with
      | ref j =>
        obtain ⟨p, h1, rfl⟩ := r
        simp only at h
        split at h
        · rename_i n hn
          refine h g _ H' a2 e2 ⟨p, ?_, rfl⟩
          have hj : j < (subG g M ns []).R.length := by
            rw [subG_len a T]
            have := (List.getElem?_eq_some_iff.mp hn).1
            simpa using this
          obtain ⟨X, hR, _⟩ := e.more
          rw [hR, List.getElem?_append_left hj] at h1
          have := subG_at (P := []) a T hn
          rw [List.length_nil, Nat.zero_add] at this
          rw [← this]; exact h1
        · rename_i hn
          obtain ⟨c, hc, h⟩ := h.need
          split at h
          · rename_i hpc
            have hj : ns.length ≤ j := by
              by_cases q : j < ns.length
              · rw [List.getElem?_eq_getElem q] at hn; cases hn
              · omega
            have core1 := ran_core (pre := []) (P := []) a T (by simp) rfl (fun _ _ q => q) a' e (by simpa using hl) (by simpa using hp) [(p, c)]
              (by simp only [List.mem_singleton, forall_eq]; exact ⟨j, h1, hc, .inr (by simpa using hj), hpc⟩) (by simp)
            simp only [List.map_cons, List.map_nil, List.length_nil, List.drop_zero, Nat.zero_add] at core1
            obtain ⟨a3, e3, f3⟩ := core1
            refine h _ _ _ a3 e3 ⟨p, ?_, rfl⟩
            show (g.R ++ [p])[(putBack M ns (M'.take ns.length)).length]? = some p
            rw [putBack_length, ← a.len]
            simp
          · exact h.elim
      | _ => exact h.elim
/-- a call of a def: its promise from the caller's reading -/
theorem call_pass {n : Nat} {sem : List W → Store → Res W} {fz : Bool} {ws : List W} {xs : List V} {Q : VK} (a : Abs G g M H) (r : RWs G g M H ws xs) (hn : ws.length = n) (h : Post G Wi (RW G) g M H σ (callW sem fz ws M) Q) :
    spOf G n sem xs H Q (fun c d H' => Wi c d σ H') := by
  unfold callW at h
  simp only at h
  obtain ⟨cs, hm, h⟩ := h.need
  split at h
  · rename_i hc
    obtain ⟨h1, h2, h3⟩ := hc
    obtain ⟨l1, l2⟩ := mapM_get hm
    have T : Take M (refsOf ws) cs := ⟨h1, l1, l2⟩
    have A0 := sub_abs (pre := []) (P := []) a T h2 (by simp) (by simp) rfl (fun _ _ q => q) (by simp)
    have r0 := args_ok (pre := []) (P := []) a T (by simp) rfl (fun _ _ q => q) [] (by simp) h3 r
    simp only [List.nil_append, List.length_nil, Nat.zero_add] at A0 r0
    refine ⟨subG g M (refsOf ws) [], cs, renum 0 ws, A0, r0, by rw [refsOf_renum]; exact hn, ?_⟩
    cases hs : sem (renum 0 ws) cs with
    | err => rw [hs] at h; exact h.elim
    | ok w M' =>
      rw [hs] at h
      simp only at h
      split at h
      · rename_i hk
        exact fun g' v H' a' e' rv => take_ok a T a' e' hk.1 hk.2 rv h
      · exact h.elim
    | exc c ns us M' =>
      rw [hs] at h
      simp only at h
      split at h
      · rename_i hk
        intro g' cls d H' a' e' rx
        have core0 := ran_core (pre := []) (P := []) a T (by simp) rfl (fun _ _ q => q) a' e' (by simpa using hk.1) (by simpa using hk.2.1) [] (by simp) (by simp)
        simp only [List.map_nil, List.append_nil, List.length_nil, List.drop_zero, Nat.zero_add] at core0
        obtain ⟨a2, e2, f2⟩ := core0
        exact h g cls d H' a2 e2 (rx.via (fun b _ f => f2 b (by have := f.1; rw [e'.zs] at this; exact this) (fun j c _ _ q1 q2 => f.2 j c q1 q2) (by simp)) hk.2.2)
      · exact h.elim
  · exact h.elim

/-- a class made -/
theorem make_pass {sem : List W → Store → Res W} {c : Str} {C x dx : Addr} {fz : Bool} {ws : List W} {xs : List V} {Q : VK} (a : Abs G g M H) (r : RWs G g M H ws xs) (hC : G.cA c = some C) (hx : H x = none) (hdx : H dx = none) (hne : dx ≠ x)
    (h : Post G Wi (RW G) g M H σ (makeW sem c fz ws M) Q) :
    spOf G (ws.length + 1) sem (.ref x :: xs) (upd (upd H dx (.own x)) x (.ins C dx [])) (fun v H2 => v = .non ∧ Q (.ref x) H2) (fun c d H' => Wi c d σ H') := by
  unfold makeW at h
  simp only at h
  obtain ⟨cs, hm, h⟩ := h.need
  split at h
  · rename_i hc
    obtain ⟨h1, h2, h3⟩ := hc
    obtain ⟨l1, l2⟩ := mapM_get hm
    have T : Take M (refsOf ws) cs := ⟨h1, l1, l2⟩
    have ext : ∀ b o, H b = some o → upd (upd H dx (.own x)) x (.ins C dx []) b = some o := fun b o q => by
      rw [upd_ne (ne_of_none q hx), upd_ne (ne_of_none q hdx)]; exact q
    have hP : ∀ p ∈ [x], H p = none := by simpa using hx
    have A0 := sub_abs (pre := [⟨true, .obj c [] []⟩]) (P := [x]) a T h2 hP (by simp) rfl ext (fun i c' p q1 q2 => by
      cases i with
      | zero =>
        simp at q1 q2
        subst q1 q2
        exact ⟨C, dx, [], hC, upd_same, rfl, rfl⟩
      | succ i => simp at q1)
    have r0 := args_ok (pre := [⟨true, .obj c [] []⟩]) (P := [x]) a T hP rfl ext [] (by simp) h3 r
    simp only [List.length_singleton, List.length_nil, Nat.add_zero, List.singleton_append] at A0 r0
    have hself : (subG g M (refsOf ws) [x]).R[0]? = some x := rfl
    refine ⟨subG g M (refsOf ws) [x], _, .ref 0 :: renum 1 ws, A0, ⟨.ref x, xs, rfl, ⟨x, hself, rfl⟩, r0⟩, by simp [refsOf_renum], ?_⟩
    have at0 : ∀ {g' : Gh} {M' : Store} {H' : Hp}, Evo (subG g M (refsOf ws) [x]) (⟨true, .obj c [] []⟩ :: cs) (upd (upd H dx (.own x)) x (.ins C dx [])) g' M' H' → g'.R[0]? = some x := fun {g' M' H'} e => by
      obtain ⟨X, hR, _⟩ := e.more
      rw [hR, List.getElem?_append_left (by rw [subG_len a T]; simp; omega)]; exact hself
    cases hs : sem (.ref 0 :: renum 1 ws) (⟨true, .obj c [] []⟩ :: cs) with
    | err => rw [hs] at h; exact h.elim
    | ok w M' =>
      rw [hs] at h
      cases w <;> first | exact h.elim | skip
      simp only at h
      split at h
      · rename_i hk
        obtain ⟨o, ho, h⟩ := h.need
        intro g' v H' a' e' rv
        refine ⟨rv, ?_⟩
        have hR0 := at0 e'
        have zs' : ∀ b, b ∉ g'.Z → b ∉ (subG g M (refsOf ws) [x]).Z := fun b q => by rw [e'.zs] at q; exact q
        split at h
        · split at h
          · rename_i hw
            have core0 := ran_core (pre := [⟨true, .obj c [] []⟩]) (P := [x]) a T hP rfl ext a' e' (by simpa using hk.1) (by simpa using hk.2) [] (by simp) (by simp)
            simp only [List.map_nil, List.append_nil, List.length_singleton] at core0
            obtain ⟨a2, e2, f2⟩ := core0
            have gh : (⟨g.R, g.Z⟩ : Gh) = g := rfl
            rw [gh] at a2 e2 f2
            have fx : Fro g' (killOut 1 (1 + (refsOf ws).length) M') x := ⟨fun hz => a'.nz x hz (List.mem_of_getElem? hR0), fun i c' q1 q2 => by
              have hi := a'.inj q1 hR0
              subst hi
              rcases killOut_get q2 with ⟨q, _⟩ | ⟨_, q⟩
              · omega
              · exact q⟩
            have R1 : RW G g' (killOut 1 (1 + (refsOf ws).length) M') H' o.con.frz (.ref x) := ((a'.cell 0 o x ho hR0).via (fun b _ f => fro_kill f) (.inr fun _ _ q => q)).frz fx
            refine h g _ H' a2 e2 ((openW_ok a' (openW_ok a' R1)).via (fun b _ f => f2 b (zs' b f.1) (fun j c' q1 q2 q3 q4 => f.2 j c' q3 ?_) (by simp)) (.inl hw))
            rw [killOut_at ⟨q1, q2⟩]; exact q4
          · exact h.elim
        · split at h
          · rename_i hpc
            have core1 := ran_core (pre := [⟨true, .obj c [] []⟩]) (P := [x]) a T hP rfl ext a' e' (by simpa using hk.1) (by simpa using hk.2) [(x, o)]
              (by simp only [List.mem_singleton, forall_eq]; exact ⟨0, hR0, ho, .inl (by simp), hpc⟩) (by simp)
            simp only [List.map_cons, List.map_nil, List.length_singleton] at core1
            obtain ⟨a3, e3, f3⟩ := core1
            refine h _ _ _ a3 e3 ⟨x, ?_, rfl⟩
            show (g.R ++ [x])[M.length]? = some x
            rw [← a.len]
            simp
          · exact h.elim
      · exact h.elim
    | exc e xs' us M' =>
      rw [hs] at h
      simp only at h
      split at h
      · rename_i hk
        intro g' cls d H' a' e' rx
        have core0 := ran_core (pre := [⟨true, .obj c [] []⟩]) (P := [x]) a T hP rfl ext a' e' (by simpa using hk.1) (by simpa using hk.2.1) [] (by simp) (by simp)
        simp only [List.map_nil, List.append_nil, List.length_singleton] at core0
        obtain ⟨a2, e2, f2⟩ := core0
        exact h g cls d H' a2 e2 (rx.via (fun b _ f => f2 b (by have := f.1; rw [e'.zs] at this; exact this) (fun j c _ _ q1 q2 => f.2 j c q1 q2) (by simp)) hk.2.2)
      · exact h.elim
  · exact h.elim
end
end PyI

namespace PyI
open PySem PySem.Spec PyProof.Rows L2

/-! ### how a call binds -/
theorem forIn_run {α β : Type} {f : α → β → Sem (ForInStep β)} (st : List α → β) : ∀ (l2 l1 : List α), (∀ l x r, l1 ++ l2 = l ++ x :: r → l1.length ≤ l.length → f x (st l) = pure (.yield (st (l ++ [x])))) → forIn l2 (st l1) f = pure (st (l1 ++ l2))
  | [], l1, _ => by rw [List.append_nil]; rfl
  | x :: r, l1, h => by
    rw [List.forIn_cons, h l1 x r rfl (Nat.le_refl _)]
    have k := forIn_run st r (l1 ++ [x]) fun l y r' e hl => h l y r' (by rw [← e, List.append_assoc]; rfl) (by rw [List.length_append] at hl; omega)
    rw [List.append_assoc, List.singleton_append] at k
    rw [← k] <;> rfl
theorem forIn_run0 {α β : Type} {f : α → β → Sem (ForInStep β)} {b : β} {l : List α} (st : List α → β) (h0 : st [] = b) (h : ∀ l1 x r, l = l1 ++ x :: r → f x (st l1) = pure (.yield (st (l1 ++ [x])))) : forIn l b f = pure (st l) := by
  have := forIn_run (f := f) st l [] fun l1 x r e _ => h l1 x r e
  rw [h0] at this
  exact this
/-- plain parameters -/
def plainP (p : Arguments) : Bool := p.posonlyargs.isEmpty && p.vararg.isNone && p.kwarg.isNone
def parNames (p : Arguments) : List Str := p.args.map (·.arg) ++ p.kwonlyargs.map (·.arg)
/-- the keywords fit: n positional ones -/
def kwFit (np : Nat) (ps : List Str) (n : Nat) (ks : List Str) : Bool := decide (n ≤ np) && decide (ps.Nodup) && decide (ks.Nodup) && (ks.all fun k => decide (k ∈ ps.drop n)) && (ps.drop n).all (fun k => decide (k ∈ ks))
theorem lookup_zip_isSome {α : Type} {k : Str} : ∀ {ks : List Str} {ws : List α}, ks.length = ws.length → k ∈ ks → ((ks.zip ws).lookup k).isSome = true
  | [], _, _, h => by cases h
  | a :: ks, [], e, _ => by cases e
  | a :: ks, w :: ws, e, h => by
    rw [List.zip_cons_cons, List.lookup_cons]
    split
    · rfl
    · rename_i q
      refine lookup_zip_isSome (by simpa using e) ?_
      rcases List.mem_cons.mp h with h | h
      · subst h; simp at q
      · exact h
theorem lookup_zip_none {α : Type} {k : Str} : ∀ {ks : List Str} {ws : List α}, k ∉ ks → (ks.zip ws).lookup k = none
  | [], _, _ => rfl
  | a :: ks, [], _ => rfl
  | a :: ks, w :: ws, h => by
    simp only [List.mem_cons, not_or] at h
    rw [List.zip_cons_cons, List.lookup_cons]
    split
    · rename_i q
      exact absurd (by simpa using q) h.1
    · exact lookup_zip_none h.2
theorem lookup_append' {α : Type} {k : Str} : ∀ {l r : List (Str × α)}, (l ++ r).lookup k = (l.lookup k).or (r.lookup k)
  | [], r => rfl
  | (a, w) :: l, r => by
    rw [List.cons_append, List.lookup_cons, List.lookup_cons]
    split
    · rfl
    · exact lookup_append'
theorem zip_take {α β : Type} : ∀ (l : List α) (r : List β), l.zip r = (l.take r.length).zip r
  | _, [] => by simp
  | [], _ => by simp
  | a :: l, b :: r => by simp [zip_take l r]
/-- what binds -/
theorem bind_ok {fd : FuncData} {us ws : List Value} {ks : List Str} (hp : plainP fd.params = true) (hd : fd.defaults = .none) (hk : kwFit fd.params.args.length (parNames fd.params) us.length ks = true) (hl : ks.length = ws.length) :
    bindArgs fd ⟨us, ks.zip ws⟩ = pure ((parNames fd.params).filterMap fun n => (((fd.params.args.map (·.arg)).zip us ++ ks.zip ws).lookup n).map (n, ·)) := by
  obtain ⟨p1, p2⟩ := Bool.and_eq_true_iff.mp hp
  obtain ⟨p3, p4⟩ := Bool.and_eq_true_iff.mp p1
  have h1 : fd.params.posonlyargs = [] := by simpa using p3
  have h2 : fd.params.vararg = none := by simpa using p4
  have h3 : fd.params.kwarg = none := by simpa using p2
  simp only [kwFit, Bool.and_eq_true, decide_eq_true_eq, List.all_eq_true] at hk
  obtain ⟨⟨⟨⟨k1, k2⟩, k3⟩, k4⟩, k5⟩ := hk
  have hn : (fd.params.args.map (·.arg)).length = fd.params.args.length := by simp
  have drop1 : (parNames fd.params).drop us.length = (fd.params.args.map (·.arg)).drop us.length ++ fd.params.kwonlyargs.map (·.arg) := by
    unfold parNames
    rw [List.drop_append_of_le_length (by simpa using k1)]
  have inA : ∀ k ∈ ks, ((fd.params.args.map (·.arg)).zip us).lookup k = none := fun k hk => by
    rw [zip_take]
    refine lookup_zip_none fun hm => ?_
    have h4 := k4 k hk
    have e : parNames fd.params = (parNames fd.params).take us.length ++ (parNames fd.params).drop us.length := (List.take_append_drop _ _).symm
    rw [e] at k2
    refine (List.nodup_append.mp k2).2.2 k ?_ k h4 rfl
    unfold parNames
    rw [List.take_append_of_le_length (by simpa using k1)]
    exact hm
  have inB : ∀ k ∈ ks, ((fd.params.args.map (·.arg)).contains k || (fd.params.kwonlyargs.map (·.arg)).contains k) = true := fun k hk => by
    have h4 := k4 k hk
    rw [drop1] at h4
    rcases List.mem_append.mp h4 with h | h
    · rw [Bool.or_eq_true]; left; simpa using List.mem_of_mem_drop h
    · rw [Bool.or_eq_true]; right; simpa using h
  have someK : ∀ k ∈ parNames fd.params, ((((fd.params.args.map (·.arg)).zip us) ++ ks.zip ws).lookup k).isSome = true := fun k hk => by
    rw [lookup_append']
    have e : parNames fd.params = (parNames fd.params).take us.length ++ (parNames fd.params).drop us.length := (List.take_append_drop _ _).symm
    rw [e] at hk
    rcases List.mem_append.mp hk with h | h
    · have : ((((fd.params.args.map (·.arg)).zip us)).lookup k).isSome = true := by
        rw [zip_take]
        refine lookup_zip_isSome (by rw [List.length_take, hn]; omega) ?_
        unfold parNames at h
        rw [List.take_append_of_le_length (by simpa using k1)] at h
        exact h
      cases q : (((fd.params.args.map (·.arg)).zip us)).lookup k with
      | none => rw [q] at this; cases this
      | some v => rfl
    · have : ((ks.zip ws).lookup k).isSome = true := lookup_zip_isSome hl (k5 k h)
      cases q : (((fd.params.args.map (·.arg)).zip us)).lookup k with
      | none => exact this
      | some v => rfl
  unfold bindArgs
  simp only [h1, h2, h3, hd, List.map_nil, List.nil_append]
  rw [forIn_run0 (fun l => ((fd.params.args.map (·.arg)).zip us ++ l, ([] : List (Str × Value)))) (by rw [List.append_nil]) (fun l1 x r e => ?_)]
  · have s0 : seqItems? Value.none = pure none := rfl
    rw [s0]
    simp only [pure_bind]
    rw [if_neg (by simp; omega)]
    rw [if_neg (by
      simp only [Option.getD_none, Array.toList_empty, List.length_nil, Nat.zero_sub, List.drop_nil, Nat.sub_zero, Bool.not_eq_true', Bool.not_eq_false, List.isEmpty_iff, List.filter_eq_nil_iff, List.take_length]
      intro k hk
      have := someK k (by unfold parNames; exact List.mem_append_left _ hk)
      cases q : ((((fd.params.args.map (·.arg)).zip us) ++ ks.zip ws).lookup k) with
      | none => rw [q] at this; cases this
      | some v => simp)]
    simp only [Option.getD_none, Array.toList_empty, List.length_nil, Nat.zero_sub, List.drop_nil, Nat.sub_zero, List.zip_nil_right, List.forIn_nil]
    simp only [pure_bind]
    rw [forIn_run0 (fun _ => ((fd.params.args.map (·.arg)).zip us ++ ks.zip ws, ([] : List Str))) rfl (fun l1 x r e => ?_)]
    · simp only [pure_bind]
      rfl
    · have hx : x ∈ parNames fd.params := by unfold parNames; rw [e]; simp
      have := someK x hx
      rw [if_neg (by
        cases q : ((((fd.params.args.map (·.arg)).zip us) ++ ks.zip ws).lookup x) with
        | none => rw [q] at this; cases this
        | some v => simp)]
  · have hx : x ∈ ks.zip ws := by rw [e]; simp
    have hxk : x.1 ∈ ks := (List.of_mem_zip (a := x.1) (b := x.2) hx).1
    rw [if_pos (inB x.1 hxk), if_neg ?_]
    · rw [List.append_assoc]
    · rw [lookup_append', inA x.1 hxk]
      have : l1.lookup x.1 = none := by
        have e1 : ks = l1.map (·.1) ++ x.1 :: r.map (·.1) := by
          have : (ks.zip ws).map (·.1) = ks := by rw [List.map_fst_zip (by omega)]
          rw [← this, e]; simp
        rw [e1] at k3
        have nd := (List.nodup_append.mp k3).2.2
        have : ∀ {l : List (Str × Value)}, x.1 ∉ l.map (·.1) → l.lookup x.1 = none := by
          intro l
          induction l with
          | nil => intro _; rfl
          | cons y l ih =>
            intro h
            simp only [List.map_cons, List.mem_cons, not_or] at h
            rw [List.lookup_cons]
            split
            · rename_i q; exact absurd (by simpa using q) h.1
            · exact ih h.2
        exact this fun hm => nd x.1 hm x.1 (by simp) rfl
      rw [this]; simp

theorem filterMap_zip {α β : Type} {f : α → Option β} : ∀ {l : List α}, (∀ x ∈ l, (f x).isSome = true) → (l.filterMap fun n => (f n).map (n, ·)) = l.zip (l.filterMap f)
  | [], _ => rfl
  | x :: l, h => by
    obtain ⟨y, hy⟩ := Option.isSome_iff_exists.mp (h x (by simp))
    rw [List.filterMap_cons_some (b := (x, y)) (by rw [hy]; rfl), List.filterMap_cons_some hy, List.zip_cons_cons, filterMap_zip fun z hz => h z (by simp [hz])]
theorem fm_congr {α β : Type} {f h : α → Option β} : ∀ {l : List α}, (∀ x ∈ l, f x = h x) → l.filterMap f = l.filterMap h
  | [], _ => rfl
  | x :: l, k => by
    rw [List.filterMap_cons, List.filterMap_cons, k x (by simp), fm_congr fun y hy => k y (by simp [hy])]
theorem lookup_own {α : Type} {r : List (Str × α)} : ∀ {l : List Str} {us : List α}, l.Nodup → l.length = us.length → l.filterMap (fun n => (l.zip us ++ r).lookup n) = us
  | [], [], _, _ => rfl
  | [], _ :: _, _, e => by cases e
  | _ :: _, [], _, e => by cases e
  | x :: l, u :: us, nd, e => by
    obtain ⟨h1, h2⟩ := List.nodup_cons.mp nd
    have e1 : ((x :: l).zip (u :: us) ++ r).lookup x = some u := by simp [List.lookup_cons]
    rw [List.filterMap_cons_some (f := fun n => ((x :: l).zip (u :: us) ++ r).lookup n) e1]
    congr 1
    rw [← lookup_own (r := r) (us := us) h2 (by simpa using e)]
    refine fm_congr fun y hy => ?_
    have : (y == x) = false := by
      cases q : y == x with
      | false => rfl
      | true => exact absurd ((beq_iff_eq.mp q) ▸ hy) h1
    rw [List.zip_cons_cons, List.cons_append, List.lookup_cons, this, lookup_own (r := r) (us := us) h2 (by simpa using e)]
theorem lookup_idx {α : Type} {p : Str} : ∀ {ks : List Str} {ws : List α}, ks.length = ws.length → p ∈ ks → (ks.zip ws).lookup p = ws[ks.idxOf p]?
  | [], _, _, h => by cases h
  | _ :: _, [], e, _ => by cases e
  | a :: ks, w :: ws, e, h => by
    rw [List.zip_cons_cons, List.lookup_cons, List.idxOf_cons]
    by_cases q : p = a
    · subst q; simp
    · have q1 : (p == a) = false := by simpa using q
      have q2 : (a == p) = false := by simpa using Ne.symm q
      rw [q1, q2]
      simp only [cond_false, List.getElem?_cons_succ]
      exact lookup_idx (by simpa using e) (by simpa [q] using h)
theorem kwFit_nil {np : Nat} {ps : List Str} (h1 : ps.length ≤ np) (h2 : ps.Nodup) {n : Nat} (hn : n = ps.length) : kwFit np ps n [] = true := by
  subst hn; simp [kwFit, h1, h2]
theorem bind_zip {fd : FuncData} {us ws : List Value} {ks : List Str} (hp : plainP fd.params = true) (hd : fd.defaults = .none) (hk : kwFit fd.params.args.length (parNames fd.params) us.length ks = true) (hl : ks.length = ws.length) (hn : us.length + ws.length = (parNames fd.params).length) :
    bindArgs fd ⟨us, ks.zip ws⟩ = pure ((parNames fd.params).zip (bindW (parNames fd.params) ks (us ++ ws))) := by
  rw [bind_ok hp hd hk hl]
  congr 1
  have hk' := hk
  simp only [kwFit, Bool.and_eq_true, decide_eq_true_eq, List.all_eq_true] at hk
  obtain ⟨⟨⟨⟨k1, k2⟩, k3⟩, k4⟩, k5⟩ := hk
  have hA : (fd.params.args.map (·.arg)).take us.length = (parNames fd.params).take us.length := by
    unfold parNames
    rw [List.take_append_of_le_length (by simpa using k1)]
  have hsl : (fd.params.args.map (·.arg)).zip us ++ ks.zip ws = ((parNames fd.params).take us.length).zip us ++ ks.zip ws := by rw [zip_take, hA]
  rw [hsl]
  have nd2 := k2
  rw [← List.take_append_drop us.length (parNames fd.params)] at nd2
  obtain ⟨n1, n2, n3⟩ := List.nodup_append.mp nd2
  have tl : ((parNames fd.params).take us.length).length = us.length := by rw [List.length_take]; omega
  have inB : ∀ p ∈ (parNames fd.params).drop us.length, (((parNames fd.params).take us.length).zip us ++ ks.zip ws).lookup p = (us ++ ws)[us.length + ks.idxOf p]? := fun p hp => by
    rw [lookup_append', lookup_zip_none (fun h => n3 p h p hp rfl), Option.none_or, lookup_idx hl (k5 p hp), List.getElem?_append_right (by omega), Nat.add_sub_cancel_left]
  have key : (parNames fd.params).filterMap (fun n => (((parNames fd.params).take us.length).zip us ++ ks.zip ws).lookup n) = bindW (parNames fd.params) ks (us ++ ws) := by
    have e : (parNames fd.params).filterMap (fun n => (((parNames fd.params).take us.length).zip us ++ ks.zip ws).lookup n) = ((parNames fd.params).take us.length ++ (parNames fd.params).drop us.length).filterMap (fun n => (((parNames fd.params).take us.length).zip us ++ ks.zip ws).lookup n) := by rw [List.take_append_drop]
    rw [e, List.filterMap_append, lookup_own n1 tl, fm_congr inB]
    cases ks with
    | nil =>
      have : ws = [] := List.eq_nil_of_length_eq_zero hl.symm
      subst this
      have : (parNames fd.params).drop us.length = [] := List.drop_of_length_le (by rw [← hn]; simp)
      rw [this]; rfl
    | cons k ks =>
      show _ = (permW _ _ ((us ++ ws).length - (k :: ks).length)).filterMap _
      have e1 : (us ++ ws).length - (k :: ks).length = us.length := by rw [List.length_append, hl]; omega
      rw [e1, permW, List.filterMap_append]
      congr 1
      · have : ∀ (us ws : List Value), (List.range us.length).filterMap (fun i => (us ++ ws)[i]?) = us := by
          intro us ws
          apply List.ext_getElem?
          intro i
          have e2 : (List.range us.length).filterMap (fun i => (us ++ ws)[i]?) = us := by
            have : ∀ (us ws pre : List Value), (List.range' pre.length us.length).filterMap (fun i => (pre ++ us ++ ws)[i]?) = us := by
              intro us
              induction us with
              | nil => intro ws pre; rfl
              | cons u us ih =>
                intro ws pre
                rw [List.length_cons, List.range'_succ, List.filterMap_cons_some (b := u) (by simp)]
                have := ih ws (pre ++ [u])
                simp only [List.length_append, List.length_singleton, List.append_assoc, List.singleton_append] at this ⊢
                rw [this]
            have := this us ws []
            simpa [List.range_eq_range'] using this
          rw [e2]
        exact (this us ws).symm
      · rw [List.filterMap_map]
        rfl
  rw [filterMap_zip, key]
  intro x hx
  have e := key
  rw [← List.take_append_drop us.length (parNames fd.params)] at hx
  rcases List.mem_append.mp hx with h | h
  · rw [lookup_append']
    have := lookup_zip_isSome (ws := us) tl h
    cases q : (((parNames fd.params).take us.length).zip us).lookup x with
    | none => rw [q] at this; cases this
    | some v => rfl
  · rw [lookup_append', lookup_zip_none (fun h' => n3 x h' x h rfl), Option.none_or]
    exact lookup_zip_isSome hl (k5 x h)
end PyI

namespace PyI
open PySem PySem.Spec PyProof.Rows L2
section
variable {G : GE} {cu : Option Cu} {Wi : WX} {g g' g1 : Gh} {M M' M1 : Store} {H H' H1 : Hp} {σ : L2.St} {l : LM}
/-! ### arguments put in order -/
theorem fm_rws {ws : List W} {xs : List V} (r : RWs G g M H ws xs) : ∀ is : List Nat, RWs G g M H (is.filterMap fun i => ws[i]?) (is.filterMap fun i => xs[i]?)
  | [] => rfl
  | i :: is => by
    cases q : ws[i]? with
    | none =>
      have q2 : xs[i]? = none := by
        rw [List.getElem?_eq_none_iff] at q ⊢
        rw [← r.length]; exact q
      rw [List.filterMap_cons_none q, List.filterMap_cons_none q2]
      exact fm_rws r is
    | some w =>
      obtain ⟨v, h1, h2⟩ := r.get q
      rw [List.filterMap_cons_some (f := fun i => ws[i]?) q, List.filterMap_cons_some (f := fun i => xs[i]?) h1]
      exact .cons h2 (fm_rws r is)
theorem fm_vals {xs : List V} {us : List Value} (r : Vals xs us) : ∀ is : List Nat, Vals (is.filterMap fun i => xs[i]?) (is.filterMap fun i => us[i]?)
  | [] => .nil
  | i :: is => by
    cases q : xs[i]? with
    | none =>
      have q2 : us[i]? = none := r.none_of q
      rw [List.filterMap_cons_none q, List.filterMap_cons_none q2]
      exact fm_vals r is
    | some w =>
      obtain ⟨v, h1, h2⟩ := r.get q
      rw [List.filterMap_cons_some (f := fun i => xs[i]?) q, List.filterMap_cons_some (f := fun i => us[i]?) h1]
      exact .cons h2 (fm_vals r is)
theorem bindW_rws {ps ks : List Str} {ws : List W} {xs : List V} (r : RWs G g M H ws xs) : RWs G g M H (bindW ps ks ws) (bindW ps ks xs) := by
  cases ks with
  | nil => exact r
  | cons k ks =>
    unfold bindW
    rw [r.length]
    exact fm_rws r _
theorem bindW_vals {ps ks : List Str} {xs : List V} {us : List Value} (r : Vals xs us) : Vals (bindW ps ks xs) (bindW ps ks us) := by
  cases ks with
  | nil => exact r
  | cons k ks =>
    unfold bindW
    rw [r.length]
    exact fm_vals r _
theorem fm_len {α : Type} {as : List α} : ∀ {is : List Nat}, (∀ i ∈ is, i < as.length) → (is.filterMap fun i => as[i]?).length = is.length
  | [], _ => rfl
  | i :: is, h => by
    rw [List.filterMap_cons_some (List.getElem?_eq_getElem (h i (by simp))), List.length_cons, List.length_cons, fm_len fun j hj => h j (by simp [hj])]
theorem bindW_len {α : Type} {np : Nat} {ps ks : List Str} {as : List α} (h : kwFit np ps (as.length - ks.length) ks = true) (hk : ks.length ≤ as.length) (hn : as.length = ps.length) : (bindW ps ks as).length = ps.length := by
  cases ks with
  | nil => exact hn
  | cons k ks =>
    simp only [kwFit, Bool.and_eq_true, decide_eq_true_eq, List.all_eq_true] at h
    obtain ⟨⟨⟨⟨k1, k2⟩, k3⟩, k4⟩, k5⟩ := h
    unfold bindW
    rw [fm_len]
    · unfold permW
      rw [List.length_append, List.length_range, List.length_map, List.length_drop]
      omega
    · intro i hi
      rcases List.mem_append.mp hi with q | q
      · have := List.mem_range.mp q
        omega
      · obtain ⟨p, hp, rfl⟩ := List.mem_map.mp q
        have := List.idxOf_lt_length_of_mem (k5 p hp)
        omega
theorem bindW_cons {α : Type} {ps ks : List Str} {a : α} {as : List α} (hk : ks.length ≤ as.length) : bindW ps ks (a :: as) = a :: bindW (ps.drop 1) ks as := by
  cases ks with
  | nil => rfl
  | cons k ks =>
    unfold bindW
    dsimp only
    have e : (a :: as).length - (k :: ks).length = (as.length - (k :: ks).length) + 1 := by rw [List.length_cons]; omega
    rw [e]
    unfold permW
    rw [List.range_succ_eq_map, List.cons_append, List.filterMap_cons_some (b := a) (by rfl)]
    congr 1
    rw [List.filterMap_append, List.filterMap_append]
    congr 1
    · rw [List.filterMap_map]
      exact fm_congr fun i _ => by simp
    · rw [List.filterMap_map, List.filterMap_map, List.drop_drop, Nat.add_comm 1 (as.length - (k :: ks).length)]
      exact fm_congr fun p _ => by
        show (a :: as)[as.length - (k :: ks).length + 1 + List.idxOf p (k :: ks)]? = _
        rw [show as.length - (k :: ks).length + 1 + List.idxOf p (k :: ks) = (as.length - (k :: ks).length + List.idxOf p (k :: ks)) + 1 from by omega, List.getElem?_cons_succ]
        rfl
end

/-! ### a def keeps its promise, where no repr is under way -/
structure RoomG (k : Nat) (A : Around) : Prop where
  room : Room k A
  gd : A.guards = some []
theorem RoomG.mono {j k : Nat} {A : Around} (r : RoomG k A) (h : j ≤ k) : RoomG j A := ⟨r.room.mono h, r.gd⟩
theorem RoomG.deeper {k : Nat} {A : Around} (r : RoomG (k + 1) A) (env : Env) : RoomG k (A.deeper env) := ⟨r.room.deeper env, r.gd⟩
theorem RoomG.make {k : Nat} {A : Around} (r : RoomG (k + 1) A) (C : Addr) (us : List Value) (kw : List (Str × Value)) : RoomG k (A.under (.builtin "type.__call__" ⟨.ref C :: us, kw⟩)) :=
  ⟨r.room.make C us kw, by
    have : (A.under (.builtin "type.__call__" ⟨.ref C :: us, kw⟩)).guards = A.guards := by
      first | rfl | simp [Around.under, pushGuards, Code.guards, Code.isGuard, guardIds]
    rw [this]; exact r.gd⟩
/-- the promise sp of the def at f -/
structure FnG (P : Program) (w : World) (K : PySem.W.Frag) (mg : Str → Option Value) (base : Heap) (k : Nat) (f : Addr) (fd : FuncData) (ps : List Str) (sp : Sp) : Prop where
  run : ∀ (A : Around) (outer : List Env) (s : Shared) (H : Hp) (args : Args) (us : List Value) (vs : List V) (Q : VK) (E : XK), RoomG k A → Env0 P w K mg base A outer s H → vs.length = ps.length → BindsTo s fd args (ps.zip us) → Vals vs us → sp vs H Q E →
    codeAny (model P w) A (.call (.ref f) args) (CR (CX P w) outer P w H s Q E) s
section
variable {P : Program} {w : World} {K : PySem.W.Frag} {mg : Str → Option Value} {base : Heap} {j k : Nat} {f : Addr} {fd : FuncData} {ps : List Str} {sp sp' : Sp}
theorem FnG.mono (F : FnG P w K mg base j f fd ps sp) (h : j ≤ k) : FnG P w K mg base k f fd ps sp := ⟨fun A outer s H args us vs Q E hr => F.run A outer s H args us vs Q E (hr.mono h)⟩
end
section
variable {X : Cx} {k : Nat} {f C : Addr} {fd : FuncData} {ps : List Str} {sp : Sp} {Wi : WX} {E : XK}
def Back (X : Cx) (pins : List (Addr × Obj)) (σ : L2.St) (Q : VK) : Result → Shared → Prop
  | .ok (.ret u), s' => EP X pins σ Q u s'
  | .ok _, _ => False
  | .error e, s' => X.xe e s'
/-- a call's result, seen from the caller -/
theorem res_back {pins : List (Addr × Obj)} {σ : L2.St} {H : Hp} {s : Shared} {Q : VK} (tk : Takes X Wi) (I : Inv X pins σ H s) (hE : ∀ c d H', E c d H' → Wi c d σ H') {r : Result} {s' : Shared} (h : CR (CX X.prog X.w) X.stack X.prog X.w H s Q E r s') :
    Back X pins σ Q r s' := by
  cases r with
  | error e => exact tk _ _ (XE.of_call I hE h)
  | ok fl =>
    cases fl with
    | ret u => exact I.after h
    | next => exact False.elim h
    | brk => exact False.elim h
    | cont => exact False.elim h
/-- the call itself -/
theorem run_fnG {pins : List (Addr × Obj)} {σ : L2.St} {H : Hp} {s : Shared} {Q : VK} {args : Args} {us : List Value} {vs : List V} (F : FnG X.prog X.w X.K X.mg X.base k f fd ps sp) (hr : RoomG k X.A) (tk : Takes X Wi) (hE : ∀ c d H', E c d H' → Wi c d σ H')
    (I : Inv X pins σ H s) (hl : vs.length = ps.length) (hb : BindsTo s fd args (ps.zip us)) (r : Vals vs us) (h : sp vs H Q E) : codeAny (model X.prog X.w) X.A (.call (.ref f) args) (Back X pins σ Q) s :=
  codeAny_mono (F.run X.A X.stack s H args us vs Q E hr I.env0 hl hb r h) fun r s' hq => res_back tk I hE hq
end
/-- from the body -/
theorem fnG_of {P : Program} {w : World} {K : PySem.W.Frag} {mg : Str → Option Value} {base : Heap} {k : Nat} {f : Addr} {x qual : Str} {params : Arguments} {body : List Stmt} {scope : Scope} {kws : List (Str × V)} {fd : FuncData} {N ps : List Str} {sp : Sp}
    (F : FunD K x qual params body scope [] kws f fd) (S : FnScope N ps scope)
    (hbody : ∀ (cdv : Value) (A : Around) (outer : List Env) (s : Shared) (H : Hp) (vs : List V) (Q : VK) (E : XK), RoomG k (A.deeper (envOfC qual scope s.heap.objs.size f cdv)) → vs.length = ps.length → sp vs H Q E →
      ∃ t, PSs (cxOf (CX P w) P w K mg base N qual scope f cdv A outer s H E) body t ∧ t { nx := fun _ H' => Q .non H', rt := Q } (L2.start N vs) H) : FnG P w K mg base (k + 1) f fd ps sp := by
  obtain ⟨oc, od, dV, kV, doc, pm, an, cdv, ct, osl, rfl, lk, hcd, _, _⟩ := F.ex
  refine ⟨fun A outer s H args us vs Q E hr e0 hl hb r hsp => ?_⟩
  have KX : K.In s.heap := e0.mod.kin.keeps fun b o e => (e0.bs b o e).1
  have lim : s.heap.NoLimit := e0.mod.nolimit.keeps fun b o e => (e0.bs b o e).1
  have hkind : ∀ y ∈ ps.zip us, scope.names.lookup y.1 = some .local ∨ (scope.names.lookup y.1 = some .cell ∧ ((cellsFrom (s.heap.objs.size + 1) scope.names []).lookup y.1).isSome = true) := fun ⟨n, v⟩ hy => by
    rcases S.par n (List.of_mem_zip hy).1 with q | q
    · exact .inl q
    · exact .inr ⟨q, PySem.W.cellsFrom_some _ _ _ (.inl q)⟩
  refine codeAny_call_function hr.room.depth (KX _ _ lk) rfl S.co S.gen rfl (PySem.W.codeRec_of KX hcd) (hb _ _ _ _ ?_)
  refine wpAny_newFunctionEnv_cells S.kind hkind fun env he s1 x => ?_
  subst he
  refine ⟨lim.keeps x.toInCall.keep, codeAny_func ?_⟩
  obtain ⟨t, ht, hq⟩ := hbody cdv A outer s H vs Q E (hr.deeper _) hl hsp
  have I : Inv (cxOf (CX P w) P w K mg base N qual scope f cdv A outer s H E) [] (L2.start N vs) H s1 := inv_start S hr.room.hd e0 hl r x
  refine wpAny_mono (ht.run [] s1 (L2.start N vs) H _ I hq) (fun fl s' hs => ?_) fun e s' hs => hs
  cases fl with
  | ret u =>
    obtain ⟨v, σ', H', J, rv, q⟩ := hs
    exact ⟨v, H', J.os, J.bare, J.base, J.hok, rv, q⟩
  | next =>
    obtain ⟨σ', H', J, q⟩ := hs
    exact ⟨V.non, H', J.os, J.bare, J.base, J.hok, rfl, q⟩
  | brk =>
    obtain ⟨_, _, _, q⟩ := hs
    exact False.elim q
  | cont =>
    obtain ⟨_, _, _, q⟩ := hs
    exact False.elim q
end PyI

namespace PyI
open PySem PySem.Spec PyProof.Rows L2
/-! ### what the global names stand for -/
/-- the promise of a def, and how it binds -/
structure FnP (G : GE) (P : Program) (w : World) (mg : Str → Option Value) (base : Heap) (k : Nat) (f : Addr) (fi : FnI) : Prop where
  ex : ∃ fd, FnG P w G.K mg base k f fd fi.ps (spOf G fi.ps.length fi.sem) ∧ ∀ (s : Shared) (us ws : List Value) (ks : List Str), kwFit fi.np fi.ps us.length ks = true → ks.length = ws.length → us.length + ws.length = fi.ps.length →
    BindsTo s fd ⟨us, ks.zip ws⟩ (fi.ps.zip (bindW fi.ps ks (us ++ ws)))
  kp : PySem.W.keepIn G.K (.ref f) = true
theorem FnP.mono {G : GE} {P : Program} {w : World} {mg : Str → Option Value} {base : Heap} {j k : Nat} {f : Addr} {fi : FnI} (F : FnP G P w mg base j f fi) (h : j ≤ k) : FnP G P w mg base k f fi :=
  ⟨let ⟨fd, a, b⟩ := F.ex; ⟨fd, a.mono h, b⟩, F.kp⟩
/-- a plain class of the text, for isinstance -/
structure InsT (K : PySem.W.Frag) (C : Addr) : Prop where
  cl : Cls K C
  ha : PySem.W.findIn K (.ref C) "__class__" = some (some (.builtin "object.__class__"))
  hn : PySem.W.specialIn K (.builtin "object.__class__") "__get__" = some (some (.builtin "getset_descriptor.__get__"))
  ht : PySem.W.takesIn K (.builtin "object.__class__") = some true
  hm : PySem.W.mroIn K C (.type "object") = some true
def bTypes : List String := ["NoneType", "bool", "int", "str", "tuple", "list", "dict"]
structure Tops (G : GE) (Γ : Glo) (P : Program) (w : World) (mg : Str → Option Value) (base : Heap) (k : Nat) : Prop where
  con : ∀ x c, Γ.con x = some c → ∃ u v, mg x = some u ∧ RelV v u ∧ ∀ g M H, RW G g M H c v
  fn : ∀ x fi, Γ.fn x = some fi → ∃ f, mg x = some (.ref f) ∧ FnP G P w mg base k f fi
  mks : ∀ c fi, Γ.mt c "__init__" = some fi → ∃ C f, G.cA c = some C ∧ mg c = some (.ref C) ∧ Mk G.K C f ∧ FnP G P w mg base k f fi
  pl : ∀ c, Γ.pl c = true → ∃ C, G.cA c = some C ∧ mg c = some (.ref C) ∧ InsT G.K C ∧ (∀ t ∈ bTypes, PySem.W.kitOne G.K (.ref C) (.type t) = some false ∧ PySem.W.kitOne G.K (.type t) (.ref C) = some false) ∧
    ∀ d D, Γ.pl d = true → G.cA d = some D → PySem.W.kitOne G.K (.ref C) (.ref D) = some (decide (c = d))
  fld : ∀ c f, Γ.fld c f = true → ∃ C, G.cA c = some C ∧ Cls G.K C ∧ NoAttr G.K C f
  att : ∀ c f r, Γ.att c f = some r → ∃ C v u, G.cA c = some C ∧ Cls G.K C ∧ L2.Con G.K C f v u ∧ (∃ mc, ClX.CRead G.K C mc ∧ ClX.CVal G.K C mc f v u) ∧ ∀ g M H, RW G g M H r v
  mt : ∀ c m fi, Γ.mt c m = some fi → ∃ C f, G.cA c = some C ∧ Cls G.K C ∧ Meth G.K C m f ∧ FnP G P w mg base k f fi

section
variable {G : GE} {Γ : Glo} {cu : Option Cu} {Wi : WX} {X : Cx} {g g' g1 : Gh} {M M' M1 : Store} {H H' H1 : Hp} {σ : L2.St} {l : LM} {N : List Str} {sc : Scope} {calm : Bool} {a b c : Expr} {sa sb s_c : Sm} {pos : Pos}

/-! ### short lists -/
theorem evEs_one {α : Type} {f : List W → Store → Res α} : ((evEs [sa] l M).bind f) = (sa.v l M).bind fun x M1 => f [x] M1 := by
  simp only [evEs]
  cases sa.v l M <;> rfl
theorem evEs_two {α : Type} {f : List W → Store → Res α} : ((evEs [sa, sb] l M).bind f) = (sa.v l M).bind fun x M1 => (sb.v l M1).bind fun y M2 => f [x, y] M2 := by
  simp only [evEs]
  cases sa.v l M with
  | ok x M1 => simp only [Res.bind]; cases sb.v l M1 <;> rfl
  | exc c ns ws M1 => rfl
  | err => rfl
theorem evEs_three {α : Type} {f : List W → Store → Res α} : ((evEs [sa, sb, s_c] l M).bind f) = (sa.v l M).bind fun x M1 => (sb.v l M1).bind fun y M2 => (s_c.v l M2).bind fun z M3 => f [x, y, z] M3 := by
  simp only [evEs]
  cases sa.v l M with
  | ok x M1 =>
    simp only [Res.bind]
    cases sb.v l M1 with
    | ok y M2 => simp only [Res.bind]; cases s_c.v l M2 <;> rfl
    | exc c ns ws M1 => rfl
    | err => rfl
  | exc c ns ws M1 => rfl
  | err => rfl
/-! ### names and constants -/
theorem px_var {i : Nat} {x : Str} (hK : X.K = G.K) (hN : X.N[i]? = some x) (hv : Vis X.env.scope x) (hd : (x == ("__debug__" : Str)) = false) (hcd : (x == ("__classdict__" : Str)) = false) :
    PX G cu Wi X (.Name x pos) (.of fun l M => match l[i]? with | some (some w) => .ok w M | _ => .err) := by
  refine PX.of hK ((pe_var hN hv hd hcd).imp fun σ H Q ⟨g, M, l, a, p⟩ => ?_) (fun _ => rfl) rfl
  cases h : l[i]? with
  | none => simp only [h] at p; exact p.elim
  | some o =>
    cases o with
    | none => simp only [h] at p; exact p.elim
    | some w =>
      simp only [h] at p
      obtain ⟨v, h1, h2⟩ := a.lr.2 i w h
      exact ⟨v, h1, p.now a.abs h2⟩
/-- a constant that needs no object -/
theorem px_const {e : Expr} {w : W} {v : V} (hK : X.K = G.K) (h : PE X e (tC v)) (r : ∀ g M H, RW G g M H w v) (he : ∀ whole, isTrue e X.env whole = (do let v ← whole; standAt e.pos; holding [v] (truthy v))) (hs : notStar e = true) :
    PX G cu Wi X e (.of fun _ M => .ok w M) :=
  PX.of hK (h.imp fun σ H Q ⟨g, M, l, a, p⟩ => p.now a.abs (r _ _ _)) he hs
theorem px_glo {x : Str} {k : Nat} (hK : X.K = G.K) (T : Tops G Γ X.prog X.w X.mg X.base k) (hg : Gl X x) (hs : (Γ.con x).isSome = true) (hd : (x == ("__debug__" : Str)) = false) :
    PX G cu Wi X (.Name x pos) (.of fun _ M => need (Γ.con x) fun w => .ok w M) := by
  obtain ⟨w, hw⟩ := Option.isSome_iff_exists.mp hs
  obtain ⟨u, v, h1, h2, h3⟩ := T.con x w hw
  have := px_const (G := G) (cu := cu) (Wi := Wi) (e := .Name x pos) hK (pe_glob hg h1 h2 hd) h3 (fun _ => rfl) rfl
  rw [hw]; exact this

/-! ### tests -/
/-- a value that is a bool: as a test -/
theorem test_bl {v : LM → Store → Res W} {Q : Bool → Hp → Prop} (hb : ∀ l M r M1, v l M = .ok r M1 → ∃ k, r = .bl k) (h : TTof G cu Wi (dflT v) σ H Q) : TEof G cu Wi v σ H (fun x H' => ∃ k, x = .bl k ∧ Q k H') := by
  obtain ⟨g, M, l, a, p⟩ := h
  refine ⟨g, M, l, a, ?_⟩
  unfold dflT at p
  cases hr : v l M with
  | ok r M1 =>
    obtain ⟨k, rfl⟩ := hb l M r M1 hr
    rw [hr] at p
    intro g' v' H' a' e' rv
    rw [show v' = .bl k from rv]
    exact ⟨k, rfl, p g' k H' a' e' rfl⟩
  | exc c ns ws M1 => rw [hr] at p; exact p
  | err => rw [hr] at p; exact p
/-! ### operations -/
theorem px_bin {op : Operator} {fz : Bool} (hK : X.K = G.K) (ha : PX G cu Wi X a sa) (hb : PX G cu Wi X b sb) : PX G cu Wi X (.BinOp a op b pos) (.of fun l M => (evEs [sa, sb] l M).bind fun vs M1 => prm (.bin op fz) vs M1) :=
  PX.of hK ((pe_op (op_bin op) ha.pe hb.pe).imp fun σ H Q h => by
    rw [hK]
    exact tOp_of (serves_bin (fz := fz)) h) (fun _ => rfl) rfl
theorem evEs_cmp_bl {op : CmpOp} : ∀ (l : LM) (M : Store) (r : W) (M1 : Store), ((evEs [sa, sb] l M).bind fun vs M1 => prm (.cmp op) vs M1) = .ok r M1 → ∃ k, r = .bl k := by
  intro l M r M1 h
  cases q : evEs [sa, sb] l M with
  | ok vs M2 =>
    rw [q] at h
    have h : two (cmpW op) vs M2 = .ok r M1 := h
    unfold two at h
    split at h
    · exact (cmpW_bl h).2
    · cases h
  | exc c ns ws M2 => rw [q] at h; cases h
  | err => rw [q] at h; cases h
theorem px_cmp {op : CmpOp} (hK : X.K = G.K) (hu : X.A.units + 200 < cLine) (ha : PX G cu Wi X a sa) (hb : PX G cu Wi X b sb) (hm : behindInMarks op b = false) : PX G cu Wi X (.Compare a [op] [b] pos) (.of fun l M => (evEs [sa, sb] l M).bind fun vs M1 => prm (.cmp op) vs M1) := by
  refine ⟨(pe_cmpR (op_cmp (by omega) op) ha.pe hb.pe hm).imp fun σ H Q h => ?_, (pt_cmpR (op_cmp (by omega) op) ha.pe hb.pe hm).imp fun σ H Q h => ?_, rfl⟩
  · rw [hK]; exact tOp_of serves_cmp h
  · rw [hK]; exact tOp_of serves_cmp (test_bl evEs_cmp_bl h)
theorem px_neg (hK : X.K = G.K) (ha : PX G cu Wi X a sa) : PX G cu Wi X (.UnaryOp .USub a pos) (.of fun l M => (evEs [sa] l M).bind fun vs M1 => prm .neg vs M1) := by
  refine PX.of hK ((pe_un un_neg ha.pe).imp fun σ H Q ⟨g, M, l, at_, p⟩ => ?_) (fun _ => rfl) rfl
  refine ⟨g, M, l, at_, ?_⟩
  have p1 : Post G Wi (RW G) g M H σ ((sa.v l M).bind fun x M1 => negW x M1) Q := by dsimp only at p; rw [evEs_one] at p; exact p
  refine (p1.bind (rel1 := RW G) at_.abs.len).imp fun v H1 ⟨g1, M1, x, a1, e1, r1, p2⟩ => ?_
  obtain ⟨i, hi, p3⟩ := Post.need p2
  cases x <;> first | (cases hi; done) | skip
  cases hi
  exact ⟨i, r1, p3.now a1 rfl⟩
/-- the truth of a value, then -/
theorem truthy_then {pins : List (Addr × Obj)} {s : Shared} {x : W} {v : V} {u : Value} {Q : Bool → Shared → Prop} {k : Bool} (hK : X.K = G.K) (I : Inv X pins σ H s) (a : Abs G g M H) (r : RW G g M H x v) (rv : RelV v u) (hk : truW M x = some k)
    (h : ∀ s', Inv X pins σ H s' → Q k s') : wpAny (model X.prog X.w) X.A (truthy u) Q X.xe s :=
  thn (tru_ok pins s σ H v u (fun b H' => b = k ∧ H' = H) I rv ⟨k, by rw [hK]; exact tru_of a hk r, rfl, rfl⟩) fun b s' ⟨H', I', e1, e2⟩ => by
    subst e1 e2; exact h s' I'
theorem px_not (hK : X.K = G.K) (ha : PX G cu Wi X a sa) : PX G cu Wi X (.UnaryOp .Not a pos) ⟨fun l M => (sa.v l M).bind fun w M1 => need (truW M1 w) fun b => .ok (.bl (!b)) M1, fun l M => (sa.t l M).bind fun k M1 => .ok (!k) M1⟩ := by
  refine ⟨⟨fun pins s σ H Q I q => ?_⟩, (pt_not ha.pt).imp fun σ H Q q => ?_, rfl⟩
  · refine UnaryOp_ (thn (ha.pe.run pins s σ H _ I (TOf.bind (fa := sa.v) (f := fun _ w M1 => need (truW M1 w) fun b => .ok (W.bl (!b)) M1) (rel1 := RW G) q)) fun v s1 ⟨x, H1, I1, r1, g1, M1, l, w, a1, rw1, p⟩ => ?_)
    obtain ⟨k, hk, p⟩ := Post.need p
    exact not_of (truthy_then hK I1 a1.abs rw1 r1 hk fun s2 I2 => ⟨.bl (!k), H1, I2, rfl, p.now a1.abs rfl⟩)
  · refine (TOf.bind (fa := sa.t) (f := fun _ k M1 => .ok (!k) M1) (rel1 := relB) q).imp fun k H1 ⟨g1, M1, l, k', a1, r1, p⟩ => ?_
    rw [show k = k' from r1.symm]
    exact p.now a1.abs rfl
theorem evAndT_one (s : Sm) : evAndT [s] = s.t := by
  funext l M
  simp only [evAndT]
  cases s.t l M with
  | ok k M1 => cases k <;> rfl
  | exc c ns ws M1 => rfl
  | err => rfl
theorem evOrT_one (s : Sm) : evOrT [s] = s.t := by
  funext l M
  simp only [evOrT]
  cases s.t l M with
  | ok k M1 => cases k <;> rfl
  | exc c ns ws M1 => rfl
  | err => rfl
theorem px_and (hK : X.K = G.K) : ∀ {xs : List Expr} {ss : List Sm} {x : Expr} {s : Sm}, PX G cu Wi X x s → PXs G cu Wi X xs ss → PE X (.BoolOp .And (x :: xs) pos) (TEof G cu Wi (evAnd (s :: ss))) ∧ PW X (.BoolOp .And (x :: xs) pos) (TTof G cu Wi (evAndT (s :: ss)))
  | _, _, x, s, h, .nil => by
    refine ⟨pe_one h.pe, ?_⟩
    rw [evAndT_one]
    exact pw_and1 h.pt
  | _, _, x, s, h, .cons (x := y) (xs := ys) (s := t) (ss := ts) h1 hr => by
    obtain ⟨k1, k2⟩ := px_and hK h1 hr
    refine ⟨⟨fun pins st σ H Q I q => ?_⟩, ⟨fun wh pins st σ H Q I q => (pw_and h.pt k2).run wh pins st σ H Q I ?_⟩⟩
    · refine BoolOp_and (thn (h.pe.run pins st σ H _ I (TOf.bind (fa := s.v) (f := fun l w M1 => need (truW M1 w) fun k => if k then evAnd (t :: ts) l M1 else .ok w M1) (rel1 := RW G) q)) fun v s1 ⟨xv, H1, I1, r1, g1, M1, l, w, a1, rw1, p⟩ => ?_)
      obtain ⟨k, hk, p⟩ := Post.need p
      refine truthy_then hK I1 a1.abs rw1 r1 hk fun s2 I2 => ?_
      cases k with
      | true => exact k1.run pins s2 σ H1 Q I2 ⟨g1, M1, l, a1, p⟩
      | false => exact ⟨xv, H1, I2, r1, p.now a1.abs rw1⟩
    · refine (TOf.bind (fa := s.t) (f := fun l k M1 => if k then evAndT (t :: ts) l M1 else .ok false M1) (rel1 := relB) q).imp fun k H1 ⟨g1, M1, l, k', a1, r1, p⟩ => ?_
      have e : k' = k := r1
      subst e
      cases k' with
      | true => exact ⟨g1, M1, l, a1, p⟩
      | false => exact p.now a1.abs rfl
theorem px_or (hK : X.K = G.K) : ∀ {xs : List Expr} {ss : List Sm} {x : Expr} {s : Sm}, PX G cu Wi X x s → PXs G cu Wi X xs ss → PE X (.BoolOp .Or (x :: xs) pos) (TEof G cu Wi (evOr (s :: ss))) ∧ PW X (.BoolOp .Or (x :: xs) pos) (TTof G cu Wi (evOrT (s :: ss)))
  | _, _, x, s, h, .nil => by
    refine ⟨pe_one h.pe, ?_⟩
    rw [evOrT_one]
    exact pw_or1 h.pt
  | _, _, x, s, h, .cons (x := y) (xs := ys) (s := t) (ss := ts) h1 hr => by
    obtain ⟨k1, k2⟩ := px_or hK h1 hr
    refine ⟨⟨fun pins st σ H Q I q => ?_⟩, ⟨fun wh pins st σ H Q I q => (pw_or h.pt k2).run wh pins st σ H Q I ?_⟩⟩
    · refine BoolOp_or (thn (h.pe.run pins st σ H _ I (TOf.bind (fa := s.v) (f := fun l w M1 => need (truW M1 w) fun k => if k then .ok w M1 else evOr (t :: ts) l M1) (rel1 := RW G) q)) fun v s1 ⟨xv, H1, I1, r1, g1, M1, l, w, a1, rw1, p⟩ => ?_)
      obtain ⟨k, hk, p⟩ := Post.need p
      refine truthy_then hK I1 a1.abs rw1 r1 hk fun s2 I2 => ?_
      cases k with
      | false => exact k1.run pins s2 σ H1 Q I2 ⟨g1, M1, l, a1, p⟩
      | true => exact ⟨xv, H1, I2, r1, p.now a1.abs rw1⟩
    · refine (TOf.bind (fa := s.t) (f := fun l k M1 => if k then .ok true M1 else evOrT (t :: ts) l M1) (rel1 := relB) q).imp fun k H1 ⟨g1, M1, l, k', a1, r1, p⟩ => ?_
      have e : k' = k := r1
      subst e
      cases k' with
      | false => exact ⟨g1, M1, l, a1, p⟩
      | true => exact p.now a1.abs rfl
theorem px_ife (hc : PX G cu Wi X c s_c) (ha : PX G cu Wi X a sa) (hb : PX G cu Wi X b sb) :
    PX G cu Wi X (.IfExp c a b pos) ⟨fun l M => (s_c.t l M).bind fun k M1 => if k then sa.v l M1 else sb.v l M1, fun l M => (s_c.t l M).bind fun k M1 => if k then sa.t l M1 else sb.t l M1⟩ := by
  refine ⟨(pe_ifExp hc.pt ha.pe hb.pe).imp fun σ H Q q => ?_, ⟨fun pins st σ H Q I q => ?_⟩, rfl⟩
  · refine (TOf.bind (fa := s_c.t) (f := fun l k M1 => if k then sa.v l M1 else sb.v l M1) (rel1 := relB) q).imp fun k H1 ⟨g1, M1, l, k', a1, r1, p⟩ => ?_
    have e : k' = k := r1
    subst e
    cases k' with
    | true => exact ⟨g1, M1, l, a1, p⟩
    | false => exact ⟨g1, M1, l, a1, p⟩
  · have e : PySem.isTrue (.IfExp c a b pos) X.env (eval (.IfExp c a b pos) X.env) = (PySem.isTrue c X.env (eval c X.env) >>= fun k => if k then PySem.isTrue a X.env (eval a X.env) else PySem.isTrue b X.env (eval b X.env)) := by rw [PySem.isTrue]
    rw [e]
    refine wpAny_bind (thn (hc.pt.run pins st σ H _ I (TOf.bind (fa := s_c.t) (f := fun l k M1 => if k then sa.t l M1 else sb.t l M1) (rel1 := relB) q)) fun k s1 ⟨H1, I1, g1, M1, l, k', a1, r1, p⟩ => ?_)
    have e : k' = k := r1
    subst e
    cases k' with
    | true => exact ha.pt.run pins s1 σ H1 Q I1 ⟨g1, M1, l, a1, p⟩
    | false => exact hb.pt.run pins s1 σ H1 Q I1 ⟨g1, M1, l, a1, p⟩
theorem px_chain {op1 op2 : CmpOp} (hK : X.K = G.K) (hu : X.A.units + 200 < cLine) (ha : PX G cu Wi X a sa) (hb : PX G cu Wi X b sb) (hc : PX G cu Wi X c s_c) (hm : lastMarks [op1, op2] [b, c] = false) :
    PX G cu Wi X (.Compare a [op1, op2] [b, c] pos) (.of (evChain op1 op2 sa sb s_c)) := by
  have key : ∀ {σ : L2.St} {H : Hp} {Q : VK}, TEof G cu Wi (evChain op1 op2 sa sb s_c) σ H Q → tChain (rCmp X.K op1) (rCmp X.K op2) (TEof G cu Wi sa.v) (TEof G cu Wi sb.v) (TEof G cu Wi s_c.v) σ H Q := by
    intro σ H Q ⟨g, M, l, a, p⟩
    rw [hK]
    refine ⟨g, M, l, a, (Post.bind (rel1 := RW G) a.abs.len p).imp fun v H1 ⟨g1, M1, x, a1, e1, r1, p1⟩ => ?_⟩
    have at1 := a.evo a1 e1
    refine ⟨g1, M1, l, at1, (Post.bind (rel1 := RW G) a1.len p1).imp fun u H2 ⟨g2, M2, y, a2, e2, r2, p2⟩ => ?_⟩
    have at2 := at1.evo a2 e2
    refine serves_cmp Wi σ g2 M2 H2 x y v u _ a2 (r1.evo a1.len e2) r2 ?_
    cases q : cmpW op1 x y M2 with
    | err => rw [q] at p2; exact p2.elim
    | exc c ns ws M3 => rw [q] at p2; exact p2
    | ok r M3 =>
      obtain ⟨rfl, k, rfl⟩ := cmpW_bl q
      rw [q] at p2
      intro g3 z H3 a3 e3 r3
      refine ⟨k, r3, ?_⟩
      have p3 := Post.evo a2.len e3 (show Post G Wi (RW G) g2 M3 H2 σ (if k then (s_c.v l M3).bind fun z M4 => cmpW op2 y z M4 else .ok (.bl k) M3) Q from p2)
      cases k with
      | false => exact p3.now a3 rfl
      | true =>
        refine ⟨g3, M3, l, at2.evo a3 e3, (Post.bind (rel1 := RW G) a3.len p3).imp fun u' H4 ⟨g4, M4, y', a4, e4, r4, p4⟩ => ?_⟩
        exact serves_cmp Wi σ g4 M4 H4 y y' u u' _ a4 ((r2.evo a2.len e3).evo a3.len e4) r4 p4
  have hbl : ∀ (l : LM) (M : Store) (r : W) (M1 : Store), evChain op1 op2 sa sb s_c l M = .ok r M1 → ∃ k, r = .bl k := by
    intro l M r M1 h
    unfold evChain at h
    cases h1 : sa.v l M with
    | ok x M2 =>
      rw [h1] at h
      simp only [Res.bind] at h
      cases h2 : sb.v l M2 with
      | ok y M3 =>
        rw [h2] at h
        simp only at h
        cases h3 : cmpW op1 x y M3 with
        | ok r' M4 =>
          obtain ⟨rfl, k, rfl⟩ := cmpW_bl h3
          rw [h3] at h
          simp only [truW, need] at h
          cases k with
          | false => simp at h; exact ⟨false, h.1.symm⟩
          | true =>
            simp only [if_true] at h
            cases h4 : s_c.v l M4 with
            | ok z M5 =>
              rw [h4] at h
              exact (cmpW_bl h).2
            | exc c ns ws M1 => rw [h4] at h; cases h
            | err => rw [h4] at h; cases h
        | exc c ns ws M1 => rw [h3] at h; cases h
        | err => rw [h3] at h; cases h
      | exc c ns ws M1 => rw [h2] at h; cases h
      | err => rw [h2] at h; cases h
    | exc c ns ws M1 => rw [h1] at h; cases h
    | err => rw [h1] at h; cases h
  exact ⟨(pe_chain (op_cmp (by omega) op1) (op_cmp (by omega) op2) ha.pe hb.pe hc.pe hm).imp fun σ H Q h => key h,
    (pt_chain (op_cmp (by omega) op1) (op_cmp (by omega) op2) ha.pe hb.pe hc.pe hm).imp fun σ H Q h => key (test_bl hbl h), rfl⟩
end
end PyI

namespace PyI
open PySem PySem.Spec PyProof.Rows L2
section
variable {G : GE} {Γ : Glo} {cu : Option Cu} {Wi : WX} {X : Cx} {g g' g1 : Gh} {M M' M1 : Store} {H H' H1 : Hp} {σ : L2.St} {l : LM} {N : List Str} {sc : Scope} {calm : Bool} {a b c : Expr} {sa sb s_c : Sm} {pos : Pos}
/-! ### items -/
def rIxDc : R2 := fun x y H Q => ∃ a v, x = .ref a ∧ DGet H a y (some v) ∧ Q v H
theorem ix_dict (hu : X.A.units + 1 < cLine) : IxR X rIxDc := by
  intro value slice pins s σ H x y v u Q I rx ry h hs
  obtain ⟨a, z, rfl, gt, q⟩ := h
  cases rx
  exact tail_any (dict_typeIs I gt) PySem.F.slot_dict_getitem.lookup (d_getItem hu I gt ry fun w' s' I' rw' => ⟨z, H, I', rw', q⟩) hs
theorem valV_zip {k : Key} {v : W} : ∀ {kvs : List (Key × V)} {ws : List W}, RWs G g M H ws (kvs.map (·.2)) → lookK k (kvs.map (·.1)) ws = some v → ∃ u, valV kvs k = some u ∧ RW G g M H v u
  | [], _, _, h => by simp [lookK] at h
  | (a, x) :: kvs, [], r, h => by simp [lookK] at h
  | (a, x) :: kvs, w :: ws, r, h => by
    obtain ⟨x', r', e, h1, h2⟩ := r
    cases e
    rw [List.map_cons] at h
    unfold lookK at h
    unfold valV
    by_cases q : a = k
    · rw [if_pos q] at h
      cases h
      exact ⟨x, by simp [List.find?_cons, q], h1⟩
    · rw [if_neg q] at h
      obtain ⟨u, e1, e2⟩ := valV_zip h2 h
      exact ⟨u, by rw [List.find?_cons_of_neg (by simpa using q)]; exact e1, e2⟩
theorem serves_ix : Serves2 G (fun x y H Q => rIx G.K x y H Q ∨ rIxDc x y H Q) idxW := by
  intro Wi σ g M H x y v u Q a rx ry p
  have dic : ∀ {x : W} {v : V} {ks : List Key} {ws : List W} {k : Key}, RW G g M H x v → vD M x = some (ks, ws) → u = kV k → Post G Wi (RW G) g M H σ (need (lookK k ks ws) fun w => .ok w M) Q → rIxDc v u H Q := by
    intro x v ks ws k rx hd hu p
    obtain ⟨q, kvs, rfl, h1, rfl, h3⟩ := vD_ok a hd rx
    obtain ⟨w, hw, p⟩ := p.need
    obtain ⟨z, e1, e2⟩ := valV_zip h3 hw
    exact ⟨q, z, rfl, .inl ⟨kvs, k, .of h1, hu, e1.symm⟩, p.now a e2⟩
  cases y with
  | int i =>
    have hu : u = .int i := ry
    have gen : ∀ {x : W} {v : V}, RW G g M H x v → Post G Wi (RW G) g M H σ (match vD M x with
        | some (ks, ws) => need (lookK (Sum.inl i) ks ws) fun w => .ok w M
        | none => need (vS M x) fun ws => need (atI ws i) fun w => .ok w M) Q → rIx G.K v u H Q ∨ rIxDc v u H Q := by
      intro x v rx p
      cases hd : vD M x with
      | some kw =>
        obtain ⟨ks, ws⟩ := kw
        rw [hd] at p
        exact .inr (dic (k := Sum.inl i) rx hd hu p)
      | none =>
        rw [hd] at p
        obtain ⟨ws, hs, p⟩ := p.need
        obtain ⟨w, hw, p⟩ := p.need
        obtain ⟨q, vs, rfl, h1, h2⟩ := vS_ok a hs rx
        unfold atI at hw
        obtain ⟨j, hj, hw⟩ := Option.bind_eq_some_iff.mp hw
        obtain ⟨z, hz, rz⟩ := h2.get hw
        have at_ : atI vs i = some z := by unfold atI; rw [← h2.length, hj]; exact hz
        rcases h1 with h1 | h1
        · exact .inl (.inl ⟨q, vs, i, z, rfl, hu, h1, at_, p.now a rz⟩)
        · exact .inl (.inr (.inl ⟨q, vs, i, z, rfl, hu, h1, at_, p.now a rz⟩))
    cases x with
    | str z =>
      simp only [idxW] at p
      split at p
      · rename_i hz
        obtain ⟨c, hc, p⟩ := p.need
        exact .inl (.inr (.inr ⟨z, i, c, rx, hu, hz, hc, p.now a rfl⟩))
      · exact p.no.elim
    | _ => exact gen rx p
  | str z =>
    have p : Post G Wi (RW G) g M H σ (need (vD M x) fun (ks, ws) => need (lookK (Sum.inr z) ks ws) fun w => .ok w M) Q := by cases x <;> exact p
    obtain ⟨⟨ks, ws⟩, hd, p⟩ := p.need
    exact .inr (dic (k := Sum.inr z) rx hd ry p)
  | _ => cases x <;> exact p.no.elim
def plainIxB : Expr → Bool
  | .Slice _ _ _ _ => false
  | _ => true
theorem plainIx_of {b : Expr} (h : plainIxB b = true) : PlainIx b := by
  intro o i
  cases b <;> first | rfl | cases h
theorem px_idx (hK : X.K = G.K) (hu : X.A.units + 200 < cLine) (ha : PX G cu Wi X a sa) (hb : PX G cu Wi X b sb) (hp : plainIxB b = true) : PX G cu Wi X (.Subscript a b pos) (.of fun l M => (evEs [sa, sb] l M).bind fun vs M1 => prm .idx vs M1) :=
  PX.of hK ((pe_ix (ix_seq.or (ix_dict (by omega))) ha.pe hb.pe (plainIx_of hp)).imp fun σ H Q h => by
    rw [hK]
    exact tOp_of serves_ix h) (fun _ => rfl) rfl
/-! ### slices -/
theorem cutW_rws {ws : List W} {vs : List V} {lo hi : Option Int} (r : RWs G g M H ws vs) : RWs G g M H (cutW ws lo hi) (cutV vs lo hi) := by
  unfold cutW cutV
  rw [r.length]
  exact (r.drop _).take _
theorem cutW_all {α : Type} {ws : List α} {lo hi : Option Int} (h : HT.sIx ws.length 0 lo = 0 ∧ HT.sIx ws.length ws.length hi = ws.length) : cutW ws lo hi = ws := by
  unfold cutW
  rw [h.1, h.2]; simp
def rSlA3 (K : PySem.W.Frag) : V → Option Int → Option Int → Hp → VK → Prop := fun x lo hi H Q => rSlL K x lo hi H Q ∨ (rSlA K x lo hi H Q ∨ rSlS x lo hi H Q)
theorem sl_ok {fz : Bool} {x : W} {v : V} {lo hi : Option Int} {Q : VK} (a : Abs G g M H) (r : RW G g M H x v) (p : Post G Wi (RW G) g M H σ (slcW fz x lo hi M) Q) : rSlA3 G.K v lo hi H Q := by
  have gen : ∀ {x : W} {v : V}, RW G g M H x v → Post G Wi (RW G) g M H σ (need (vL M x) fun ws => newL fz (cutW ws lo hi) M) Q → rSlA3 G.K v lo hi H Q := by
    intro x v r p
    obtain ⟨ws, hs, p⟩ := p.need
    obtain ⟨q, vs, rfl, h1, h2⟩ := vL_ok a hs r
    exact .inl ⟨q, vs, rfl, .inl h1, fun l hl => Post.newL a (cutW_rws h2) p hl⟩
  cases x with
  | str z =>
    simp only [slcW] at p
    split at p
    · rename_i hz
      exact .inr (.inr ⟨z, r, hz, p.now a rfl⟩)
    · exact p.no.elim
  | tup ws =>
    obtain ⟨q, vs, rfl, h1, h2⟩ := r
    refine .inr (.inl ⟨q, vs, rfl, h1.sq, fun hw => ?_, fun hw l hl => ?_⟩)
    · have e : cutW ws lo hi = ws := cutW_all (by rw [h2.length]; exact hw)
      have p : Post G Wi (RW G) g M H σ (.ok (.tup (cutW ws lo hi)) M) Q := p
      rw [e] at p
      exact p.now a ⟨q, vs, rfl, h1, h2⟩
    · obtain ⟨a1, e1, r1⟩ := a.newTup hl (cutW_rws (lo := lo) (hi := hi) h2)
      exact p _ _ _ a1 e1 r1
  | _ => exact gen r p
theorem intOf_ok {x : W} {v : V} {i : Int} (h : intOf x = some i) (r : RW G g M H x v) : v = .int i := by
  cases x <;> first | (cases h; done) | skip
  cases h
  exact r
theorem px_slc0 {fz : Bool} {p2 : Pos} (hK : X.K = G.K) (ha : PX G cu Wi X a sa) : PX G cu Wi X (.Subscript a (.Slice none none none p2) pos) (.of fun l M => (evEs [sa] l M).bind fun vs M1 => prm (.slc false false fz) vs M1) := by
  refine PX.of hK ((pe_slice (sl_list.or (sl_tupA.or sl_str)) ha.pe po_none po_none).imp fun σ H Q ⟨g, M, l, at_, p⟩ => ?_) (fun _ => rfl) rfl
  dsimp only at p
  rw [evEs_one] at p
  refine ⟨g, M, l, at_, (Post.bind (rel1 := RW G) at_.abs.len p).imp fun v H1 ⟨g1, M1, x, a1, e1, r1, p1⟩ => ?_⟩
  have := sl_ok a1 r1 p1
  rw [← hK] at this
  exact this
theorem px_slcL {fz : Bool} {p2 : Pos} (hK : X.K = G.K) (ha : PX G cu Wi X a sa) (hb : PX G cu Wi X b sb) : PX G cu Wi X (.Subscript a (.Slice (some b) none none p2) pos) (.of fun l M => (evEs [sa, sb] l M).bind fun vs M1 => prm (.slc true false fz) vs M1) := by
  refine PX.of hK ((pe_slice (sl_list.or (sl_tupA.or sl_str)) ha.pe (po_some hb.pe) po_none).imp fun σ H Q ⟨g, M, l, at_, p⟩ => ?_) (fun _ => rfl) rfl
  dsimp only at p
  rw [evEs_two] at p
  refine ⟨g, M, l, at_, (Post.bind (rel1 := RW G) at_.abs.len p).imp fun v H1 ⟨g1, M1, x, a1, e1, r1, p1⟩ => ?_⟩
  refine ⟨g1, M1, l, at_.evo a1 e1, (Post.bind (rel1 := RW G) a1.len p1).imp fun u H2 ⟨g2, M2, y, a2, e2, r2, p2⟩ => ?_⟩
  obtain ⟨i, hi, p2⟩ := Post.need p2
  have := sl_ok a2 (r1.evo a1.len e2) p2
  rw [← hK] at this
  exact ⟨i, intOf_ok hi r2, this⟩
theorem px_slcH {fz : Bool} {p2 : Pos} (hK : X.K = G.K) (ha : PX G cu Wi X a sa) (hb : PX G cu Wi X b sb) : PX G cu Wi X (.Subscript a (.Slice none (some b) none p2) pos) (.of fun l M => (evEs [sa, sb] l M).bind fun vs M1 => prm (.slc false true fz) vs M1) := by
  refine PX.of hK ((pe_slice (sl_list.or (sl_tupA.or sl_str)) ha.pe po_none (po_some hb.pe)).imp fun σ H Q ⟨g, M, l, at_, p⟩ => ?_) (fun _ => rfl) rfl
  dsimp only at p
  rw [evEs_two] at p
  refine ⟨g, M, l, at_, (Post.bind (rel1 := RW G) at_.abs.len p).imp fun v H1 ⟨g1, M1, x, a1, e1, r1, p1⟩ => ?_⟩
  refine ⟨g1, M1, l, at_.evo a1 e1, (Post.bind (rel1 := RW G) a1.len p1).imp fun u H2 ⟨g2, M2, y, a2, e2, r2, p2⟩ => ?_⟩
  obtain ⟨i, hi, p2⟩ := Post.need p2
  have := sl_ok a2 (r1.evo a1.len e2) p2
  rw [← hK] at this
  exact ⟨i, intOf_ok hi r2, this⟩
theorem px_slcB {fz : Bool} {p2 : Pos} (hK : X.K = G.K) (ha : PX G cu Wi X a sa) (hb : PX G cu Wi X b sb) (hc : PX G cu Wi X c s_c) : PX G cu Wi X (.Subscript a (.Slice (some b) (some c) none p2) pos) (.of (evSlc fz sa sb s_c)) := by
  refine PX.of hK ((pe_slice (sl_list.or (sl_tupA.or sl_str)) ha.pe (po_some hb.pe) (po_some hc.pe)).imp fun σ H Q ⟨g, M, l, at_, p⟩ => ?_) (fun _ => rfl) rfl
  refine ⟨g, M, l, at_, (Post.bind (rel1 := RW G) at_.abs.len p).imp fun v H1 ⟨g1, M1, x, a1, e1, r1, p1⟩ => ?_⟩
  have at1 := at_.evo a1 e1
  refine ⟨g1, M1, l, at1, (Post.bind (rel1 := RW G) a1.len p1).imp fun u H2 ⟨g2, M2, y, a2, e2, r2, p2⟩ => ?_⟩
  have at2 := at1.evo a2 e2
  obtain ⟨i, hi, p2⟩ := Post.need p2
  refine ⟨i, intOf_ok hi r2, g2, M2, l, at2, (Post.bind (rel1 := RW G) a2.len p2).imp fun w H3 ⟨g3, M3, z, a3, e3, r3, p3⟩ => ?_⟩
  obtain ⟨j, hj, p3⟩ := Post.need p3
  have := sl_ok a3 ((r1.evo a1.len e2).evo a2.len e3) p3
  rw [← hK] at this
  exact ⟨j, intOf_ok hj r3, this⟩

/-! ### displays -/
theorem px_tup {xs : List Expr} {ss : List Sm} {k : Nat} (hK : X.K = G.K) (h : PXs G cu Wi X xs ss) : PX G cu Wi X (.Tuple xs k pos) (.of fun l M => (evEs ss l M).bind fun vs M1 => prm .tup vs M1) := by
  refine PX.of hK ((pe_tup h.pa).imp fun σ H Q q => ?_) (fun _ => rfl) rfl
  refine (TOf.bind (fa := evEs ss) (f := fun _ vs M1 => prm .tup vs M1) (rel1 := RWs G) q).imp fun vs H1 ⟨g1, M1, l, ws, a1, r1, p⟩ => ?_
  simp only [prm] at p
  split at p
  · rename_i hz
    refine ⟨by rw [← r1.length]; exact hz, fun q hq => ?_⟩
    obtain ⟨a2, e2, r2⟩ := a1.abs.newTup hq r1
    exact p _ _ _ a2 e2 r2
  · exact p.no.elim
theorem px_lst {xs : List Expr} {ss : List Sm} {fz : Bool} (hK : X.K = G.K) (h : PXs G cu Wi X xs ss) : PX G cu Wi X (.List xs pos) (.of fun l M => (evEs ss l M).bind fun vs M1 => prm (.lst fz) vs M1) := by
  refine PX.of hK ((pe_lst h.pa).imp fun σ H Q q => ?_) (fun _ => rfl) rfl
  refine (TOf.bind (fa := evEs ss) (f := fun _ vs M1 => prm (.lst fz) vs M1) (rel1 := RWs G) q).imp fun vs H1 ⟨g1, M1, l, ws, a1, r1, p⟩ => ?_
  simp only [prm] at p
  split at p
  · rename_i hz
    exact ⟨by rw [← r1.length]; exact hz, fun q hq => Post.newL a1.abs r1 p hq⟩
  · exact p.no.elim
/-! ### calls of built-in functions -/
theorem bl_names : ∀ b : Bl, b.name ∈ bltNames ∧ (b.name ≠ "__name__") ∧ (b.name == ("__debug__" : Str)) = false := by intro b; cases b <;> decide +kernel
theorem px_blt {b : Bl} {fz : Bool} {x : Expr} {xs : List Expr} {s : Sm} {ss : List Sm} {p : Pos} (Gd : Good G N sc calm X) (hc : b.calm = true → X.calm = true) (hg : Gl X b.name) (hx : PX G cu Wi X x s) (h : PXs G cu Wi X xs ss) :
    PX G cu Wi X (.Call (.Name b.name p) (x :: xs) [] pos) (.of fun l M => (evEs (s :: ss) l M).bind fun vs M1 => prm (.blt b fz) vs M1) := by
  obtain ⟨n1, n2, n3⟩ := bl_names b
  have hm := Gd.blt _ n1
  have hr := call_bl (X := X) Gd.gd Gd.un b hc
  have all := PXs.cons hx h
  have key : ∀ {σ : L2.St} {H : Hp} {Q : VK}, TEof G cu Wi (fun l M => (evEs (s :: ss) l M).bind fun vs M1 => prm (.blt b fz) vs M1) σ H Q → tCB (rBl X.K b) (TAof G cu Wi (evEs (s :: ss))) σ H Q := fun {σ H Q} q => by
    rw [Gd.K]
    exact tCB_of (serves_bl (fz := fz)) q
  have he : starEach (x :: xs) X.env = (false, eval x X.env) :: starEach xs X.env := starEach_cons hx.ns
  have hv : bootBuiltins b.name = some b.fn := by cases b <;> rfl
  refine PX.of Gd.K ?_ (fun _ => rfl) rfl
  have cb : ∀ id, b.fn = .builtin id → PE X (.Call (.Name b.name p) (x :: xs) [] pos) (TEof G cu Wi fun l M => (evEs (s :: ss) l M).bind fun vs M1 => prm (.blt b fz) vs M1) := fun id e => by
    rw [e] at hr hv
    exact (pe_callB hr hg hm hv all.pa n2 n3 he (h.stars pos)).imp fun σ H Q q => key q
  have ct : ∀ T, b.fn = .type T → PE X (.Call (.Name b.name p) (x :: xs) [] pos) (TEof G cu Wi fun l M => (evEs (s :: ss) l M).bind fun vs M1 => prm (.blt b fz) vs M1) := fun id e => by
    rw [e] at hr hv
    exact (pe_callTy hr hg hm hv all.pa n2 n3 he (h.stars pos)).imp fun σ H Q q => key q
  cases b <;> first | exact cb _ rfl | exact ct _ rfl
end
end PyI

namespace PyI
open PySem PySem.Spec PyProof.Rows L2
section
variable {G : GE} {Γ : Glo} {cu : Option Cu} {Wi : WX} {X : Cx} {g g' g1 : Gh} {M M' M1 : Store} {H H' H1 : Hp} {σ : L2.St} {l : LM} {N : List Str} {sc : Scope} {calm : Bool} {a b c : Expr} {sa sb s_c : Sm} {pos : Pos}
/-! ### a live cell is written -/
theorem Abs.putE {n : Nat} {p : Addr} {c0 c1 : Con} {o : HO} (a : Abs G g M H) (hn : g.R[n]? = some p) (hc : M[n]? = some ⟨true, c0⟩) : Evo g M H g (M.set n ⟨true, c1⟩) (upd H p o) := by
  refine ⟨⟨[], by simp, by simp⟩, rfl, by simp, fun i c h1 h2 => ?_, fun b u h1 h2 => ?_, fun b h => ?_⟩
  · by_cases hi : n = i
    · subst hi; rw [hc] at h1; cases h1; cases h2
    · rw [List.getElem?_set_ne hi]; exact h1
  · by_cases hb : b = p
    · subst hb
      have := h2 n _ hn hc
      cases this
    · rw [upd_ne hb]; exact h1
  · by_cases hb : b = p
    · subst hb; rw [upd_same]; simp
    · rw [upd_ne hb]; exact h
theorem Abs.put {n : Nat} {p : Addr} {c0 c1 : Con} {o : HO} (a : Abs G g M H) (hn : g.R[n]? = some p) (hc : M[n]? = some ⟨true, c0⟩) (hw : CellAt G g (M.set n ⟨true, c1⟩) (upd H p o) p c1) :
    Abs G g (M.set n ⟨true, c1⟩) (upd H p o) ∧ Evo g M H g (M.set n ⟨true, c1⟩) (upd H p o) := by
  have e := a.putE (c1 := c1) (o := o) hn hc
  have hl := (List.getElem?_eq_some_iff.mp hc).1
  refine ⟨⟨by simp [a.len], a.nd, a.nz, fun z hz => e.dom z (a.zd z hz), fun i c q h1 h2 => ?_⟩, e⟩
  by_cases hi : n = i
  · subst hi
    rw [List.getElem?_set_self hl] at h1
    cases h1
    rw [hn] at h2
    cases h2
    exact hw
  · rw [List.getElem?_set_ne hi] at h1
    refine (a.cell i c q h1 h2).evo a.len e fun u hu => ?_
    have hne : q ≠ p := fun z => hi (a.inj hn (z ▸ h2))
    rw [upd_ne hne]; exact hu
/-- a live list is rewritten: its items now, and the step -/
theorem putL_ok {n : Nat} {f : List W → Option (W × List W)} {v : V} {Q : VK} (a : Abs G g M H) (r : RW G g M H (.ref n) v) (p : Post G Wi (RW G) g M H σ (putL n f M) Q) :
    ∃ q xs ws w ws', v = .ref q ∧ H q = some (.lst xs) ∧ RWs G g M H ws xs ∧ f ws = some (w, ws') ∧ ∀ u ys, RW G g M H w u → RWs G g M H ws' ys → Q u (upd H q (.lst ys)) := by
  obtain ⟨q, hq, rfl⟩ := r
  unfold putL at p
  split at p
  · rename_i ws hc
    obtain ⟨⟨w, ws'⟩, hf, p⟩ := p.need
    obtain ⟨xs, h1, h2⟩ := a.cell n _ q hc hq
    refine ⟨q, xs, ws, w, ws', rfl, h1, h2, hf, fun u ys ru rys => ?_⟩
    have e := a.putE (c1 := .lst ws') (o := .lst ys) hq hc
    obtain ⟨a1, e1⟩ := a.put (c1 := .lst ws') (o := .lst ys) hq hc ⟨ys, upd_same, rys.evo a.len e⟩
    exact p _ _ _ a1 e1 (ru.evo a.len e1)
  · exact p.no.elim

/-- l.extend(b), b any list that stands -/
def rExtR : V → List V → Hp → VK → Prop := fun x vs H Q => ∃ l b xs zs, x = .ref l ∧ vs = [.ref b] ∧ H l = some (.lst xs) ∧ Rd H b (.lst zs) ∧ xs.length + zs.length ≤ sizeLine ∧ Q .non (upd H l (.lst (xs ++ zs)))
theorem mt_extR : MtR X "list.extend" rExtR := by
  intro pins s σ H x vs v us Q I rx rv h
  obtain ⟨l, b, xs, zs, rfl, rfl, hH, hB, hz, q⟩ := h
  cases rx
  obtain ⟨u, rfl, ru⟩ := rv.one
  cases ru
  obtain ⟨z, its, n, r, hl, e⟩ := I.lstM hH
  obtain ⟨z2, its2, n2, r2, hl2, e2⟩ := Inv_lstR I hB
  have hsz : its.toArray.size + its2.toArray.size ≤ sizeLine := by rw [List.size_toArray, List.size_toArray]; omega
  have hlong : ¬ (!its.toArray.isEmpty && Builtin.List.listTooLong (its.toArray.size + its2.toArray.size)) = true := by
    rw [notLongL hsz, Bool.and_false]
    exact Bool.false_ne_true
  refine call_meets F.slot_list_extend ⟨_, e, rfl⟩ F.entry_list_extend (F.args_list_extend_2 _ _)
    (AutoSeq1.list_extend_list_list_0 l its.toArray n b its2.toArray n2 hlong (by rw [List.size_toArray]; omega) (by omega)) ⟨e, e2, ?_⟩
  refine ⟨.non, _, I.lset (its' := its ++ its2) hH e (by simp) (r.append r2) ?_, rfl, q⟩
  rw [List.length_append]
  omega

/-! ### methods of built-in types -/
def Mt.ty : Mt → String
  | .join | .split | .upper | .startswith | .count => "str"
  | .get | .update => "dict"
  | _ => "list"
def rMt (K : PySem.W.Frag) : Mt → V → List V → Hp → VK → Prop
  | .join => fun x xs H Q => ∃ a p, ∃ ys : List Str, x = .str a ∧ xs = [.ref p] ∧ (SqL K H p (ys.map V.str) ∨ SqT K H p (ys.map V.str)) ∧ (ys.map (·.length)).sum + ys.length * a.length ≤ 16777216 ∧ Q (.str (Txt.join a ys)) H
  | .split => fun x xs H Q => ∃ a b, x = .str a ∧ xs = [.str b] ∧ (b.length == 0) = false ∧ a.length + 2 ≤ sizeLine ∧ rNewStrs (Txt.split a b) H Q
  | .upper => fun x xs H Q => ∃ a, x = .str a ∧ xs = [] ∧ a.length ≤ 5592405 ∧ Q (.str (Txt.upper a)) H
  | .startswith => fun x xs H Q => ∃ a b, x = .str a ∧ xs = [.str b] ∧ Q (.bl (Txt.startswith a b)) H
  | .count => fun x xs H Q => ∃ a b, x = .str a ∧ xs = [.str b] ∧ Q (.int (Txt.count a b)) H
  | .append => rAppend
  | .extend => rExtR
  | .pop => rPop
  | .popAt => rPopAt
  | .reverse => rReverse
  | .clear => rClear
  | _ => fun _ _ _ _ => False
def Mt.id : Mt → String
  | .join => "str.join" | .split => "str.split" | .upper => "str.upper" | .startswith => "str.startswith" | .count => "str.count"
  | .append => "list.append" | .extend => "list.extend" | .pop => "list.pop" | .popAt => "list.pop" | .reverse => "list.reverse" | .clear => "list.clear" | .insert => "list.insert" | .index => "list.index"
  | .get => "dict.get" | .update => "dict.update"
def Mt.ok : Mt → Bool
  | .insert | .index | .get | .update => false
  | _ => true
theorem mt_all {m : Mt} (h : m.ok = true) : MtR X m.id (rMt X.K m) := by
  cases m with
  | join => exact mt_join
  | split => exact mt_split
  | upper => exact mt_upper
  | startswith => exact mt_startswith
  | count => exact mt_count
  | append => exact mt_append
  | extend => exact mt_extR
  | pop => exact mt_pop
  | popAt => exact mt_popAt
  | reverse => exact mt_reverse
  | clear => exact mt_clear
  | _ => cases h
theorem mt_slot {m : Mt} (h : m.ok = true) : PlainAttrs m.ty ∧ Slot m.ty m.name m.id ∧ typeOf (.builtin m.id) = pure (.type "method_descriptor") := by
  cases m with
  | join => exact ⟨F.plainAttrs_str, F.slot_str_join, F.type_str_join⟩
  | split => exact ⟨F.plainAttrs_str, F.slot_str_split, F.type_str_split⟩
  | upper => exact ⟨F.plainAttrs_str, F.slot_str_upper, F.type_str_upper⟩
  | startswith => exact ⟨F.plainAttrs_str, F.slot_str_startswith, F.type_str_startswith⟩
  | count => exact ⟨F.plainAttrs_str, F.slot_str_count, F.type_str_count⟩
  | append => exact ⟨F.plainAttrs_list, F.slot_list_append, F.type_list_append⟩
  | extend => exact ⟨F.plainAttrs_list, F.slot_list_extend, F.type_list_extend⟩
  | pop => exact ⟨F.plainAttrs_list, F.slot_list_pop, F.type_list_pop⟩
  | popAt => exact ⟨F.plainAttrs_list, F.slot_list_pop, F.type_list_pop⟩
  | reverse => exact ⟨F.plainAttrs_list, F.slot_list_reverse, F.type_list_reverse⟩
  | clear => exact ⟨F.plainAttrs_list, F.slot_list_clear, F.type_list_clear⟩
  | _ => cases h
theorem kind_ok {m : Mt} {w : W} {v : V} (ho : m.ok = true) (a : Abs G g M H) (h : kindW m w M = true) (r : RW G g M H w v) : tyV G.K m.ty v H := by
  have lst : m.ty = "list" → (vL M w).isSome = true → tyV G.K m.ty v H := fun e h => by
    obtain ⟨ws, hs⟩ := Option.isSome_iff_exists.mp h
    obtain ⟨q, vs, rfl, h1, h2⟩ := vL_ok a hs r
    rw [e]
    exact .inl ⟨rfl, vs, .inl h1⟩
  have str : m.ty = "str" → (∃ x, w = .str x) → tyV G.K m.ty v H := fun e h => by
    obtain ⟨x, rfl⟩ := h
    rw [show v = .str x from r, e]
    exact rfl
  have isS : isStrW w = true → ∃ x, w = .str x := fun h => by
    clear str
    cases w <;> first | (cases h; done) | exact ⟨_, rfl⟩
  cases m <;> first | (cases ho; done) | (refine str rfl (isS ?_); exact h) | exact lst rfl h
theorem RWs.dropLast {ws : List W} {vs : List V} (r : RWs G g M H ws vs) : RWs G g M H ws.dropLast vs.dropLast := by
  rw [List.dropLast_eq_take, List.dropLast_eq_take, r.length]
  exact r.take _
theorem strs_new {fz : Bool} {ys : List Str} {Q : VK} (a : Abs G g M H) (p : Post G Wi (RW G) g M H σ (newL fz (ys.map .str) M) Q) : rNewStrs ys H Q := by
  have r : RWs G g M H (ys.map .str) (ys.map V.str) := by
    induction ys with
    | nil => rfl
    | cons y ys ih =>
      refine .cons rfl ?_
      clear p ih
      induction ys with
      | nil => rfl
      | cons z zs ih => exact .cons rfl ih
  exact fun q hq => Post.newL a r p hq
theorem strs_seq {w : W} {ys : List Str} {v : V} (a : Abs G g M H) (h : strsW M w = some ys) (r : RW G g M H w v) : ∃ p, v = .ref p ∧ (SqL G.K H p (ys.map V.str) ∨ SqT G.K H p (ys.map V.str)) := by
  unfold strsW at h
  obtain ⟨ws, h1, h2⟩ := Option.bind_eq_some_iff.mp h
  obtain ⟨q, vs, rfl, h3, h4⟩ := vS_ok a h1 r
  have e := strs_ok h2 h4
  subst e
  exact ⟨q, rfl, h3⟩
theorem serves_mt {m : Mt} {fz : Bool} {w : W} {ws : List W} {v : V} {vs : List V} {Q : VK} (a : Abs G g M H) (r : RW G g M H w v) (rs : RWs G g M H ws vs) (p : Post G Wi (RW G) g M H σ (mthW m fz (w :: ws) M) Q) : rMt G.K m v vs H Q := by
  match ws, rs, p with
  | [], rs, p =>
    have e : vs = [] := rs
    subst e
    cases m <;> first | (cases w <;> exact p.no.elim) | skip
    all_goals (cases w <;> first | exact p.no.elim | skip)
    · rename_i x _
      rw [show v = .str x from r]
      simp only [mthW, mth0] at p
      split at p
      · rename_i hz
        exact ⟨x, rfl, rfl, hz, p.now a rfl⟩
      · exact p.no.elim
    · obtain ⟨q, xs, us, x, us', rfl, h1, h2, h3, h4⟩ := putL_ok a r p
      simp only [Option.map_eq_some_iff] at h3
      obtain ⟨y, hy, e⟩ := h3
      cases e
      obtain ⟨z, hz, rz⟩ := h2.get hy
      exact ⟨q, xs, z, rfl, rfl, h1, by rw [← h2.length]; exact hz, h4 z _ rz h2.dropLast⟩
    · obtain ⟨q, xs, us, x, us', rfl, h1, h2, h3, h4⟩ := putL_ok a r p
      cases h3
      exact ⟨q, xs, rfl, rfl, h1, h4 .non _ rfl h2.reverse⟩
    · obtain ⟨q, xs, us, x, us', rfl, h1, h2, h3, h4⟩ := putL_ok a r p
      cases h3
      exact ⟨q, xs, rfl, rfl, h1, h4 .non _ rfl rfl⟩
  | [y], rs, p =>
    obtain ⟨u, rfl, ry⟩ := rs.one_inv
    cases m <;> first | exact p.no.elim | skip
    · -- join
      cases w <;> first | exact p.no.elim | skip
      rename_i x _
      rw [show v = .str x from r]
      simp only [mthW, mth1] at p
      obtain ⟨ys, hs, p⟩ := p.need
      split at p
      · rename_i hz
        obtain ⟨q, rfl, h1⟩ := strs_seq a hs ry
        exact ⟨x, q, ys, rfl, rfl, h1, hz, p.now a rfl⟩
      · exact p.no.elim
    · -- split
      cases w <;> first | exact p.no.elim | skip
      rename_i x _
      cases y <;> first | exact p.no.elim | skip
      rename_i z
      rw [show v = .str x from r, show u = .str z from ry]
      simp only [mthW, mth1] at p
      split at p
      · rename_i hz
        exact ⟨x, z, rfl, rfl, by simpa using hz.1, hz.2, strs_new a p⟩
      · exact p.no.elim
    · -- startswith
      cases w <;> first | exact p.no.elim | skip
      rename_i x _
      cases y <;> first | exact p.no.elim | skip
      rename_i z
      rw [show v = .str x from r, show u = .str z from ry]
      exact ⟨x, z, rfl, rfl, p.now a rfl⟩
    · -- count
      cases w <;> first | exact p.no.elim | skip
      rename_i x _
      cases y <;> first | exact p.no.elim | skip
      rename_i z
      rw [show v = .str x from r, show u = .str z from ry]
      exact ⟨x, z, rfl, rfl, p.now a rfl⟩
    · -- append
      cases w <;> first | exact p.no.elim | skip
      obtain ⟨q, xs, us, x, us', rfl, h1, h2, h3, h4⟩ := putL_ok a r p
      split at h3
      · rename_i hz
        cases h3
        exact ⟨q, xs, u, rfl, rfl, h1, by rw [← h2.length]; exact hz, h4 .non _ rfl (h2.append (.one ry))⟩
      · cases h3
    · -- extend
      cases w <;> first | exact p.no.elim | skip
      simp only [mthW, mth1] at p
      obtain ⟨zs, hs, p⟩ := p.need
      obtain ⟨q, xs, us, x, us', rfl, h1, h2, h3, h4⟩ := putL_ok a r p
      obtain ⟨q2, xs2, rfl, k1, k2⟩ := vL_ok a hs ry
      split at h3
      · rename_i hz
        cases h3
        exact ⟨q, q2, xs, xs2, rfl, rfl, h1, k1, by rw [← h2.length, ← k2.length]; exact hz, h4 .non _ rfl (h2.append k2)⟩
      · cases h3
    · -- pop(i)
      cases w <;> first | exact p.no.elim | skip
      cases y <;> first | exact p.no.elim | skip
      rename_i i
      obtain ⟨q, xs, us, x, us', rfl, h1, h2, h3, h4⟩ := putL_ok a r p
      split at h3
      · rename_i hz
        obtain ⟨k, hk, h3⟩ := Option.bind_eq_some_iff.mp h3
        obtain ⟨y, hy, e⟩ := Option.map_eq_some_iff.mp h3
        cases e
        obtain ⟨z, hz2, rz⟩ := h2.get hy
        exact ⟨q, xs, i, k, z, rfl, by rw [show u = .int i from ry], h1, hz.1, hz.2, by rw [← h2.length]; exact hk, hz2, h4 z _ rz (h2.eraseIdx k)⟩
      · cases h3
  | _ :: _ :: _, rs, p => exact p.no.elim
end
end PyI

namespace PyI
open PySem PySem.Spec PyProof.Rows L2
def baseB : Expr → Bool
  | .Call (.Name id _) [] [] _ => id != "super"
  | _ => true
theorem base_of {o : Expr} (h : baseB o = true) {attr : Str} {env : Env} {whole : Sem Value} : attributeBase o attr env whole = whole := by
  unfold attributeBase
  split
  · rename_i id p pos
    have h' : (id != ("super" : Str)) = true := h
    rw [h']
    rfl
  · rfl
section
variable {G : GE} {Γ : Glo} {cu : Option Cu} {Wi : WX} {X : Cx} {g g' g1 : Gh} {M M' M1 : Store} {H H' H1 : Hp} {σ : L2.St} {l : LM} {N : List Str} {sc : Scope} {calm : Bool} {a b c : Expr} {sa sb s_c : Sm} {pos : Pos}
theorem px_mth {m : Mt} {fz : Bool} {o : Expr} {so : Sm} {xs : List Expr} {ss : List Sm} {apos : Pos} (hK : X.K = G.K) (hm : m.ok = true) (hb : baseB o = true) (hl : (apos.endLine == pos.line) = true) (hn : xs.length < 28) (ho : PX G cu Wi X o so) (h : PXs G cu Wi X xs ss) :
    PX G cu Wi X (.Call (.Attribute o m.name apos) xs [] pos) (.of fun l M => (so.v l M).bind fun w M1 => if kindW m w M1 then (evEs ss l M1).bind fun vs M2 => mthW m fz (w :: vs) M2 else .err) := by
  obtain ⟨s1, s2, s3⟩ := mt_slot hm
  refine PX.of hK ?_ (fun _ => rfl) rfl
  cases h with
  | nil =>
    refine (pe_bm0 s1 s2 s3 (mt_all hm) ho.pe (base_of hb) hl).imp fun σ H Q q => ?_
    refine (TOf.bind (fa := so.v) (f := fun l w M1 => if kindW m w M1 then (evEs [] l M1).bind fun vs M2 => mthW m fz (w :: vs) M2 else .err) (rel1 := RW G) q).imp fun v H1 ⟨g1, M1, l, w, a1, r1, p⟩ => ?_
    split at p
    · rename_i hk
      rw [hK]
      exact ⟨kind_ok hm a1.abs hk r1, serves_mt (fz := fz) (ws := []) a1.abs r1 (show RWs G g1 M1 H1 [] [] from rfl) p⟩
    · exact p.no.elim
  | @cons x xs s ss hx hr =>
    have few : ((backTo pos (starEach (x :: xs) X.env)).all (fun x => !x.1) && (backToKw pos (keywordEach [] X.env)).all (fun x => x.1.isSome) && decide ((x :: xs).length + ([] : List Keyword).length + (if ([] : List Keyword).isEmpty then 0 else 1) < 30)) = true := by
      have e := (PXs.cons hx hr).stars pos
      have e1 : (backTo pos (starEach (x :: xs) X.env)).all (fun x => !x.1) = true := by
        rw [List.all_eq_true]
        rw [List.any_eq_false] at e
        intro y hy
        simpa using e y hy
      rw [e1]
      simp at hn ⊢
      refine ⟨fun a b hab => ?_, by omega⟩
      have : backToKw pos (keywordEach [] X.env) = [] := rfl
      rw [this] at hab
      cases hab
    refine (pe_bm s1 s2 s3 (mt_all hm) ho.pe (PXs.cons hx hr).pa (base_of hb) few hl (starEach_cons hx.ns) (hr.stars pos)).imp fun σ H Q q => ?_
    refine (TOf.bind (fa := so.v) (f := fun l w M1 => if kindW m w M1 then (evEs (s :: ss) l M1).bind fun vs M2 => mthW m fz (w :: vs) M2 else .err) (rel1 := RW G) q).imp fun v H1 ⟨g1, M1, l, w, a1, r1, p⟩ => ?_
    split at p
    · rename_i hk
      rw [hK]
      refine ⟨kind_ok hm a1.abs hk r1, g1, M1, l, a1, (Post.bind (rel1 := RWs G) a1.abs.len p).imp fun vs H2 ⟨g2, M2, ws, a2, e2, r2, p2⟩ => serves_mt a2 (r1.evo a1.abs.len e2) r2 p2⟩
    · exact p.no.elim

/-! ### keywords -/
def kwNames (kws : List Keyword) : List (Option Str) := kws.map (·.arg)
theorem kwEach {kws : List Keyword} {env : Env} : keywordEach kws env = kws.map fun k => (k.arg, eval k.value env) := by
  induction kws with
  | nil => rfl
  | cons k ks ih =>
    obtain ⟨a, v, p⟩ := k
    show (a, eval v env) :: keywordEach ks env = _
    rw [ih]; rfl
theorem backKw_fst {pos : Pos} {l : List (Option Str × Sem Value)} : (backToKw pos l).map (·.1) = l.map (·.1) := by
  unfold backToKw
  rw [List.map_map]
  rfl
theorem kw_all {kws : List Keyword} {ks : List Str} {env : Env} {pos : Pos} (h : kws.map (·.arg) = ks.map some) : (backToKw pos (keywordEach kws env)).all (·.1.isSome) = true ∧ (backToKw pos (keywordEach kws env)).filterMap (·.1) = ks ∧ (backToKw pos (keywordEach kws env)).any (·.1.isNone) = false := by
  have e : (backToKw pos (keywordEach kws env)).map (·.1) = ks.map some := by
    rw [backKw_fst, kwEach, List.map_map, ← h]; rfl
  have e1 : ∀ l : List (Option Str × Sem Value), l.map (·.1) = ks.map some → l.all (·.1.isSome) = true ∧ l.filterMap (·.1) = ks ∧ l.any (·.1.isNone) = false := by
    clear e h
    induction ks with
    | nil =>
      intro l h
      have : l = [] := by simpa using h
      subst this; exact ⟨rfl, rfl, rfl⟩
    | cons k ks ih =>
      intro l h
      cases l with
      | nil => cases h
      | cons q l =>
        obtain ⟨q1, q2⟩ := q
        rw [List.map_cons, List.map_cons] at h
        injection h with h1 h2
        have h1' : q1 = some k := h1
        subst h1'
        obtain ⟨i1, i2, i3⟩ := ih l h2
        refine ⟨by rw [List.all_cons, i1]; rfl, by rw [List.filterMap_cons_some (f := fun x : Option Str × Sem Value => x.1) (b := k) rfl, i2], by rw [List.any_cons, i3]; rfl⟩
  exact e1 _ e
theorem evEs_append {s1 s2 : List Sm} : evEs (s1 ++ s2) l M = (evEs s1 l M).bind fun a M1 => (evEs s2 l M1).bind fun b M2 => .ok (a ++ b) M2 := by
  induction s1 generalizing M with
  | nil =>
    simp only [List.nil_append, evEs, Res.bind]
    cases evEs s2 l M <;> rfl
  | cons s ss ih =>
    simp only [List.cons_append, evEs]
    cases s.v l M with
    | ok w M1 =>
      simp only [Res.bind]
      rw [ih]
      cases evEs ss l M1 with
      | ok ws M2 =>
        simp only [Res.bind]
        cases evEs s2 l M2 <;> rfl
      | exc c ns ws M2 => rfl
      | err => rfl
    | exc c ns ws M2 => rfl
    | err => rfl
/-- the keywords' values -/
theorem PXs.pk {kws : List Keyword} {ss : List Sm} (h : PXs G cu Wi X (kws.map (·.value)) ss) : PK X kws (TAof G cu Wi (evEs ss)) := by
  have imp : ∀ {kws : List Keyword} {t t' : TA}, PK X kws t → (∀ σ H Q, t' σ H Q → t σ H Q) → PK X kws t' := fun h k => ⟨fun pos pins s σ H Q I q => h.run pos pins s σ H Q I (k _ _ _ q)⟩
  induction kws generalizing ss with
  | nil =>
    cases h
    exact imp pk_nil fun σ H Q ⟨g, M, l, a, p⟩ => p.now a.abs rfl
  | cons k ks ih =>
    obtain ⟨nm, e, kp⟩ := k
    cases h with
    | @cons _ _ s ss h1 h2 =>
      refine imp (pk_cons h1.pe (ih h2)) fun σ H Q q => ?_
      refine (TOf.bind (fa := s.v) (f := fun l w M1 => (evEs ss l M1).bind fun ws M2 => .ok (w :: ws) M2) (rel1 := RW G) q).imp fun v H1 ⟨g1, M1, l, w, a1, r1, p⟩ => ?_
      refine ⟨g1, M1, l, a1, (p.bind (rel1 := RWs G) a1.abs.len).imp fun vs H2 ⟨g2, M2, ws, a2, e2, r2, p2⟩ => ?_⟩
      exact p2.now a2 ⟨v, vs, rfl, r1.evo a1.abs.len e2, r2⟩
theorem backTo_any {l : List (Bool × Sem Value)} {p : Pos} : (backTo p l).any (·.1) = l.any (·.1) := by
  unfold backTo
  rw [List.any_map]
  rfl
theorem PXs.length {xs : List Expr} {ss : List Sm} (h : PXs G cu Wi X xs ss) : xs.length = ss.length := by
  induction h with
  | nil => rfl
  | cons _ _ ih => simp [ih]
/-- the arguments by place and by name, then the call -/
theorem callWith_px {f : Value} {first : List Value} {xs : List Expr} {kws : List Keyword} {ss ts : List Sm} {ks : List Str} {pins : List (Addr × Obj)} {s : Shared} {Qf : Value → Shared → Prop} {R : List V → Hp → Prop} (hk : PySem.W.keepIn X.K f = true) (h : PXs G cu Wi X xs ss) (hw : PXs G cu Wi X (kws.map (·.value)) ts) (hn : kws.map (·.arg) = ks.map some)
    (I : Inv X pins σ H s) (q : TAof G cu Wi (evEs (ss ++ ts)) σ H R)
    (k : ∀ (us ws : List Value) (vs zs : List V) (s1 : Shared) (H1 : Hp), Inv X pins σ H1 s1 → Vals vs us → Vals zs ws → us.length = xs.length → ws.length = ks.length → R (vs ++ zs) H1 → wpAny (model X.prog X.w) X.A (call f (first ++ us) (ks.zip ws)) Qf X.xe s1) :
    wpAny (model X.prog X.w) X.A (callWith pos f first (backTo pos (starEach xs X.env)) (backToKw pos (keywordEach kws X.env))) Qf X.xe s := by
  obtain ⟨k1, k2, k3⟩ := kw_all (env := X.env) (pos := pos) hn
  have klen : ks.length = ts.length := by
    rw [← hw.length, List.length_map]
    have := congrArg List.length hn
    simpa using this.symm
  have q1 : TAof G cu Wi (evEs ss) σ H (fun vs H1 => vs.length = ss.length ∧ TAof G cu Wi (evEs ts) σ H1 (fun zs H2 => zs.length = ts.length ∧ R (vs ++ zs) H2)) := by
    have lens : ∀ {ss : List Sm} {l : LM} {M : Store} {ws : List W} {M1 : Store}, evEs ss l M = .ok ws M1 → ws.length = ss.length := by
      intro ss
      induction ss with
      | nil => intro l M ws M1 h; simp only [evEs] at h; cases h; rfl
      | cons s ss ih =>
        intro l M ws M1 h
        simp only [evEs] at h
        cases q : s.v l M with
        | ok w M2 =>
          rw [q] at h
          simp only [Res.bind] at h
          cases q2 : evEs ss l M2 with
          | ok us M3 => rw [q2] at h; cases h; simp [ih q2]
          | exc c ns ws M2 => rw [q2] at h; cases h
          | err => rw [q2] at h; cases h
        | exc c ns ws M2 => rw [q] at h; cases h
        | err => rw [q] at h; cases h
    obtain ⟨g, M, l, a, p⟩ := q
    rw [evEs_append] at p
    refine ⟨g, M, l, a, ?_⟩
    cases q1 : evEs ss l M with
    | ok ws M1 =>
      rw [q1] at p
      intro g1 vs H1 a1 e1 r1
      refine ⟨by rw [← r1.length]; exact lens q1, g1, M1, l, a.evo a1 e1, ?_⟩
      have p1 := Post.evo a.abs.len e1 (show Post G Wi (RWs G) g M H σ ((evEs ts l M1).bind fun b M2 => .ok (ws ++ b) M2) R from p)
      cases q2 : evEs ts l M1 with
      | ok us M2 =>
        rw [q2] at p1
        intro g2 zs H2 a2 e2 r2
        exact ⟨by rw [← r2.length]; exact lens q2, p1 g2 _ H2 a2 e2 ((r1.evo a1.len e2).append r2)⟩
      | exc c ns us M2 => rw [q2] at p1; exact p1
      | err => rw [q2] at p1; exact p1.elim
    | exc c ns us M2 => rw [q1] at p; exact p
    | err => rw [q1] at p; exact p.elim
  cases h with
  | nil =>
    have q2 := q1
    refine PySem.W.callWith_KW0 (h₀ := X.base) I.ok.mod.kin hk k1 ?_ (by rw [k3]; rfl)
    obtain ⟨g, M, l, a, p⟩ := q2
    obtain ⟨_, q3⟩ := p.now a.abs (show RWs G g M H [] [] from rfl)
    refine thn (hw.pk.run pos pins s σ H _ I q3) fun ws s2 ⟨zs, H2, I2, rz, hl, r⟩ => ⟨I2.kIn, ?_⟩
    rw [k2]
    exact k [] ws [] zs s2 H2 I2 .nil rz rfl (by rw [klen, ← hl, rz.length]) r
  | @cons x xs s' ss hx hr =>
    have all := PXs.cons hx hr
    refine PySem.W.callWith_KW (h₀ := X.base) I.ok.mod.kin hk k1 (thn (all.pa.run pos pins s σ H _ I q1) fun us s1 ⟨vs, H1, I1, r1, hl1, q3⟩ => ?_) (by rw [k3, all.stars pos]; rfl) (starEach_cons hx.ns)
    refine thn (hw.pk.run pos pins s1 σ H1 _ I1 q3) fun ws s2 ⟨zs, H2, I2, rz, hl, r⟩ => ⟨I2.kIn, ?_⟩
    rw [k2]
    exact k us ws vs zs s2 H2 I2 r1 rz (by rw [← r1.length, hl1]; exact all.length.symm) (by rw [klen, ← hl, rz.length]) r
end
end PyI

namespace PyI
open PySem PySem.Spec PyProof.Rows L2
section
variable {G : GE} {Γ : Glo} {cu : Option Cu} {Wi : WX} {X : Cx} {g g' g1 : Gh} {M M' M1 : Store} {H H' H1 : Hp} {σ : L2.St} {l : LM} {N : List Str} {sc : Scope} {calm : Bool} {a b c : Expr} {sa sb s_c : Sm} {pos : Pos} {k : Nat}
/-- the arguments' fit, seen by the checker -/
def fitB (fi : FnI) (n : Nat) (ks : List Str) : Bool := decide (ks.length ≤ n) && decide (n = fi.ps.length) && kwFit fi.np fi.ps (n - ks.length) ks
theorem vals_app {vs zs : List V} {us ws : List Value} (h : Vals vs us) (k : Vals zs ws) : Vals (vs ++ zs) (us ++ ws) := Vals.append h k
/-- the def runs on the arguments in order -/
theorem run_def {f : Addr} {fi : FnI} {pins : List (Addr × Obj)} {s : Shared} {Q : VK} {us ws : List Value} {vs zs : List V} {ks : List Str} (hK : X.K = G.K) (F : FnP G X.prog X.w X.mg X.base k f fi) (hr : RoomG k X.A) (tk : Takes X Wi) (I : Inv X pins σ H s)
    (hf : fitB fi (us.length + ws.length) ks = true) (hl : ws.length = ks.length) (r1 : Vals vs us) (r2 : Vals zs ws) (h : spOf G fi.ps.length fi.sem (bindW fi.ps ks (vs ++ zs)) H Q (fun c d H' => Wi c d σ H')) :
    wpAny (model X.prog X.w) X.A (call (.ref f) us (ks.zip ws)) (EP X pins σ Q) X.xe s := by
  obtain ⟨fd, F1, F2⟩ := F.ex
  simp only [fitB, Bool.and_eq_true, decide_eq_true_eq] at hf
  obtain ⟨⟨h1, h2⟩, h3⟩ := hf
  have e0 : us.length + ws.length - ks.length = us.length := by omega
  rw [e0] at h3
  have rv := bindW_vals (ps := fi.ps) (ks := ks) (r1.append r2)
  have hlen : (bindW fi.ps ks (vs ++ zs)).length = fi.ps.length := by
    have e1 : (vs ++ zs).length = us.length + ws.length := by rw [List.length_append, r1.length, r2.length]
    refine bindW_len (np := fi.np) ?_ (by rw [e1]; omega) (by rw [e1]; exact h2)
    rw [e1, e0]; exact h3
  have F1' : FnG X.prog X.w X.K X.mg X.base k f fd fi.ps (spOf G fi.ps.length fi.sem) := by rw [hK]; exact F1
  refine wpAny_call (codeAny_mono (run_fnG F1' hr tk (fun _ _ _ q => q) I hlen (F2 s us ws ks h3 hl.symm h2) rv h) fun r s' hq => ?_)
  cases r with
  | error e => exact hq
  | ok fl =>
    cases fl with
    | ret u => exact hq
    | next => exact False.elim hq
    | brk => exact False.elim hq
    | cont => exact False.elim hq
theorem RWs.append_inv : ∀ {ws : List W} {vs zs : List V} {n : Nat}, RWs G g M H ws (vs ++ zs) → True := fun _ => True.intro
theorem px_call {f : Str} {fi : FnI} {fz : Bool} {xs : List Expr} {kws : List Keyword} {ss ts : List Sm} {ks : List Str} {p : Pos} (hK : X.K = G.K) (T : Tops G Γ X.prog X.w X.mg X.base k) (hr : RoomG k X.A) (tk : Takes X Wi) (hΓ : Γ.fn f = some fi) (hg : Gl X f) (hd : (f == ("__debug__" : Str)) = false)
    (h : PXs G cu Wi X xs ss) (hw : PXs G cu Wi X (kws.map (·.value)) ts) (hn : kws.map (·.arg) = ks.map some) (hf : fitB fi (ss ++ ts).length ks = true) :
    PX G cu Wi X (.Call (.Name f p) xs kws pos) (.of fun l M => (evEs (ss ++ ts) l M).bind fun vs M1 => need (Γ.fn f) fun f => fullW f vs.length (callW f.sem fz (bindW f.ps ks vs) M1)) := by
  obtain ⟨fa, hm, F⟩ := T.fn f fi hΓ
  refine PX.of hK ⟨fun pins s σ H Q I q => ?_⟩ (fun _ => rfl) rfl
  refine wpAny_Call_Name_kw (ld_glob I hg hm ?_ hd)
  have q1 := TOf.bind (fa := evEs (ss ++ ts)) (f := fun l vs M1 => need (Γ.fn f) fun f => fullW f vs.length (callW f.sem fz (bindW f.ps ks vs) M1)) (rel1 := RWs G) q
  refine callWith_px (first := []) (by rw [hK]; exact F.kp) h hw hn I q1 fun us ws vs zs s1 H1 I1 r1 r2 l1 l2 ⟨g1, M1, l, as, a1, rw1, p⟩ => ?_
  rw [hΓ] at p
  simp only [need, fullW] at p
  split at p
  · rename_i hfull
    have hlen : (ss ++ ts).length = us.length + ws.length := by
      rw [List.length_append, ← h.length, ← hw.length, l1, l2]
      have := congrArg List.length hn
      simp at this
      rw [← this]; simp
    rw [hlen] at hf
    refine run_def hK F hr tk I1 hf l2 r1 r2 (call_pass a1.abs (bindW_rws rw1) ?_ p)
    have e1 : as.length = us.length + ws.length := by rw [rw1.length, List.length_append, r1.length, r2.length]
    simp only [fitB, Bool.and_eq_true, decide_eq_true_eq] at hf
    obtain ⟨⟨h1, h2⟩, h3⟩ := hf
    refine bindW_len (np := fi.np) ?_ (by rw [e1]; exact h1) (by rw [e1]; exact h2)
    rw [e1]; exact h3
  · exact p.no.elim
end
end PyI

namespace PyI
open PySem PySem.Spec PyProof.Rows L2
section
variable {G : GE} {Γ : Glo} {cu : Option Cu} {Wi : WX} {X : Cx} {g g' g1 : Gh} {M M' M1 : Store} {H H' H1 : Hp} {σ : L2.St} {l : LM} {N : List Str} {sc : Scope} {calm : Bool} {a b c : Expr} {sa sb s_c : Sm} {pos : Pos} {k : Nat}
/-! ### isinstance -/
/-- the class of a type's name -/
def TyIs (G : GE) : String ⊕ Str → Value → Prop
  | .inl t, v => t ∈ bTypes ∧ v = .type t
  | .inr c, v => ∃ C, G.cA c = some C ∧ InsT G.K C ∧ v = .ref C
theorem ty_ok {w : W} {v : V} {t : String ⊕ Str} (a : Abs G g M H) (r : RW G g M H w v) (h : tyW M w = some t) (hp : ∀ c, t = .inr c → ∃ C, G.cA c = some C ∧ InsT G.K C) : ∃ tv, TyIs G t tv ∧ TyX G.K H v tv := by
  have ins : ∀ {c : Str} {p C dx : Addr} {fs : List (Str × V)}, t = .inr c → G.cA c = some C → H p = some (.ins C dx fs) → v = .ref p → ∃ tv, TyIs G t tv ∧ TyX G.K H v tv := fun {c p C dx fs} e h1 h2 hv => by
    obtain ⟨C', h3, i⟩ := hp c e
    rw [h1] at h3; cases h3
    subst e hv
    exact ⟨.ref C, ⟨C, h1, i, rfl⟩, .base (.ins h2 i.cl i.ha i.hn i.ht i.hm)⟩
  cases w with
  | non => cases h; rw [show v = .non from r]; exact ⟨_, ⟨by decide, rfl⟩, .base .non⟩
  | bl b => cases h; rw [show v = .bl b from r]; exact ⟨_, ⟨by decide, rfl⟩, .base (.bl b)⟩
  | int b => cases h; rw [show v = .int b from r]; exact ⟨_, ⟨by decide, rfl⟩, .base (.int b)⟩
  | str b => cases h; rw [show v = .str b from r]; exact ⟨_, ⟨by decide, rfl⟩, .base (.str b)⟩
  | tup ws =>
    cases h
    obtain ⟨p, vs, rfl, h1, h2⟩ := r
    refine ⟨_, ⟨by decide, rfl⟩, ?_⟩
    rcases h1 with ⟨h1 | ⟨o, h1⟩, _⟩ | ⟨o, its, n, h1, h3, _⟩
    · exact .base (.tup h1)
    · exact .fTuple h1
    · exact .kTuple h1 h3
  | lst ws =>
    cases h
    obtain ⟨p, vs, rfl, h1, h2⟩ := r
    refine ⟨_, ⟨by decide, rfl⟩, ?_⟩
    rcases h1 with ⟨h1 | ⟨o, h1⟩, _⟩
    · exact .base (.lst h1)
    · exact .base (.frz h1)
  | dct ks ws =>
    cases h
    obtain ⟨p, vs, rfl, h1, h2⟩ := r
    exact ⟨_, ⟨by decide, rfl⟩, .base (.dK h1)⟩
  | obj c ns ws =>
    cases h
    obtain ⟨p, C, dx, fs, e, h1, h2, h3⟩ := r
    exact ins rfl h1 h2 e
  | ref n =>
    obtain ⟨p, hn, e⟩ := r
    simp only [tyW, Option.map_eq_some_iff] at h
    obtain ⟨c, hc, h⟩ := h
    have at_ := a.cell n c p hc hn
    obtain ⟨lv, con⟩ := c
    cases con with
    | lst ws =>
      cases h
      obtain ⟨vs, h1, _⟩ := at_
      rw [e]
      exact ⟨_, ⟨by decide, rfl⟩, .base (.lst h1)⟩
    | dct ks ws =>
      cases h
      obtain ⟨vs, h1, _⟩ := at_
      rw [e]
      exact ⟨_, ⟨by decide, rfl⟩, .base (.dK h1)⟩
    | obj cc ns ws =>
      cases h
      obtain ⟨C, dx, fs, h1, h2, _⟩ := at_
      exact ins rfl h1 h2 e
  | cls c => cases h
  | typ n => cases h
  | scr ns => cases h
theorem kit_bb (K : PySem.W.Frag) : ∀ t ∈ bTypes, ∀ q ∈ askTys, PySem.W.kitOne K (.type t) (.type q.2) = some (decide (t = q.2) || (decide (t = "bool") && decide (q.2 = "int"))) := by
  intro t ht q hq
  simp only [bTypes, askTys, List.mem_cons, List.not_mem_nil, or_false] at ht hq
  rcases ht with rfl | rfl | rfl | rfl | rfl | rfl | rfl <;> rcases hq with rfl | rfl | rfl | rfl | rfl | rfl <;> rfl
/-- what the asked class's name stands for -/
theorem ask_ok {q : Str × Bool} (T : Tops G Γ X.prog X.w X.mg X.base k) (hq : (if q.2 then Γ.pl q.1 else (askTys.lookup q.1).isSome) = true) (hbm : ∀ x ∈ bltNames, X.mg x = none) (hd : (q.1 == ("__debug__" : Str)) = false) :
    ∃ cv u, ClsV cv u ∧ (∀ {p : Pos}, Gl X q.1 → PE X (.Name q.1 p) (tC cv)) ∧ ∀ t tv, TyIs G t tv → (∀ c, t = .inr c → Γ.pl c = true) → PySem.W.kitOne G.K tv u = some (isiOne t q) := by
  obtain ⟨c, own⟩ := q
  cases own with
  | true =>
    obtain ⟨C, h1, h2, h3, h4, h5⟩ := T.pl c hq
    refine ⟨.ref C, .ref C, .own C, fun hg => pe_glob hg h2 rfl hd, fun t tv ht hp => ?_⟩
    · cases t with
      | inl a =>
        obtain ⟨m, rfl⟩ := ht
        exact (h4 a m).2
      | inr d =>
        obtain ⟨D, k1, _, rfl⟩ := ht
        obtain ⟨D', k1', _, _, _, k5⟩ := T.pl d (hp d rfl)
        rw [k1] at k1'; cases k1'
        exact k5 c C hq h1
  | false =>
    obtain ⟨ty, hty⟩ := Option.isSome_iff_exists.mp (show (askTys.lookup c).isSome = true from hq)
    have hm : (c, ty) ∈ askTys := by
      clear hq
      revert hty
      have : ∀ l : List (Str × String), l.lookup c = some ty → (c, ty) ∈ l := by
        intro l
        induction l with
        | nil => intro h; cases h
        | cons x l ih =>
          intro h
          rw [List.lookup_cons] at h
          split at h
          · rename_i e
            have : c = x.1 := by simpa using e
            cases h
            rw [this]; exact List.mem_cons_self ..
          · exact List.mem_cons_of_mem _ (ih h)
      exact this askTys
    have facts : c ∈ bltNames ∧ bootBuiltins c = some (.type ty) ∧ c ≠ "__name__" ∧ (c == ("__debug__" : Str)) = false := by
      simp only [askTys, List.mem_cons, List.not_mem_nil, or_false] at hm
      rcases hm with e | e | e | e | e | e <;> (cases e; exact ⟨by decide +kernel, rfl, by decide +kernel, by decide +kernel⟩)
    obtain ⟨f1, f2, f3, f4⟩ := facts
    refine ⟨.ty ty, .type ty, .ty ty, fun hg => pe_bltn hg (hbm c f1) f2 rfl f3 f4, fun t tv ht hp => ?_⟩
    cases t with
    | inl a =>
      obtain ⟨m, rfl⟩ := ht
      have := kit_bb G.K a m _ hm
      dsimp only [isiOne]
      rw [hty]; exact this
    | inr d =>
      obtain ⟨D, k1, _, rfl⟩ := ht
      obtain ⟨D', k1', _, _, k4, _⟩ := T.pl d (hp d rfl)
      rw [k1] at k1'; cases k1'
      have m : ty ∈ bTypes := by
        simp only [askTys, List.mem_cons, List.not_mem_nil, or_false] at hm
        rcases hm with e | e | e | e | e | e <;> (cases e; decide)
      exact (k4 ty m).1
theorem px_isi1 {q : Str × Bool} {p1 p2 : Pos} (Gd : Good G N sc calm X) (T : Tops G Γ X.prog X.w X.mg X.base k) (ha : PX G cu Wi X a sa) (hg : Gl X "isinstance") (hgc : Gl X q.1) (hd : (q.1 == ("__debug__" : Str)) = false) (hq : (if q.2 then Γ.pl q.1 else (askTys.lookup q.1).isSome) = true) :
    PX G cu Wi X (.Call (.Name "isinstance" p1) [a, .Name q.1 p2] [] pos) (.of fun l M => (sa.v l M).bind fun w M1 => need (tyW M1 w) fun t => if isiAll Γ.pl t [q] then .ok (.bl ([q].any (isiOne t))) M1 else .err) := by
  obtain ⟨cv, u, h1, h2, h3⟩ := ask_ok T hq Gd.blt hd
  have hm : X.mg "isinstance" = none := Gd.blt _ (by decide +kernel)
  refine PX.of Gd.K ((pe_callB call_isi hg hm rfl (pa_cons ha.pe (pa_cons (h2 hgc) pa_nil) (starEach_cons ha.ns)) (by decide +kernel) (by decide +kernel) (starEach_cons ha.ns) rfl).imp fun σ H Q q1 => ?_) (fun _ => rfl) rfl
  refine (TOf.bind (fa := sa.v) (f := fun _ w M1 => need (tyW M1 w) fun t => if isiAll Γ.pl t [q] then .ok (W.bl ([q].any (isiOne t))) M1 else .err) (rel1 := RW G) q1).imp fun v H1 ⟨g1, M1, l, w, a1, r1, p⟩ => ?_
  obtain ⟨t, ht, p⟩ := Post.need p
  split at p
  · rename_i hall
    simp only [isiAll, Bool.and_eq_true] at hall
    have hp : ∀ c, t = .inr c → Γ.pl c = true := fun c e => by subst e; exact hall.1
    obtain ⟨tv, k1, k2⟩ := ty_ok a1.abs r1 ht fun c e => let ⟨C, z1, _, z2, _⟩ := T.pl c (hp c e); ⟨C, z1, z2⟩
    rw [Gd.K]
    refine ⟨v, cv, tv, u, isiOne t q, rfl, h1, k2, h3 t tv k1 hp, ?_⟩
    have e : [q].any (isiOne t) = isiOne t q := by simp
    rw [e] at p
    exact p.now a1.abs rfl
  · exact p.no.elim
end
end PyI

namespace PyI
open PySem PySem.Spec PyProof.Rows L2
section
variable {G : GE} {Γ : Glo} {cu : Option Cu} {Wi : WX} {X : Cx} {g g' g1 g2 : Gh} {M M' M1 M2 : Store} {H H' H1 H2 : Hp} {σ : L2.St} {l : LM} {N : List Str} {sc : Scope} {calm : Bool} {a b c : Expr} {sa sb s_c : Sm} {pos : Pos} {k : Nat} {D : Addr}
/-! ### one object of one's own, that is written meanwhile -/
structure EvoX (D : Addr) (g : Gh) (M : Store) (H : Hp) (g' : Gh) (M' : Store) (H' : Hp) : Prop where
  more : ∃ X, g'.R = g.R ++ X ∧ ∀ a ∈ X, H a = none
  zs : g'.Z = g.Z
  len : M.length ≤ M'.length
  dead : ∀ (i : Nat) (c : Cell), M[i]? = some c → c.live = false → M'[i]? = some c
  keep : ∀ a o, a ≠ D → H a = some o → NL g M a → H' a = some o
  dom : ∀ a, H a ≠ none → H' a ≠ none
theorem Evo.x (e : Evo g M H g' M' H') : EvoX D g M H g' M' H' := ⟨e.more, e.zs, e.len, e.dead, fun a o _ h f => e.keep a o h f, e.dom⟩
theorem EvoX.nl (e : EvoX D g M H g' M' H') (hl : g.R.length = M.length) {a : Addr} (ha : H a ≠ none) (f : NL g M a) : NL g' M' a := by
  intro i c h1 h2
  obtain ⟨X, hR, hX⟩ := e.more
  rw [hR] at h1
  by_cases hi : i < g.R.length
  · rw [List.getElem?_append_left hi] at h1
    obtain ⟨c0, hc0⟩ : ∃ c0, M[i]? = some c0 := ⟨_, List.getElem?_eq_getElem (by omega)⟩
    have := f i c0 h1 hc0
    rw [e.dead i c0 hc0 this] at h2
    cases h2; exact this
  · rw [List.getElem?_append_right (by omega)] at h1
    exact absurd (hX a (List.mem_of_getElem? h1)) ha
theorem EvoX.trans (e : EvoX D g M H g' M' H') (hl : g.R.length = M.length) (f : EvoX D g' M' H' g2 M2 H2) : EvoX D g M H g2 M2 H2 := by
  obtain ⟨X, hR, hX⟩ := id e.more
  obtain ⟨Y, hR2, hY⟩ := id f.more
  refine ⟨⟨X ++ Y, by rw [hR2, hR, List.append_assoc], fun a ha => ?_⟩, f.zs.trans e.zs, Nat.le_trans e.len f.len, fun i c h1 h2 => f.dead i c (e.dead i c h1 h2) h2, fun a o h0 h1 h2 => ?_, fun a h => f.dom a (e.dom a h)⟩
  · rcases List.mem_append.mp ha with h | h
    · exact hX a h
    · have := hY a h
      cases q : H a with
      | none => rfl
      | some o => exact absurd this (e.dom a (by rw [q]; simp))
  · exact f.keep a o h0 (e.keep a o h0 h1 h2) (e.nl hl (by rw [h1]; simp) h2)
theorem EvoX.fro (e : EvoX D g M H g' M' H') (hl : g.R.length = M.length) {a : Addr} (ha : H a ≠ none) (f : Fro g M a) : Fro g' M' a := ⟨by rw [e.zs]; exact f.1, e.nl hl ha f.2⟩
/-- D as seen with nothing but D changed: a step of Evo on the heap where D stands still -/
theorem EvoX.evo (e : EvoX D g M H g' M' H') (hD : H D = H' D ∨ H D = none) : Evo g M H g' M' H' := ⟨e.more, e.zs, e.len, e.dead, fun a o h f => by
  by_cases ha : a = D
  · subst ha
    rcases hD with q | q
    · rw [← q]; exact h
    · rw [q] at h; cases h
  · exact e.keep a o ha h f, e.dom⟩
theorem EvoX.at_ (e : EvoX D g M H g' M' H') (hD : D ∈ g.Z) {a : Addr} {o : HO} (h : H a = some o) (f : Fro g M a) : H' a = some o := e.keep a o (fun q => f.1 (q ▸ hD)) h f.2
mutual
theorem RW.evoX (hl : g.R.length = M.length) (hD : D ∈ g.Z) (e : EvoX D g M H g' M' H') : ∀ {w : W} {v : V}, RW G g M H w v → RW G g' M' H' w v
  | .non, v, h => h
  | .bl b, v, h => h
  | .int i, v, h => h
  | .str x, v, h => h
  | .tup ws, v, h => by
    obtain ⟨a, vs, h1, h2, h3⟩ := h
    refine ⟨a, vs, h1, ?_, RWs.evoX hl hD e h3⟩
    rcases h2 with ⟨h2 | ⟨o, h2⟩, f⟩ | h2
    · exact .inl ⟨.inl (e.at_ hD h2 f), e.fro hl (by rw [h2]; simp) f⟩
    · exact .inl ⟨.inr ⟨o, e.at_ hD h2 f⟩, e.fro hl (by rw [h2]; simp) f⟩
    · exact .inr h2
  | .lst ws, v, h => by
    obtain ⟨a, vs, h1, h2, h3⟩ := h
    refine ⟨a, vs, h1, ?_, RWs.evoX hl hD e h3⟩
    rcases h2 with ⟨h2 | ⟨o, h2⟩, f⟩
    · exact ⟨.inl (e.at_ hD h2 f), e.fro hl (by rw [h2]; simp) f⟩
    · exact ⟨.inr ⟨o, e.at_ hD h2 f⟩, e.fro hl (by rw [h2]; simp) f⟩
  | .dct ks ws, v, h => by
    obtain ⟨a, kvs, h1, h2, h3, h4, h5⟩ := h
    exact ⟨a, kvs, h1, e.at_ hD h2 h3, e.fro hl (by rw [h2]; simp) h3, h4, RWs.evoX hl hD e h5⟩
  | .obj c ns ws, v, h => by
    obtain ⟨a, C, dx, fs, h1, h2, h3, h4, h5, h6⟩ := h
    exact ⟨a, C, dx, fs, h1, h2, e.at_ hD h3 h4, e.fro hl (by rw [h3]; simp) h4, h5, RWs.evoX hl hD e h6⟩
  | .ref n, v, h => by
    obtain ⟨a, h1, h2⟩ := h
    obtain ⟨X, hR, _⟩ := e.more
    exact ⟨a, by rw [hR, List.getElem?_append_left (List.getElem?_eq_some_iff.mp h1).1]; exact h1, h2⟩
  | .cls c, v, h => h
  | .typ n, v, h => h
  | .scr ns, v, h => by
    obtain ⟨a, h1, h2⟩ := h
    rcases h2 with ⟨h2 | ⟨o, h2⟩, f⟩ | h2
    · exact ⟨a, h1, .inl ⟨.inl (e.at_ hD h2 f), e.fro hl (by rw [h2]; simp) f⟩⟩
    · exact ⟨a, h1, .inl ⟨.inr ⟨o, e.at_ hD h2 f⟩, e.fro hl (by rw [h2]; simp) f⟩⟩
    · exact ⟨a, h1, .inr h2⟩
theorem RWs.evoX (hl : g.R.length = M.length) (hD : D ∈ g.Z) (e : EvoX D g M H g' M' H') : ∀ {ws : List W} {vs : List V}, RWs G g M H ws vs → RWs G g' M' H' ws vs
  | [], vs, h => h
  | w :: ws, vs, h => by
    obtain ⟨v, r, h1, h2, h3⟩ := h
    exact ⟨v, r, h1, RW.evoX hl hD e h2, RWs.evoX hl hD e h3⟩
end
theorem CellAt.evoX (hl : g.R.length = M.length) (hD : D ∈ g.Z) (e : EvoX D g M H g' M' H') {a : Addr} {c : Con} (h : CellAt G g M H a c) (k : ∀ o, H a = some o → H' a = some o) : CellAt G g' M' H' a c := by
  cases c with
  | lst ws => obtain ⟨vs, h1, h2⟩ := h; exact ⟨vs, k _ h1, h2.evoX hl hD e⟩
  | dct ks ws => obtain ⟨vs, h1, h2, h3⟩ := h; exact ⟨vs, k _ h1, h2, h3.evoX hl hD e⟩
  | obj c ns ws => obtain ⟨C, dx, fs, h1, h2, h3, h4⟩ := h; exact ⟨C, dx, fs, h1, k _ h2, h3, h4.evoX hl hD e⟩
theorem LR.evoX (hl : g.R.length = M.length) (hD : D ∈ g.Z) (e : EvoX D g M H g' M' H') {ws : List (Option W)} (h : LR G g M H ws σ) : LR G g' M' H' ws σ :=
  ⟨h.1, fun i w q => let ⟨v, a, b⟩ := h.2 i w q; ⟨v, a, b.evoX hl hD e⟩⟩
/-- D is written -/
theorem Abs.own (a : Abs G g M H) (hD : D ∈ g.Z) {o : HO} : Abs G g M (upd H D o) ∧ EvoX D g M H g M (upd H D o) := by
  have e : EvoX D g M H g M (upd H D o) := ⟨⟨[], by simp, by simp⟩, rfl, Nat.le_refl _, fun _ _ h _ => h, fun b u hb h _ => by rw [upd_ne hb]; exact h, fun b h => by
    by_cases hb : b = D
    · subst hb; rw [upd_same]; simp
    · rw [upd_ne hb]; exact h⟩
  have hDR : D ∉ g.R := a.nz D hD
  refine ⟨⟨a.len, a.nd, a.nz, fun z hz => e.dom z (a.zd z hz), fun i c p h1 h2 => ?_⟩, e⟩
  have hp : p ≠ D := fun q => hDR (q ▸ List.mem_of_getElem? h2)
  exact (a.cell i c p h1 h2).evoX a.len hD e fun o h => by rw [upd_ne hp]; exact h
/-- a new object of one's own: nothing may lean on it -/
def ownG (g : Gh) (D : Addr) : Gh := ⟨g.R, D :: g.Z⟩
theorem fro_own (hD : H D = none) {b : Addr} (hb : H b ≠ none) (f : Fro g M b) : Fro (ownG g D) M b := ⟨fun h => by
  rcases List.mem_cons.mp h with h | h
  · exact hb (h ▸ hD)
  · exact f.1 h, f.2⟩
theorem Abs.toOwn (a : Abs G g M H) (hD : H D = none) {o : HO} : Abs G (ownG g D) M (upd H D o) := by
  obtain ⟨a1, e1⟩ := a.fresh (o := o) hD
  refine ⟨a1.len, a1.nd, fun z hz => ?_, fun z hz => ?_, fun i c p h1 h2 => ?_⟩
  · rcases List.mem_cons.mp hz with h | h
    · rw [h]; exact a.cellNe hD
    · exact a.nz z h
  · rcases List.mem_cons.mp hz with h | h
    · rw [h, upd_same]; simp
    · exact a1.zd z h
  · have C := (a.cell i c p h1 h2).via (g' := ownG g D) (M' := M) (fun b hb f => fro_own hD hb f) (.inr fun _ _ q => q)
    refine C.evo (show (ownG g D).R.length = M.length from a.len) (evo_ext (g := ownG g D) (H1 := upd H D o) fun b u q => by rw [upd_ne (ne_of_none q hD)]; exact q) fun u q => by rw [upd_ne (ne_of_none q hD)]; exact q
theorem RW.toOwn (hl : g.R.length = M.length) (hD : H D = none) {o : HO} {w : W} {v : V} (r : RW G g M H w v) : RW G (ownG g D) M (upd H D o) w v :=
  (r.via (g' := ownG g D) (M' := M) (fun b hb f => fro_own hD hb f) (.inr fun _ _ q => q)).evo (show (ownG g D).R.length = M.length from hl) (evo_ext (g := ownG g D) (H1 := upd H D o) fun b u q => by rw [upd_ne (ne_of_none q hD)]; exact q)
theorem RWs.toOwn (hl : g.R.length = M.length) (hD : H D = none) {o : HO} {w : List W} {v : List V} (r : RWs G g M H w v) : RWs G (ownG g D) M (upd H D o) w v :=
  (r.via (g' := ownG g D) (M' := M) (fun b hb f => fro_own hD hb f) (.inr fun _ _ q => q)).evo (show (ownG g D).R.length = M.length from hl) (evo_ext (g := ownG g D) (H1 := upd H D o) fun b u q => by rw [upd_ne (ne_of_none q hD)]; exact q)
theorem LR.toOwn (hl : g.R.length = M.length) (hD : H D = none) {o : HO} {l : LM} (h : LR G g M H l σ) : LR G (ownG g D) M (upd H D o) l σ := ⟨h.1, fun i w q => let ⟨v, a, b⟩ := h.2 i w q; ⟨v, a, b.toOwn hl hD⟩⟩
/-- the object given back: as a frozen one, or as a new cell -/
theorem own_back {o : HO} (a0 : Abs G g M H) (hD : H D = none) (a : Abs G g1 M1 H1) (e : EvoX D (ownG g D) M (upd H D o) g1 M1 H1) : Abs G ⟨g1.R, g.Z⟩ M1 H1 ∧ Evo g M H ⟨g1.R, g.Z⟩ M1 H1 ∧ (∀ b, Fro g1 M1 b → Fro ⟨g1.R, g.Z⟩ M1 b) ∧ Fro ⟨g1.R, g.Z⟩ M1 D := by
  have hz : g1.Z = D :: g.Z := e.zs
  have sub : ∀ b, Fro g1 M1 b → Fro ⟨g1.R, g.Z⟩ M1 b := fun b f => ⟨fun h => f.1 (by rw [hz]; exact List.mem_cons_of_mem _ h), f.2⟩
  have hDR : D ∉ g1.R := a.nz D (by rw [hz]; exact List.mem_cons_self ..)
  have hDZ : D ∉ g.Z := fun h => a0.zd D h hD
  obtain ⟨X, hR, hX⟩ := e.more
  refine ⟨⟨a.len, a.nd, fun z h => a.nz z (by rw [hz]; exact List.mem_cons_of_mem _ h), fun z h => a.zd z (by rw [hz]; exact List.mem_cons_of_mem _ h), fun i c p h1 h2 => (a.cell i c p h1 h2).via (g' := ⟨g1.R, g.Z⟩) (fun b _ f => sub b f) (.inr fun _ _ q => q)⟩, ⟨⟨X, hR, fun b hb => ?_⟩, rfl, e.len, e.dead, fun b u h f => ?_, fun b h => ?_⟩, sub, hDZ, fun i c h1 _ => absurd (List.mem_of_getElem? h1) hDR⟩
  · have := hX b hb
    by_cases q : b = D
    · rw [q]; exact hD
    · rwa [upd_ne q] at this
  · exact e.keep b u (ne_of_none h hD) (by rw [upd_ne (ne_of_none h hD)]; exact h) f
  · refine e.dom b ?_
    by_cases q : b = D
    · rw [q, upd_same]; simp
    · rw [upd_ne q]; exact h
/-- .. as a cell -/
theorem own_cell {o : HO} {c : Con} (a0 : Abs G g M H) (hD : H D = none) (a : Abs G g1 M1 H1) (e : EvoX D (ownG g D) M (upd H D o) g1 M1 H1) (hc : CellAt G g1 M1 H1 D c) :
    Abs G ⟨g1.R ++ [D], g.Z⟩ (M1 ++ [⟨true, c⟩]) H1 ∧ Evo g M H ⟨g1.R ++ [D], g.Z⟩ (M1 ++ [⟨true, c⟩]) H1 := by
  obtain ⟨b1, b2, b3, b4⟩ := own_back a0 hD a e
  have hz : g1.Z = D :: g.Z := e.zs
  have hDR : D ∉ g1.R := a.nz D (by rw [hz]; exact List.mem_cons_self ..)
  have hDZ : D ∉ g.Z := b4.1
  have sub : ∀ b, Fro g1 M1 b → Fro ⟨g1.R ++ [D], g.Z⟩ (M1 ++ [⟨true, c⟩]) b := fun b f => ⟨(b3 b f).1, fun i c' h1 h2 => by
    by_cases hi : i < M1.length
    · rw [List.getElem?_append_left hi] at h2
      have h1 : (g1.R ++ [D])[i]? = some b := h1
      rw [List.getElem?_append_left (by rw [a.len]; exact hi)] at h1
      exact f.2 i c' h1 h2
    · have h1 : (g1.R ++ [D])[i]? = some b := h1
      rw [List.getElem?_append_right (by rw [a.len]; omega)] at h1
      have : b = D := by
        cases q : i - g1.R.length with
        | zero => rw [q] at h1; simpa using h1.symm
        | succ n => rw [q] at h1; simp at h1
      exact absurd (by rw [this, hz]; exact List.mem_cons_self ..) f.1⟩
  have sameR : SameR g1 ⟨g1.R ++ [D], g.Z⟩ := fun n p h => by
    show (g1.R ++ [D])[n]? = some p
    rw [List.getElem?_append_left (List.getElem?_eq_some_iff.mp h).1]; exact h
  obtain ⟨X, hR, hX⟩ := b2.more
  refine ⟨⟨by simp [a.len], List.nodup_append.mpr ⟨a.nd, by simp, fun x hx y hy q => ?_⟩, fun z h hm => ?_, b1.zd, fun i c' p h1 h2 => ?_⟩, ⟨⟨X ++ [D], by rw [← List.append_assoc, ← hR], fun b hb => ?_⟩, rfl, by have := b2.len; simp; omega, fun i c' h1 h2 => ?_, b2.keep, b2.dom⟩⟩
  · simp at hy; exact hDR (by rw [← hy, ← q]; exact hx)
  · rcases List.mem_append.mp hm with h' | h'
    · exact b1.nz z h h'
    · simp at h'; exact hDZ (h' ▸ h)
  · by_cases hi : i < M1.length
    · rw [List.getElem?_append_left hi] at h1
      have h2 : (g1.R ++ [D])[i]? = some p := h2
      rw [List.getElem?_append_left (by rw [a.len]; exact hi)] at h2
      exact (a.cell i c' p h1 h2).via (fun b _ f => sub b f) (.inr sameR)
    · rw [List.getElem?_append_right (by omega)] at h1
      have h2 : (g1.R ++ [D])[i]? = some p := h2
      rw [List.getElem?_append_right (by rw [a.len]; omega), a.len] at h2
      cases q : i - M1.length with
      | zero =>
        rw [q] at h1 h2
        simp at h1 h2
        subst h1 h2
        exact hc.via (fun b _ f => sub b f) (.inr sameR)
      | succ n => rw [q] at h1; simp at h1
  · rcases List.mem_append.mp hb with h | h
    · exact hX b h
    · simp at h; rw [h]; exact hD
  · rw [List.getElem?_append_left (by have := (List.getElem?_eq_some_iff.mp h1).1; have := b2.len; omega)]
    exact b2.dead i c' h1 h2
end
end PyI

namespace PyI
open PySem PySem.Spec PyProof.Rows L2
section
variable {G : GE} {Γ : Glo} {cu : Option Cu} {Wi : WX} {X : Cx} {g g' g1 g2 : Gh} {M M' M1 M2 : Store} {H H' H1 H2 : Hp} {σ : L2.St} {l : LM} {N : List Str} {sc : Scope} {calm : Bool} {a b c : Expr} {sa sb s_c : Sm} {pos : Pos} {k : Nat} {D : Addr}
/-! ### targets -/
mutual
def tgSl : Tg → List Nat
  | .nm i => [i]
  | .tup ts => tgSls ts
def tgSls : List Tg → List Nat
  | [] => []
  | t :: ts => tgSl t ++ tgSls ts
end
def gOf (G : GE) (t : Tg) : TG := fun v σ H Q => ∃ g M l w l', Abs G g M H ∧ LR G g M H l σ ∧ RW G g M H w v ∧ tgW t w l = some l' ∧ ∀ σ', (∀ j : Nat, j ∉ tgSl t → σ'[j]? = σ[j]?) → LR G g M H l' σ' → Q σ' H
def gOfs (G : GE) (ts : List Tg) : TGs := fun vs σ H Q => ∃ g M l ws l', Abs G g M H ∧ LR G g M H l σ ∧ RWs G g M H ws vs ∧ tgWs ts ws l = some l' ∧ ∀ σ', (∀ j : Nat, j ∉ tgSls ts → σ'[j]? = σ[j]?) → LR G g M H l' σ' → Q σ' H
theorem _root_.L2.PG.imp {e : Expr} {t t' : TG} (h : PG X e t) (k : ∀ v σ H Q, t' v σ H Q → t v σ H Q) : PG X e t' := ⟨fun pins s σ H v u Q I r q => h.run pins s σ H v u Q I r (k _ _ _ _ q)⟩
theorem _root_.L2.PGs.imp {e : List Expr} {t t' : TGs} (h : PGs X e t) (k : ∀ v σ H Q, t' v σ H Q → t v σ H Q) : PGs X e t' := ⟨fun pins s σ H v u Q I r q => h.run pins s σ H v u Q I r (k _ _ _ _ q)⟩
theorem pg_nm {i : Nat} {x : Str} (hN : X.N.Nodup) (hi : X.N[i]? = some x) (hx : Loc X.env.scope x) (hf : X.fn x = true ∨ X.env.scope.names.lookup x = some .local) : PG X (.Name x pos) (gOf G (.nm i)) :=
  (pg_name hN hi hx hf).imp fun v σ H Q ⟨g, M, l, w, l', _, h2, h3, h4, h5⟩ => by
    cases h4
    exact h5 _ (fun j hj => List.getElem?_set_ne (by simp [tgSl] at hj; omega)) (h2.set i h3)
theorem pgs_nil' : PGs X [] (gOfs G []) :=
  pgs_nil.imp fun vs σ H Q ⟨g, M, l, ws, l', _, h2, h3, h4, h5⟩ => by
    cases ws with
    | nil => cases h4; exact ⟨h3, h5 _ (fun _ _ => rfl) h2⟩
    | cons w ws => cases h4
theorem pgs_cons' {e : Expr} {es : List Expr} {t : Tg} {ts : List Tg} (h1 : PG X e (gOf G t)) (h2 : PGs X es (gOfs G ts)) (hs : (assignEach (e :: es) X.env).map (·.2) = assign e X.env :: (assignEach es X.env).map (·.2)) : PGs X (e :: es) (gOfs G (t :: ts)) :=
  (pgs_cons h1 h2 hs).imp fun vs σ H Q ⟨g, M, l, ws, l', k1, k2, k3, k4, k5⟩ => by
    cases ws with
    | nil => cases k4
    | cons w ws =>
      obtain ⟨v, r, e1, r1, r2⟩ := k3
      unfold tgWs at k4
      obtain ⟨l1, h3, h4⟩ := Option.bind_eq_some_iff.mp k4
      refine ⟨v, r, e1, g, M, l, w, l1, k1, k2, r1, h3, fun σ1 f1 lr1 => ⟨g, M, l1, ws, l', k1, lr1, r2, h4, fun σ2 f2 lr2 => k5 σ2 (fun j hj => ?_) lr2⟩⟩
      have hj' : j ∉ tgSl t ++ tgSls ts := hj
      rw [List.mem_append, not_or] at hj'
      rw [f2 j hj'.2, f1 j hj'.1]
theorem tgWs_len : ∀ {ts : List Tg} {ws : List W} {l l' : LM}, tgWs ts ws l = some l' → ws.length = ts.length
  | [], [], _, _, _ => rfl
  | [], _ :: _, _, _, h => by cases h
  | _ :: _, [], _, _, h => by cases h
  | t :: ts, w :: ws, l, l', h => by
    unfold tgWs at h
    obtain ⟨l1, _, h4⟩ := Option.bind_eq_some_iff.mp h
    simp [tgWs_len h4]
theorem pg_tupT {es : List Expr} {kk n : Nat} {ts : List Tg} (hK : X.K = G.K) (hc : X.calm = true) (h : PGs X es (gOfs G ts)) (hl : ts.length = n) (hn : (assignEach es X.env).length = n) (hst : (assignEach es X.env).findIdx? (·.1) = none) : PG X (.Tuple es kk pos) (gOf G (.tup ts)) :=
  (pg_tup hc h hn hst).imp fun v σ H Q ⟨g, M, l, w, l', k1, k2, k3, k4, k5⟩ => by
    cases w <;> first | (cases k4; done) | skip
    rename_i ws
    obtain ⟨p, vs, e, h1, h2⟩ := k3
    exact ⟨p, vs, e, by rw [hK]; exact h1.sq, by rw [← h2.length, ← hl]; exact tgWs_len k4, g, M, l, ws, l', k1, k2, h2, k4, k5⟩

/-! ### what is walked -/
def ISrc (G : GE) (J : It) (k : Itk) (vs : List W) (xs : List V) (items : List W) : Prop :=
  ∀ g M H, Abs G g M H → RWs G g M H vs xs → itemsW k vs M = some items →
    (∀ (i : Nat) w, items[i]? = some w → J.go i H ∧ ∀ x H', J.yld i H x H' → Abs G g M H' ∧ Evo g M H g M H' ∧ RW G g M H' w x) ∧ J.stop items.length H
def iOf (G : GE) (cu : Option Cu) (Wi : WX) (k : Itk) (fs : LM → Store → Res (List W)) : TI := fun σ H R => TOf G cu Wi (RWs G) fs σ H fun xs H1 => ∃ g1 M1 vs items, Abs G g1 M1 H1 ∧ RWs G g1 M1 H1 vs xs ∧ itemsW k vs M1 = some items ∧ ∀ J, ISrc G J k vs xs items → R J H1
theorem _root_.L2.PI.imp {tg e : Expr} {t t' : TI} (h : PI X tg e t) (k : ∀ σ H R, t' σ H R → t σ H R) : PI X tg e t' := ⟨fun pins s σ H R I q => h.run pins s σ H R I (k _ _ _ q)⟩
theorem src_list {a : Addr} {w : W} : (∀ x, w ≠ .str x) → (∀ us, w ≠ .tup us) → (∀ ns, w ≠ .scr ns) → ∀ {items : List W}, ISrc G (Itl G.K a) .seq [w] [.ref a] items := by
  intro hs ht hn items g M H ab r hi
  obtain ⟨v, rv, r1⟩ := r.one_inv
  cases rv
  have hi : vS M w = some items := by
    cases w <;> first | exact hi | exact absurd rfl (hs _)
  have hL : vL M w = some items := by
    cases w <;> first | exact hi | exact absurd rfl (ht _) | exact absurd rfl (hn _)
  obtain ⟨q, xs, e, h1, h2⟩ := vL_ok ab hL r1
  cases e
  have sq : SqL G.K H a xs := .inl h1
  refine ⟨fun i w hw => ?_, ⟨xs, sq, by rw [h2.length]; exact Nat.le_refl _⟩⟩
  obtain ⟨z, hz, rz⟩ := h2.get hw
  refine ⟨⟨xs, z, sq, hz⟩, fun x H' hy => ?_⟩
  obtain ⟨rfl, hx⟩ := hy
  have := hx xs sq
  rw [hz] at this
  cases this
  exact ⟨ab, Evo.refl, rz⟩
theorem src_scr {a : Addr} {ns : List Int} {items : List W} : ISrc G (Itl G.K a) .seq [.scr ns] [.ref a] items := by
  intro g M H ab r hi
  obtain ⟨v, rv, r1⟩ := r.one_inv
  cases rv
  have hi : ns.map W.int = items := Option.some.inj hi
  subst hi
  obtain ⟨q, e, h1⟩ := r1
  cases e
  have h2 := ints_rws (G := G) (g := g) (M := M) (H := H) ns
  have sq := h1.sq
  refine ⟨fun i w hw => ?_, ⟨_, sq, by rw [h2.length]; exact Nat.le_refl _⟩⟩
  obtain ⟨z, hz, rz⟩ := h2.get hw
  refine ⟨⟨_, z, sq, hz⟩, fun x H' hy => ?_⟩
  obtain ⟨rfl, hx⟩ := hy
  have := hx _ sq
  rw [hz] at this
  cases this
  exact ⟨ab, Evo.refl, rz⟩
theorem src_tup {a : Addr} {us items : List W} : ISrc G (Itt G.K a) .seq [.tup us] [.ref a] items := by
  intro g M H ab r hi
  obtain ⟨v, rv, r1⟩ := r.one_inv
  cases rv
  have hi : us = items := Option.some.inj hi
  subst hi
  obtain ⟨q, xs, e, h1, h2⟩ := r1
  cases e
  refine ⟨fun i w hw => ?_, ⟨xs, h1.sq, by rw [h2.length]; exact Nat.le_refl _⟩⟩
  obtain ⟨z, hz, rz⟩ := h2.get hw
  refine ⟨⟨xs, z, h1.sq, hz⟩, fun x H' hy => ?_⟩
  obtain ⟨rfl, hx⟩ := hy
  have := hx xs h1.sq
  rw [hz] at this
  cases this
  exact ⟨ab, Evo.refl, rz⟩
theorem src_str {x : Str} {items : List W} : ISrc G (Its x) .seq [.str x] [.str x] items := by
  intro g M H ab r hi
  have hi : chars x = items := Option.some.inj hi
  subst hi
  have hl : (chars x).length = x.cps.size := by simp [chars]
  refine ⟨fun i w hw => ?_, by rw [hl]; exact Nat.le_refl _⟩
  have hi := (List.getElem?_eq_some_iff.mp hw).1
  refine ⟨by show i < x.cps.size; rw [← hl]; exact hi, fun v H' hy => ?_⟩
  obtain ⟨rfl, c, hc, rfl⟩ := hy
  simp only [chars, List.getElem?_map, Array.getElem?_toList, hc, Option.map_some, Option.some.injEq] at hw
  subst hw
  exact ⟨ab, Evo.refl, rfl⟩
theorem src_range {lo : Int} {n : Nat} {vs : List W} {xs : List V} {items : List W} (hi : items = (List.range n).map fun (i : Nat) => W.int (lo + (i : Int))) : ISrc G (Itr lo n) .range vs xs items := by
  intro g M H ab r _
  subst hi
  refine ⟨fun i w hw => ?_, by simp; exact Nat.le_refl _⟩
  have hi := (List.getElem?_eq_some_iff.mp hw).1
  simp at hi
  refine ⟨hi, fun v H' hy => ?_⟩
  obtain ⟨rfl, rfl⟩ := hy
  rw [List.getElem?_map, List.getElem?_range hi] at hw
  cases hw
  exact ⟨ab, Evo.refl, rfl⟩
theorem one_ta {Q : List V → Hp → Prop} (h : TAof G cu Wi (evEs [sa]) σ H Q) : TEof G cu Wi sa.v σ H (fun v H1 => Q [v] H1) := by
  obtain ⟨g, M, l, a, p⟩ := h
  refine ⟨g, M, l, a, ?_⟩
  have e : evEs [sa] l M = (sa.v l M).bind fun w M1 => .ok [w] M1 := by
    simp only [evEs]
    cases sa.v l M <;> rfl
  rw [e] at p
  refine (Post.bind (rel1 := RW G) a.abs.len p).imp fun v H1 ⟨g1, M1, w, a1, e1, r1, p1⟩ => p1.now a1 (.one r1)
theorem pi_seq {tg : Expr} (hK : X.K = G.K) (ha : PX G cu Wi X a sa) : PI X tg a (iOf G cu Wi .seq (evEs [sa])) := by
  refine ⟨fun pins s σ H R I h => ?_⟩
  refine thn (ha.pe.run pins s σ H _ I (one_ta h)) fun v s1 ⟨x, H1, I1, r1, g1, M1, vs, items, a1, rws, hit, hR⟩ => ?_
  match vs, rws, hit, hR with
  | [], rws, _, _ => cases (show [x] = [] from rws)
  | _ :: _ :: _, rws, _, _ =>
    obtain ⟨_, r, e, _, _, r', e2, _⟩ := rws
    subst e2
    cases e
  | [w], rws, hit, hR =>
    obtain ⟨x', e, rw1⟩ := rws.one_inv
    cases e
    have lists : ∀ {w : W}, (∀ z, w ≠ .str z) → (∀ us, w ≠ .tup us) → (∀ ns, w ≠ .scr ns) → RW G g1 M1 H1 w x → itemsW .seq [w] M1 = some items → (∀ J, ISrc G J .seq [w] [x] items → R J H1) → wpAny (model X.prog X.w) X.A (pyIter v) (PIE X pins σ tg R) X.xe s1 := by
      intro w n1 n2 n3 rw1 hit hR
      have hi : vS M1 w = some items := by cases w <;> first | exact hit | exact absurd rfl (n1 _)
      have hL : vL M1 w = some items := by cases w <;> first | exact hi | exact absurd rfl (n2 _) | exact absurd rfl (n3 _)
      obtain ⟨q, ys, e, h1, h2⟩ := vL_ok a1 hL rw1
      subst e
      cases r1
      obtain ⟨its, rv, p, hz⟩ := I1.list (show SqL X.K H1 q ys from .inl h1)
      refine wpAny_pyIter_list p.isList ?_
      refine ⟨s1.heap.objs.size, [s1.heap.objs.size], _, _, H1, rfl, I1.kept (t' := s1.toks) fun b o e => Heap.get?_push_of_some _ e, turn_list q _, ⟨_, Heap.get?_push_size _ rfl, rfl, rfl⟩, fun b hb => ?_, by rw [hK]; exact hR _ (src_list n1 n2 n3)⟩
      have e : b = s1.heap.objs.size := by simpa using hb
      subst e
      exact I1.fpOk (Nat.le_refl _) (I1.hok.fresh (Nat.le_refl _))
    cases w with
    | str z =>
      have ex : x = .str z := rw1
      subst ex
      obtain ⟨t, rfl⟩ := r1
      have q := hR _ src_str
      cases ha : z.cps.all (· < 128)
      · exact wpAny_pyIter_wide ha (pi_one (tk := s1.toks) I1 _ (turn_str _ z t "str_iterator" (.inr rfl)) ⟨_, Heap.get?_push_size _ rfl, rfl, rfl⟩ q)
      · exact wpAny_pyIter_ascii ha (pi_one (tk := s1.toks) I1 _ (turn_str _ z t "str_ascii_iterator" (.inl rfl)) ⟨_, Heap.get?_push_size _ rfl, rfl, rfl⟩ q)
    | tup us =>
      obtain ⟨q, ys, e, h1, h2⟩ := rw1
      subst e
      cases r1
      obtain ⟨its, rv, p, hz⟩ := I1.tuple (show SqT X.K H1 q ys by rw [hK]; exact h1.sq)
      refine wpAny_pyIter_tuple (show s1.heap.IsTuple q its.toArray from p) ?_
      refine ⟨s1.heap.objs.size, [s1.heap.objs.size], _, _, H1, rfl, I1.kept (t' := s1.toks) fun b o e => Heap.get?_push_of_some _ e, turn_tuple q _, ⟨_, Heap.get?_push_size _ rfl, rfl, rfl⟩, fun b hb => ?_, by rw [hK]; exact hR _ src_tup⟩
      have e : b = s1.heap.objs.size := by simpa using hb
      subst e
      exact I1.fpOk (Nat.le_refl _) (I1.hok.fresh (Nat.le_refl _))
    | scr ns =>
      obtain ⟨q, e, h1⟩ := rw1
      subst e
      cases r1
      obtain ⟨its, rv, p, hz⟩ := I1.list (show SqL X.K H1 q (ns.map V.int) by rw [hK]; exact h1.sq)
      refine wpAny_pyIter_list p.isList ?_
      refine ⟨s1.heap.objs.size, [s1.heap.objs.size], _, _, H1, rfl, I1.kept (t' := s1.toks) fun b o e => Heap.get?_push_of_some _ e, turn_list q _, ⟨_, Heap.get?_push_size _ rfl, rfl, rfl⟩, fun b hb => ?_, by rw [hK]; exact hR _ src_scr⟩
      have e : b = s1.heap.objs.size := by simpa using hb
      subst e
      exact I1.fpOk (Nat.le_refl _) (I1.hok.fresh (Nat.le_refl _))
    | lst us => exact lists (fun _ q => by cases q) (fun _ q => by cases q) (fun _ q => by cases q) rw1 hit hR
    | ref n => exact lists (fun _ q => by cases q) (fun _ q => by cases q) (fun _ q => by cases q) rw1 hit hR
    | _ => cases hit
theorem starEach_one {x : Expr} {env : Env} (h : notStar x = true) : starEach [x] env = [(false, eval x env)] := starEach_cons h
theorem starEach_two {x y : Expr} {env : Env} (h : notStar x = true) (k : notStar y = true) : starEach [x, y] env = [(false, eval x env), (false, eval y env)] := by rw [starEach_cons h, starEach_one k]
theorem evEs_len : ∀ {ss : List Sm} {M : Store} {ws : List W} {M1 : Store}, evEs ss l M = .ok ws M1 → ws.length = ss.length
  | [], M, ws, M1, h => by simp only [evEs] at h; cases h; rfl
  | s :: ss, M, ws, M1, h => by
    simp only [evEs] at h
    cases q : s.v l M with
    | ok w M2 =>
      rw [q] at h
      simp only [Res.bind] at h
      cases q2 : evEs ss l M2 with
      | ok us M3 => rw [q2] at h; cases h; simp [evEs_len q2]
      | exc c ns ws M2 => rw [q2] at h; cases h
      | err => rw [q2] at h; cases h
    | exc c ns ws M2 => rw [q] at h; cases h
    | err => rw [q] at h; cases h
theorem ta_len {ss : List Sm} {Q : List V → Hp → Prop} (h : TAof G cu Wi (evEs ss) σ H Q) : TAof G cu Wi (evEs ss) σ H (fun xs H1 => xs.length = ss.length ∧ Q xs H1) := by
  obtain ⟨g, M, l, a, p⟩ := h
  refine ⟨g, M, l, a, ?_⟩
  cases q : evEs ss l M with
  | ok ws M1 =>
    rw [q] at p
    exact fun g1 xs H1 a1 e1 r1 => ⟨by rw [← r1.length]; exact evEs_len q, p g1 xs H1 a1 e1 r1⟩
  | exc c ns ws M1 => rw [q] at p; exact p
  | err => rw [q] at p; exact p
theorem rng1_inv {w : W} {items : List W} (h : itemsW .range [w] M = some items) : ∃ j, w = .int j ∧ (-(2 ^ 62) ≤ j ∧ j < 2 ^ 62) ∧ items = (List.range j.toNat).map fun (i : Nat) => W.int ((0 : Int) + (i : Int)) := by
  cases w <;> first | (cases h; done) | skip
  rename_i j
  have hit : (if -(2 ^ 62) ≤ j ∧ j < 2 ^ 62 then some ((List.range j.toNat).map fun (i : Nat) => W.int (i : Int)) else none) = some items := h
  split at hit
  · rename_i hb
    cases hit
    exact ⟨j, rfl, hb, by simp⟩
  · cases hit
theorem rng2_inv {w y : W} {items : List W} (h : itemsW .range [w, y] M = some items) : ∃ i j, w = .int i ∧ y = .int j ∧ (-(2 ^ 62) ≤ i ∧ i < 2 ^ 62 ∧ -(2 ^ 62) ≤ j ∧ j < 2 ^ 62) ∧ items = (List.range (j - i).toNat).map fun (n : Nat) => W.int (i + (n : Int)) := by
  cases w <;> first | (cases h; done) | skip
  rename_i i
  cases y <;> first | (cases h; done) | skip
  rename_i j
  have hit : (if -(2 ^ 62) ≤ i ∧ i < 2 ^ 62 ∧ -(2 ^ 62) ≤ j ∧ j < 2 ^ 62 then some ((List.range (j - i).toNat).map fun (n : Nat) => W.int (i + (n : Int))) else none) = some items := h
  split at hit
  · rename_i hb
    cases hit
    exact ⟨i, j, rfl, rfl, hb, rfl⟩
  · cases hit
theorem pi_rng1 {tg : Expr} {p : Pos} (Gd : Good G N sc calm X) (hg : Gl X "range") (ha : PX G cu Wi X a sa) : PI X tg (.Call (.Name "range" p) [a] [] pos) (iOf G cu Wi .range (evEs [sa])) := by
  refine (pi_range1 hg (Gd.blt _ (by decide +kernel)) (PXs.pa (.cons ha .nil)) (starEach_one ha.ns)).imp fun σ H R h => ?_
  refine TOf.imp (ta_len h) fun xs H1 ⟨hl, g1, M1, vs, items, a1, rws, hit, hR⟩ => ?_
  match vs, rws, hit, hR with
  | [], rws, _, _ => rw [← rws.length] at hl; cases hl
  | _ :: _ :: _, rws, _, _ => rw [← rws.length] at hl; simp at hl
  | [w], rws, hit, hR =>
    obtain ⟨v, e1, rv⟩ := rws.one_inv
    obtain ⟨j, rfl, hb, rfl⟩ := rng1_inv hit
    exact ⟨j, by rw [e1, show v = .int j from rv], hb.1, hb.2, hR _ (src_range rfl)⟩
theorem pi_rng2 {tg : Expr} {p : Pos} (Gd : Good G N sc calm X) (hg : Gl X "range") (ha : PX G cu Wi X a sa) (hb : PX G cu Wi X b sb) : PI X tg (.Call (.Name "range" p) [a, b] [] pos) (iOf G cu Wi .range (evEs [sa, sb])) := by
  refine (pi_range2 hg (Gd.blt _ (by decide +kernel)) (PXs.pa (.cons ha (.cons hb .nil))) (starEach_two ha.ns hb.ns) (starEach_one hb.ns)).imp fun σ H R h => ?_
  refine TOf.imp (ta_len h) fun xs H1 ⟨hl, g1, M1, vs, items, a1, rws, hit, hR⟩ => ?_
  match vs, rws, hit, hR with
  | [], rws, _, _ => rw [← rws.length] at hl; cases hl
  | [_], rws, _, _ => rw [← rws.length] at hl; cases hl
  | _ :: _ :: _ :: _, rws, _, _ => rw [← rws.length] at hl; simp at hl
  | [w, y], rws, hit, hR =>
    obtain ⟨v, u, e1, rv, ru⟩ := rws.two_inv
    obtain ⟨i, j, rfl, rfl, hb, rfl⟩ := rng2_inv hit
    exact ⟨i, j, by rw [e1, show v = .int i from rv, show u = .int j from ru], hb, hR _ (src_range rfl)⟩
end
end PyI

namespace PyI
open PySem PySem.Spec PyProof.Rows L2
section
variable {G : GE} {Γ : Glo} {cu : Option Cu} {Wi : WX} {X : Cx} {g g' g1 g2 : Gh} {M M' M1 M2 : Store} {H H' H1 H2 : Hp} {σ : L2.St} {l : LM} {N : List Str} {sc : Scope} {calm : Bool} {a b c : Expr} {sa sb s_c : Sm} {pos : Pos} {k : Nat} {D : Addr}
theorem LR.wipe (h : LR G g M H l σ) : ∀ vs : List Nat, LR G g M H (wipeW l vs) (L2.wipe σ vs)
  | [] => h
  | v :: vs => (LR.wipe h vs).unset v
theorem wipe_congr {σ σ' : L2.St} : ∀ {vs : List Nat}, σ'.length = σ.length → (∀ j : Nat, j ∉ vs → σ'[j]? = σ[j]?) → L2.wipe σ' vs = L2.wipe σ vs := by
  intro vs hl h
  apply List.ext_getElem?
  intro i
  have key : ∀ (σ : L2.St) (vs : List Nat) (i : Nat), (L2.wipe σ vs)[i]? = if i ∈ vs then (if i < σ.length then some none else none) else σ[i]? := by
    intro σ vs
    induction vs with
    | nil => intro i; simp [L2.wipe]
    | cons v vs ih =>
      intro i
      show ((L2.wipe σ vs).set v none)[i]? = _
      by_cases hv : v = i
      · subst hv
        by_cases hi : v < σ.length
        · rw [List.getElem?_set_self (by rw [wipe_length]; exact hi)]
          simp [hi]
        · rw [List.getElem?_eq_none (by simp [wipe_length]; omega)]
          simp [hi]
      · rw [List.getElem?_set_ne hv, ih]
        simp [Ne.symm hv]
  rw [key, key]
  by_cases hi : i ∈ vs
  · rw [if_pos hi, if_pos hi, hl]
  · rw [if_neg hi, if_neg hi, h i hi]
theorem wipe_wipe {σ : L2.St} {vs : List Nat} {σ' : L2.St} (h : σ'.length = σ.length) (k : ∀ j : Nat, j ∉ vs → σ'[j]? = (L2.wipe σ vs)[j]?) : L2.wipe σ' vs = L2.wipe σ vs := by
  have : L2.wipe σ' vs = L2.wipe (L2.wipe σ vs) vs := wipe_congr (by rw [wipe_length]; exact h) k
  rw [this]
  apply wipe_congr (by rw [wipe_length])
  intro j hj
  have key : ∀ (vs : List Nat), j ∉ vs → (L2.wipe σ vs)[j]? = σ[j]? := by
    intro vs
    induction vs with
    | nil => intro _; rfl
    | cons v vs ih =>
      intro h
      simp only [List.mem_cons, not_or] at h
      show ((L2.wipe σ vs).set v none)[j]? = _
      rw [List.getElem?_set_ne (Ne.symm h.1), ih h.2]
  exact key vs hj
theorem LR.len (h : LR G g M H l σ) : l.length = σ.length := h.1
theorem tgW_len : ∀ {t : Tg} {w : W} {l l' : LM}, tgW t w l = some l' → l'.length = l.length := by
  have key : ∀ n, (∀ {t : Tg} {w : W} {l l' : LM}, sizeOf t < n → tgW t w l = some l' → l'.length = l.length) ∧ ∀ {ts : List Tg} {ws : List W} {l l' : LM}, sizeOf ts < n → tgWs ts ws l = some l' → l'.length = l.length := by
    intro n
    induction n with
    | zero => exact ⟨fun h => by omega, fun h => by omega⟩
    | succ n ih =>
      refine ⟨fun {t w l l'} hz h => ?_, fun {ts ws l l'} hz h => ?_⟩
      · cases t with
        | nm i => cases h; simp
        | tup ts =>
          cases w <;> first | (cases h; done) | skip
          exact ih.2 (by simp at hz; omega) h
      · cases ts with
        | nil => cases ws with
          | nil => cases h; rfl
          | cons w ws => cases h
        | cons t ts => cases ws with
          | nil => cases h
          | cons w ws =>
            unfold tgWs at h
            obtain ⟨l1, h1, h2⟩ := Option.bind_eq_some_iff.mp h
            rw [ih.2 (by simp at hz; omega) h2, ih.1 (by simp at hz; omega) h1]
  exact fun {t w l l'} h => (key (sizeOf t + 1)).1 (Nat.lt_succ_self _) h
theorem At.still (h : Abs G g M H) (lr : LR G g M H l σ) : At G none g M H l σ := ⟨h, lr, fun c q => by cases q⟩
abbrev W0 : WX := fun _ _ _ _ => False
open Classical in
theorem lc_ok {kd : Itk} {fz : Bool} {own : List (Str × Nat)} {t : Tg} {ss cond : List Sm} {elt : Sm} {tt : TT} {Q : VK} (htg : ∀ j ∈ tgSl t, j ∈ own.map (·.2)) (htt : ∀ σ H Q, TTof G none W0 (evAndT cond) σ H Q → tt σ H Q)
    (h : TEof G none Wi (evLc fz own kd ss t cond elt) σ H Q) : tLc (iOf G none Wi kd (evEs ss)) (gOf G t) tt (TEof G none W0 elt.v) (own.map (·.2)) σ H Q := by
  obtain ⟨g0, M0, l, at0, p⟩ := h
  refine ⟨g0, M0, l, at0, (Post.bind (rel1 := RWs G) at0.abs.len p).imp fun xs H1 ⟨g1, M1, vs, a1, e1, r1, p1⟩ => ?_⟩
  obtain ⟨items, hit, p1⟩ := Post.need p1
  refine ⟨g1, M1, vs, items, a1, r1, hit, fun J hJ D hD => ?_⟩
  -- the turns' result
  cases hlc : lcW (fun x => tgW t x (wipeW l (own.map (·.2)))) (evAndT cond) elt.v (Still kd vs items) items M1 with
  | err => rw [hlc] at p1; exact p1.elim
  | exc c ns ws M2 => rw [hlc] at p1; exact p1.elim
  | ok ys M2 =>
  rw [hlc] at p1
  have p2 : Post G Wi (RW G) g1 M1 H1 σ (if ys.length ≤ sizeLine then newL fz ys M2 else .err) Q := p1
  split at p2
  · rename_i hys
    have a0 := a1.toOwn (o := .lst []) hD
    refine ⟨fun i m H' => ∃ g' M' acc accW ys', i ≤ items.length ∧ m = items.length - i ∧ Abs G g' M' H' ∧ EvoX D (ownG g1 D) M1 (upd H1 D (.lst [])) g' M' H' ∧ H' D = some (.lst acc) ∧ RWs G g' M' H' accW acc ∧
      lcW (fun x => tgW t x (wipeW l (own.map (·.2)))) (evAndT cond) elt.v (Still kd vs items) (items.drop i) M' = .ok ys' M2 ∧ accW ++ ys' = ys ∧ itemsW kd vs M' = some items, ?_, ?_⟩
    · exact ⟨_, ownG g1 D, M1, [], [], ys, Nat.zero_le _, rfl, a0, Evo.refl.x, upd_same, rfl, hlc, rfl, hit⟩
    · rintro i m H' ⟨g', M', acc, accW, ys', hi, rfl, a', e', hDa, racc, hl', hyy, hit'⟩
      have hDz : D ∈ g'.Z := by rw [e'.zs]; exact List.mem_cons_self ..
      have rsrc : RWs G g' M' H' vs xs := (r1.toOwn a1.len hD).evoX a0.len (List.mem_cons_self ..) e'
      obtain ⟨hgo, hstop⟩ := hJ g' M' H' a' rsrc hit'
      by_cases hlt : i = items.length
      · subst hlt
        left
        refine ⟨hstop, ?_⟩
        rw [List.drop_length] at hl'
        have hl'' : Res.ok ([] : List W) M' = .ok ys' M2 := hl'
        injection hl'' with e3 e4
        subst e3 e4
        rw [List.append_nil] at hyy
        subst hyy
        cases fz with
        | true =>
          obtain ⟨b1, b2, b3, b4⟩ := own_back a1 hD a' e'
          exact p2 _ _ _ b1 b2 ⟨D, acc, rfl, ⟨.inl hDa, b4⟩, racc.via (g' := ⟨g'.R, g1.Z⟩) (fun b _ f => b3 b f) (.inr fun _ _ q => q)⟩
        | false =>
          obtain ⟨b1, b2⟩ := own_cell (c := .lst accW) a1 hD a' e' ⟨acc, hDa, racc⟩
          refine p2 _ _ _ b1 b2 ⟨D, ?_, rfl⟩
          show (g'.R ++ [D])[M'.length]? = some D
          rw [← a'.len]; simp
      · right
        have hi2 : i < items.length := by omega
        obtain ⟨w, hw⟩ : ∃ w, items[i]? = some w := ⟨_, List.getElem?_eq_getElem hi2⟩
        have hdrop : items.drop i = w :: items.drop (i + 1) := by
          have h1 : w = items[i] := by rw [List.getElem?_eq_getElem hi2] at hw; exact (Option.some.inj hw).symm
          rw [h1]; exact List.drop_eq_getElem_cons hi2
        rw [hdrop] at hl'
        obtain ⟨hg, hy⟩ := hgo i w hw
        refine ⟨hg, fun H'' => ∃ m', m' < items.length - i ∧ ∃ g' M' acc accW ys', i + 1 ≤ items.length ∧ m' = items.length - (i + 1) ∧ Abs G g' M' H'' ∧ EvoX D (ownG g1 D) M1 (upd H1 D (.lst [])) g' M' H'' ∧ H'' D = some (.lst acc) ∧ RWs G g' M' H'' accW acc ∧
          lcW (fun x => tgW t x (wipeW l (own.map (·.2)))) (evAndT cond) elt.v (Still kd vs items) (items.drop (i + 1)) M' = .ok ys' M2 ∧ accW ++ ys' = ys ∧ itemsW kd vs M' = some items, fun H'' h => h, fun x H2 hyl => ?_⟩
        obtain ⟨a2, e2, rw2⟩ := hy x H2 hyl
        have eX2 := e'.trans a0.len (e2.x (D := D))
        have hD2 : H2 D = some (.lst acc) := e2.keep D _ hDa fun j c h1 _ => absurd (List.mem_of_getElem? h1) (a'.nz D hDz)
        have racc2 := racc.evo a'.len e2
        -- the turn by its own reading
        unfold lcW at hl'
        cases htw : tgW t w (wipeW l (own.map (·.2))) with
        | none => rw [htw] at hl'; cases hl'
        | some l1 =>
        rw [htw] at hl'
        simp only [need] at hl'
        have lr0 : LR G (ownG g1 D) M1 (upd H1 D (.lst [])) l σ := (at0.lr.evo at0.abs.len e1).toOwn a1.len hD
        have lr2 : LR G g' M' H2 (wipeW l (own.map (·.2))) (L2.wipe σ (own.map (·.2))) := (LR.evoX a0.len (List.mem_cons_self ..) eX2 lr0).wipe _
        refine ⟨g', M', _, w, l1, a2, lr2, rw2, htw, fun σ2 hfr lr3 => ?_⟩
        have hl2 : σ2.length = σ.length := by
          rw [← lr3.1, tgW_len htw, lr2.1, wipe_length]
        refine ⟨wipe_wipe hl2 fun j hj => hfr j fun hm => hj (htg j hm), htt _ _ _ ?_⟩
        refine ⟨g', M', l1, At.still a2 lr3, ?_⟩
        cases hc : evAndT cond l1 M' with
        | err => rw [hc] at hl'; cases hl'
        | exc c ns ws M3 => rw [hc] at hl'; cases hl'
        | ok bb M3 =>
        rw [hc] at hl'
        simp only [Res.bind] at hl'
        intro g3 b' H3 a3 e3 rb
        have eb : bb = b' := rb
        subst eb
        have eX3 := eX2.trans a0.len (e3.x (D := D))
        have hDz3 : D ∈ g3.Z := by rw [e3.zs]; exact hDz
        have hD3 : H3 D = some (.lst acc) := e3.keep D _ hD2 fun j c h1 _ => absurd (List.mem_of_getElem? h1) (a'.nz D hDz)
        have racc3 := racc2.evo a2.len e3
        cases bb with
        | false =>
          simp only [Bool.false_eq_true, if_false] at hl' ⊢
          split at hl'
          · rename_i hst
            exact ⟨_, by omega, g3, M3, acc, accW, ys', by omega, rfl, a3, eX3, hD3, racc3, hl', hyy, hst⟩
          · cases hl'
        | true =>
          simp only [if_true] at hl' ⊢
          refine ⟨g3, M3, l1, At.still a3 (lr3.evo a2.len e3), ?_⟩
          cases he : elt.v l1 M3 with
          | err => rw [he] at hl'; cases hl'
          | exc c ns ws M4 => rw [he] at hl'; cases hl'
          | ok y M4 =>
          rw [he] at hl'
          simp only at hl'
          split at hl'
          · rename_i hst
            cases hr : lcW (fun x => tgW t x (wipeW l (own.map (·.2)))) (evAndT cond) elt.v (Still kd vs items) (items.drop (i + 1)) M4 with
            | err => rw [hr] at hl'; cases hl'
            | exc c ns ws M5 => rw [hr] at hl'; cases hl'
            | ok ys2 M5 =>
            rw [hr] at hl'
            simp only [Res.ok.injEq] at hl'
            obtain ⟨e5, e6⟩ := hl'
            subst e5 e6
            intro g4 yv H4 a4 e4 ry
            have eX4 := eX3.trans a0.len (e4.x (D := D))
            have hDz4 : D ∈ g4.Z := by rw [e4.zs]; exact hDz3
            have hD4 : H4 D = some (.lst acc) := e4.keep D _ hD3 fun j c h1 _ => absurd (List.mem_of_getElem? h1) (a3.nz D hDz3)
            have racc4 := racc3.evo a3.len e4
            have hlen : acc.length < sizeLine := by
              rw [← racc4.length]
              have : (accW ++ y :: ys2).length ≤ sizeLine := by rw [hyy]; exact hys
              simp at this; omega
            obtain ⟨a5, e5⟩ := a4.own hDz4 (o := .lst (acc ++ [yv]))
            refine ⟨acc, hD4, hlen, _, by omega, g4, M4, acc ++ [yv], accW ++ [y], ys2, by omega, rfl, a5, eX4.trans a0.len e5, upd_same, ?_, hr, by rw [List.append_assoc]; exact hyy, hst⟩
            exact (racc4.append (.one ry)).evoX a4.len hDz4 e5
          · cases hl'
  · exact p2.elim
end
end PyI

namespace PyI
open PySem PySem.Spec PyProof.Rows L2
section
variable {G : GE} {Γ : Glo} {cu : Option Cu} {Wi : WX} {X : Cx} {g g' g1 g2 : Gh} {M M' M1 M2 : Store} {H H' H1 H2 : Hp} {σ : L2.St} {l : LM} {N : List Str} {sc : Scope} {calm : Bool} {a b c : Expr} {sa sb s_c : Sm} {pos : Pos} {k : Nat} {D : Addr}
/-! ### dict displays -/
theorem putK_new {kvs : List (Key × V)} {k : Key} {v : V} (h : k ∉ kvs.map (·.1)) : putK kvs k v = kvs ++ [(k, v)] := by
  unfold putK
  rw [if_neg]
  intro q
  rw [List.any_eq_true] at q
  obtain ⟨x, hx, e⟩ := q
  exact h (List.mem_map.mpr ⟨x, hx, by simpa using e⟩)
theorem mergeK_new : ∀ {more kvs : List (Key × V)}, ((kvs ++ more).map (·.1)).Nodup → mergeK kvs more = kvs ++ more
  | [], kvs, _ => by simp [mergeK]
  | p :: more, kvs, h => by
    have h1 : p.1 ∉ kvs.map (·.1) := fun hm => by
      rw [List.map_append, List.map_cons] at h
      exact (List.nodup_append.mp h).2.2 p.1 hm p.1 (by simp) rfl
    show mergeK (putK kvs p.1 p.2) more = _
    rw [putK_new h1]
    have e : ((kvs ++ [(p.1, p.2)]) ++ more) = kvs ++ p :: more := by simp
    rw [mergeK_new (by rw [e]; exact h), e]
def trsOf (G : GE) (cu : Option Cu) (Wi : WX) (ks : List Key) (ss : List Sm) : List (TE × TE) := ks.zipWith (fun k s => (tC (kV k), TEof G cu Wi s.v)) ss
theorem pairs_ok : ∀ {ks : List Key} {ss : List Sm} {g : Gh} {M : Store} {H : Hp} {R : List (V × V) → Hp → Prop}, ks.length = ss.length → At G cu g M H l σ → Post G Wi (RWs G) g M H σ (evEs ss l M) (fun xs H1 => R (ks.zipWith (fun k x => (kV k, x)) xs) H1) → tPairs (trsOf G cu Wi ks ss) σ H R
  | [], [], g, M, H, R, _, a, p => p.now a.abs (show RWs G g M H [] [] from rfl)
  | [], _ :: _, _, _, _, _, e, _, _ => by cases e
  | _ :: _, [], _, _, _, _, e, _, _ => by cases e
  | k :: ks, s :: ss, g, M, H, R, e, a, p => by
    show tC (kV k) σ H fun x H1 => TEof G cu Wi s.v σ H1 fun y H2 => tPairs (trsOf G cu Wi ks ss) σ H2 fun ps H3 => R ((x, y) :: ps) H3
    refine ⟨g, M, l, a, (Post.bind (rel1 := RW G) a.abs.len p).imp fun y H2 ⟨g2, M2, w, a2, e2, r2, p2⟩ => ?_⟩
    refine pairs_ok (by simpa using e) (a.evo a2 e2) ?_
    have p2 : Post G Wi (RWs G) g2 M2 H2 σ ((evEs ss l M2).bind fun ws M3 => .ok (w :: ws) M3) (fun xs H1 => R ((k :: ks).zipWith (fun k x => (kV k, x)) xs) H1) := p2
    exact (Post.bind (rel1 := RWs G) a2.len p2).imp fun xs H3 ⟨g3, M3, ws, a3, e3, r3, p3⟩ => p3.now a3 (show RWs G g3 M3 H3 (w :: ws) (y :: xs) from .cons (r2.evo a2.len e3) r3)
theorem zipK : ∀ {ks : List Key} {xs : List V}, ks.length = xs.length → ks.zipWith (fun k x => (kV k, x)) xs = (ks.zip xs).map fun kv => (kV kv.1, kv.2)
  | [], [], _ => rfl
  | [], _ :: _, e => by cases e
  | _ :: _, [], e => by cases e
  | k :: ks, x :: xs, e => by simp [zipK (ks := ks) (xs := xs) (by simpa using e)]
theorem At.toOwn (a : At G cu g M H l σ) (hD : H D = none) {o : HO} (hc : cu = none) : At G cu (ownG g D) M (upd H D o) l σ := ⟨a.abs.toOwn hD, a.lr.toOwn a.abs.len hD, fun c q => by rw [hc] at q; cases q⟩
theorem px_dsp {keys : List (Option Expr)} {values : List Expr} {ks : List Key} {ss : List Sm} {fz : Bool} (hK : X.K = G.K) (hcu : cu = none) (h : PPs X pos keys values (trsOf G cu Wi ks ss)) (hl : ks.length = ss.length) (hks : keys.length = ks.length) (hvs : values.length = ss.length) (hall : keys.all (·.isSome) = true) (h0 : keys ≠ []) (h15 : keys.length ≤ 15) :
    PX G cu Wi X (.Dict keys values pos) (.of fun l M => (evEs ss l M).bind fun vs M1 => prm (.dsp fz ks) vs M1) := by
  refine PX.of hK ((pe_disp h hall (by omega) h0 h15).imp fun σ H Q ⟨g, M, l, at_, p⟩ => ?_) (fun _ => rfl) rfl
  intro D hD
  cases he : evEs ss l M with
  | err => dsimp only at p; rw [he] at p; exact p.elim
  | exc c ns ws M1 =>
    dsimp only at p
    rw [he] at p
    refine pairs_ok hl (at_.toOwn hD hcu) ?_
    rw [he]
    intro g1 cls d H1 a1 e1 x1
    obtain ⟨b1, b2, b3, _⟩ := own_back at_.abs hD a1 e1.x
    obtain ⟨C, dx, fs, k1, k2, k3, k4, k5, k6, k7⟩ := x1
    exact p ⟨g1.R, g.Z⟩ cls d H1 b1 b2 ⟨C, dx, fs, k1, k2, k3, k4, b3 _ k5, k6, fun f w q => let ⟨v, z1, z2⟩ := k7 f w q; ⟨v, z1, z2.via (g' := ⟨g1.R, g.Z⟩) (fun b _ f => b3 b f) (.inr fun _ _ q => q)⟩⟩
  | ok ws M1 =>
    dsimp only at p
    rw [he] at p
    have p : Post G Wi (RW G) g M H σ (prm (.dsp fz ks) ws M1) Q := p
    simp only [prm] at p
    split at p
    · rename_i hc
      obtain ⟨c1, c2, c3⟩ := hc
      refine pairs_ok hl (at_.toOwn hD hcu) ?_
      rw [he]
      intro g1 xs H1 a1 e1 r1
      have hxl : ks.length = xs.length := by rw [← r1.length]; exact c2
      have hDz : D ∈ g1.Z := by rw [e1.zs]; exact List.mem_cons_self ..
      refine ⟨e1.keep D _ upd_same fun j c h1 _ => absurd (List.mem_of_getElem? h1) (at_.abs.cellNe hD), ks.zip xs, zipK hxl, by rw [List.length_zip]; omega, ?_⟩
      have hm : (ks.zip xs).map (·.1) = ks := List.map_fst_zip (by omega)
      have hm2 : (ks.zip xs).map (·.2) = xs := List.map_snd_zip (by omega)
      rw [mergeK_new (by rw [List.nil_append, hm]; exact c3), List.nil_append]
      obtain ⟨a2, e2⟩ := a1.own hDz (o := .dK (ks.zip xs))
      have eX := (e1.x (D := D)).trans (show (ownG g D).R.length = M.length from at_.abs.len) e2
      have r2 : RWs G g1 M1 (upd H1 D (.dK (ks.zip xs))) ws ((ks.zip xs).map (·.2)) := by rw [hm2]; exact r1.evoX a1.len hDz e2
      unfold newD at p
      cases fz with
      | true =>
        obtain ⟨b1, b2, b3, b4⟩ := own_back at_.abs hD a2 eX
        exact p _ _ _ b1 b2 ⟨D, ks.zip xs, rfl, upd_same, b4, hm, r2.via (g' := ⟨g1.R, g.Z⟩) (fun b _ f => b3 b f) (.inr fun _ _ q => q)⟩
      | false =>
        obtain ⟨b1, b2⟩ := own_cell (c := .dct ks ws) at_.abs hD a2 eX ⟨ks.zip xs, upd_same, hm, r2⟩
        refine p _ _ _ b1 b2 ⟨D, ?_, rfl⟩
        show (g1.R ++ [D])[M1.length]? = some D
        rw [← a2.len]; simp
    · exact p.elim
theorem px_dsp0 {fz : Bool} (hK : X.K = G.K) : PX G cu Wi X (.Dict [] [] pos) (.of fun l M => (evEs [] l M).bind fun vs M1 => prm (.dsp fz []) vs M1) := by
  refine PX.of hK (pe_dnewK.imp fun σ H Q ⟨g, M, l, at_, p⟩ => ?_) (fun _ => rfl) rfl
  have p : Post G Wi (RW G) g M H σ (newD fz [] [] M) Q := p
  exact fun q hq => Post.newD (kvs := []) at_.abs rfl (show RWs G g M H [] [] from rfl) p hq
end
end PyI

namespace PyI
open PySem PySem.Spec PyProof.Rows L2
section
variable {G : GE} {Γ : Glo} {cu : Option Cu} {Wi : WX} {X : Cx} {g g' g1 : Gh} {M M' M1 : Store} {H H' H1 : Hp} {σ : L2.St} {l : LM} {N : List Str} {sc : Scope} {calm : Bool} {a b c : Expr} {sa sb s_c : Sm} {pos : Pos} {k : Nat}
/-! ### isinstance of a tuple of classes -/
def tCs (vs : List V) : TA := fun _ H Q => Q vs H
def qOk (Γ : Glo) (q : Str × Bool) : Bool := if q.2 then Γ.pl q.1 else (askTys.lookup q.1).isSome
inductive AskN (X : Cx) : List (Str × Bool) → List Expr → Prop
  | nil : AskN X [] []
  | cons {q : Str × Bool} {p : Pos} {cs : List (Str × Bool)} {xs : List Expr} (hg : Gl X q.1) (hd : (q.1 == ("__debug__" : Str)) = false) : AskN X cs xs → AskN X (q :: cs) (.Name q.1 p :: xs)
theorem asks_ok (T : Tops G Γ X.prog X.w X.mg X.base k) (hbm : ∀ x ∈ bltNames, X.mg x = none) {cs : List (Str × Bool)} {xs : List Expr} (h : AskN X cs xs) (hq : cs.all (qOk Γ) = true) :
    ∃ vs us, Paired ClsV vs us ∧ vs.length = cs.length ∧ PA X xs (tCs vs) ∧ ∀ t tv, TyIs G t tv → (∀ c, t = .inr c → Γ.pl c = true) → PySem.W.kitAny G.K tv us = some (cs.any (isiOne t)) := by
  induction h with
  | nil => exact ⟨[], [], .nil, rfl, ⟨fun pos pins s σ H Q I q => pa_nil.run pos pins s σ H Q I q⟩, fun _ _ _ _ => kitAny_nil⟩
  | @cons q p cs xs hg hd _ ih =>
    simp only [List.all_cons, Bool.and_eq_true] at hq
    obtain ⟨vs, us, i1, i0, i2, i3⟩ := ih hq.2
    obtain ⟨cv, u, h1, h2, h3⟩ := ask_ok T hq.1 hbm hd
    refine ⟨cv :: vs, u :: us, .cons h1 i1, by simp [i0], (pa_cons (h2 hg) i2 (starEach_cons rfl)).imp fun σ H Q q => q, fun t tv ht hp => ?_⟩
    rw [List.any_cons]
    exact kitAny_cons (h3 t tv ht hp) (fun e => by rw [e, Bool.false_or]; exact i3 t tv ht hp) (fun e => by rw [e]; rfl)
theorem px_isiT {cs : List (Str × Bool)} {xs : List Expr} {kk : Nat} {p1 p2 : Pos} (Gd : Good G N sc calm X) (T : Tops G Γ X.prog X.w X.mg X.base k) (ha : PX G cu Wi X a sa) (hg : Gl X "isinstance") (hn : AskN X cs xs) (hq : cs.all (qOk Γ) = true) (hl : cs.length ≤ sizeLine) :
    PX G cu Wi X (.Call (.Name "isinstance" p1) [a, .Tuple xs kk p2] [] pos) (.of fun l M => (sa.v l M).bind fun w M1 => need (tyW M1 w) fun t => if isiAll Γ.pl t cs then .ok (.bl (cs.any (isiOne t))) M1 else .err) := by
  obtain ⟨vs, us, h1, h0, h2, h3⟩ := asks_ok T Gd.blt hn hq
  have hm : X.mg "isinstance" = none := Gd.blt _ (by decide +kernel)
  refine PX.of Gd.K ((pe_callB call_isiT hg hm rfl (pa_cons ha.pe (pa_cons (pe_tup h2) pa_nil (starEach_cons rfl)) (starEach_cons ha.ns)) (by decide +kernel) (by decide +kernel) (starEach_cons ha.ns) (by rw [starEach_cons (x := Expr.Tuple xs kk p2) rfl]; rfl)).imp fun σ H Q q1 => ?_) (fun _ => rfl) rfl
  refine (TOf.bind (fa := sa.v) (f := fun _ w M1 => need (tyW M1 w) fun t => if isiAll Γ.pl t cs then .ok (W.bl (cs.any (isiOne t))) M1 else .err) (rel1 := RW G) q1).imp fun v H1 ⟨g1, M1, l, w, a1, r1, p⟩ => ?_
  refine ⟨by rw [h0]; exact hl, fun tp htp => ?_⟩
  obtain ⟨t, ht, p⟩ := Post.need p
  split at p
  · rename_i hall
    simp only [isiAll, Bool.and_eq_true] at hall
    have hp : ∀ c, t = .inr c → Γ.pl c = true := fun c e => by subst e; exact hall.1
    obtain ⟨a2, e2⟩ := a1.abs.fresh (o := .tup vs) htp
    have r2 := r1.evo a1.abs.len e2
    obtain ⟨tv, k1, k2⟩ := ty_ok a2 r2 ht fun c e => let ⟨C, z1, _, z2, _⟩ := T.pl c (hp c e); ⟨C, z1, z2⟩
    rw [Gd.K]
    exact ⟨v, tp, vs, tv, us, _, rfl, upd_same, h1, k2, h3 t tv k1 hp, p g1 _ _ a2 e2 rfl⟩
  · exact p.no.elim
end
end PyI

namespace PyI
open PySem PySem.Spec PyProof.Rows L2
/-! ### the check: the compact text is the text -/
structure Ck where
  N : List Str
  sc : Scope
  /-- in a comprehension: its scope -/
  fs : Option Scope
  calm : Bool
def dbgB (x : Str) : Bool := !(x == ("__debug__" : Str)) && !(x == ("__classdict__" : Str))
def visB (sc : Scope) (x : Str) : Bool := match sc.names.lookup x with
  | some .local => true
  | some .cell => true
  | some .free => true
  | _ => false
def gloB (sc : Scope) (x : Str) : Bool := decide (sc.names.lookup x = some .globalImplicit)
def stoB (C : Ck) (x : Str) : Bool := match C.sc.names.lookup x with
  | some .local => true
  | some .cell => (match C.fs with
    | none => true
    | some s => decide (s.names.lookup x = some .cell))
  | _ => false
def conB : W → Const → Bool
  | .non, .none => true
  | .bl b, .bool c => decide (b = c)
  | .int i, .int j => decide (i = j)
  | .str x, .str y => decide (x = y)
  | _, _ => false
def keyB : Key → Option Expr → Bool
  | .inl i, some (.Constant (.int j) _ _) => decide (i = j)
  | .inr x, some (.Constant (.str y) _ _) => decide (x = y)
  | _, _ => false
def keysB : List Key → List (Option Expr) → Bool
  | [], [] => true
  | k :: ks, x :: xs => keyB k x && keysB ks xs
  | _, _ => false
def foldB : Expr → Bool
  | .Set _ _ _ => false
  | _ => true
def blkB (N : List Str) (sc scope : Scope) (own : List (Str × Nat)) : Bool :=
  decide (scope.kind = .function) && (scope.names.all fun y => decide (scope.names.lookup y.1 = some y.2)) && (own.all fun p => decide (N[p.2]? = some p.1)) &&
  (scope.names.all fun y => !decide (y.2 = .free) || (decide (sc.names.lookup y.1 = some .cell) || decide (sc.names.lookup y.1 = some .free))) &&
  (scope.names.all fun y => !(decide (y.2 = .local) || decide (y.2 = .cell)) || (decide (y.1 ∈ own.map (·.1)) || decide (y.1 ∉ N)))
mutual
def okTg (C : Ck) : Tg → Expr → Bool
  | .nm i, x => match x with
    | .Name y _ => decide (C.N[i]? = some y) && stoB C y
    | _ => false
  | .tup ts, x => match x with
    | .Tuple xs _ _ => okTgs C ts xs
    | _ => false
def okTgs (C : Ck) : List Tg → List Expr → Bool
  | [], [] => true
  | t :: ts, x :: xs => notStar x && okTg C t x && okTgs C ts xs
  | _, _ => false
end

/-- what is walked: the arguments of the call, or the thing itself -/
def isTupE : Expr → Bool
  | .Tuple _ _ _ => true
  | _ => false
def iterArgs (C : Ck) (k : Itk) (tg iter : Expr) : Option (List Expr) := match k, iter with
  | .seq, z => some [z]
  | .range, .Call (.Name f _) [z] [] _ => if decide (f = "range") && gloB C.sc f then some [z] else none
  | .range, .Call (.Name f _) [z, w] [] _ => if decide (f = "range") && gloB C.sc f then some [z, w] else none
  | .enum, .Call (.Name f _) [z] [] _ => if decide (f = "enumerate") && gloB C.sc f && isTupE tg then some [z] else none
  | .zip, .Call (.Name f _) [z, w] [] _ => if decide (f = "zip") && gloB C.sc f && isTupE tg then some [z, w] else none
  | .zips, .Call (.Name f _) [z, w] [⟨some s, .Constant (.bool b) _ _, _⟩] _ => if decide (f = "zip") && gloB C.sc f && isTupE tg && b && decide (s = "strict") then some [z, w] else none
  | _, _ => none
/-- what is left to be checked: a part, where, its text -/
abbrev Ob : Type := E × Ck × Expr
def obs : List E → Ck → List Expr → Option (List Ob)
  | [], _, [] => some []
  | e :: es, C, x :: xs => (obs es C xs).map ((e, C, x) :: ·)
  | _, _, _ => none
def ckO (b : Bool) (l : List Ob) : Option (List Ob) := if b then some l else none
def ckL (b : Bool) (l : Option (List Ob)) : Option (List Ob) := if b then l else none
def blkC (C : Ck) (scope : Scope) : Ck := ⟨C.N, relS scope C.sc, some scope, C.calm⟩
section
variable (Γ : Glo)
def askB (C : Ck) : List (Str × Bool) → List Expr → Bool
  | [], [] => true
  | q :: cs, x :: xs => (match x with
    | .Name n _ => decide (n = q.1) && gloB C.sc n && dbgB n && qOk Γ q
    | _ => false) && askB C cs xs
  | _, _ => false
def shPrm (p : Prm) (as : List E) (C : Ck) (x : Expr) : Option (List Ob) := match p, x with
  | .bin op _, .BinOp a op' b _ => ckL (decide (op = op')) (obs as C [a, b])
  | .cmp op, .Compare a [op'] [b] _ => ckL (decide (op = op') && !(behindInMarks op b)) (obs as C [a, b])
  | .neg, .UnaryOp .USub a _ => obs as C [a]
  | .idx, .Subscript a b _ => ckL (plainIxB b) (obs as C [a, b])
  | .slc lo hi _, .Subscript a (.Slice x y none _) _ => (match lo, hi, x, y with
    | false, false, none, none => obs as C [a]
    | true, false, some b, none => obs as C [a, b]
    | false, true, none, some b => obs as C [a, b]
    | _, _, _, _ => none)
  | .tup, .Tuple xs _ _ => obs as C xs
  | .lst _, .List xs _ => obs as C xs
  | .dsp _ ks, .Dict keys values _ => ckL (C.calm && keysB ks keys && decide (keys.length ≤ 15) && decide (values.length = keys.length)) (obs as C values)
  | .blt b _, .Call (.Name f _) xs [] _ => ckL (decide (f = b.name) && gloB C.sc f && (!b.calm || C.calm) && !xs.isEmpty) (obs as C xs)
  | .lzip _, .Call (.Name f _) [.Call (.Name g _) [a, b] [] _] [] _ => ckL (C.calm && decide (f = "list") && gloB C.sc f && decide (g = "zip") && gloB C.sc g) (obs as C [a, b])
  | _, _ => none
def shMth (m : Mt) (o : E) (as : List E) (C : Ck) (x : Expr) : Option (List Ob) := match x with
  | .Call (.Attribute y f apos) xs [] pos => ckL (m.ok && decide (f = m.name) && baseB y && (apos.endLine == pos.line) && decide (xs.length < 28)) (obs (o :: as) C (y :: xs))
  | _ => none
def shCall (f : Str) (as : List E) (ks : List Str) (C : Ck) (x : Expr) : Option (List Ob) := match x with
  | .Call (.Name g _) xs kws _ => ckL (C.calm && decide (f = g) && gloB C.sc f && dbgB f && (match Γ.fn f with
    | some fi => fitB fi (xs.length + kws.length) ks
    | none => false) && decide (kws.map (·.arg) = ks.map some)) (obs as C (xs ++ kws.map (·.value)))
  | _ => none
def shMake (c : Str) (as : List E) (ks : List Str) (C : Ck) (x : Expr) : Option (List Ob) := match x with
  | .Call (.Name g _) xs kws _ => ckL (C.calm && decide (c = g) && gloB C.sc c && dbgB c && (match Γ.mt c "__init__" with
    | some fi => fitB fi (xs.length + kws.length + 1) ks
    | none => false) && decide (kws.map (·.arg) = ks.map some)) (obs as C (xs ++ kws.map (·.value)))
  | _ => none
def shMeth (c m : Str) (o : E) (as : List E) (ks : List Str) (C : Ck) (x : Expr) : Option (List Ob) := match x with
  | .Call (.Attribute y f apos) xs kws pos => ckL (C.calm && decide (f = m) && baseB y && (apos.endLine == pos.line) && decide (xs.length + kws.length < 28) && (match Γ.mt c m with
    | some fi => fitB fi (xs.length + kws.length + 1) ks
    | none => false) && decide (kws.map (·.arg) = ks.map some)) (obs (o :: as) C (y :: (xs ++ kws.map (·.value))))
  | _ => none
def shIsi (single : Bool) (cs : List (Str × Bool)) (a : E) (C : Ck) (x : Expr) : Option (List Ob) := match x with
  | .Call (.Name f _) [y, z] [] _ => ckL (decide (f = "isinstance") && gloB C.sc f) (match single, cs, z with
    | true, [q], .Name n _ => ckO (decide (n = q.1) && gloB C.sc n && dbgB n && (if q.2 then Γ.pl q.1 else (askTys.lookup q.1).isSome)) [(a, C, y)]
    | false, cs, .Tuple xs _ _ => ckO (askB Γ C cs xs && decide (cs.length ≤ 1000)) [(a, C, y)]
    | _, _, _ => none)
  | _ => none
def shLc (own : List (Str × Nat)) (k : Itk) (src : List E) (t : Tg) (cond : List E) (elt : E) (C : Ck) (x : Expr) : Option (List Ob) := match x with
  | .ListComp y [⟨tg, iter, ifs, 0⟩] scope _ => ckL (C.calm && blkB C.N C.sc scope own && ((tgSl t).all fun j => decide (j ∈ own.map (·.2))) && foldB iter && decide (ifs.length ≤ 1) && okTg (blkC C scope) t tg)
      ((iterArgs C k tg iter).bind fun zs => (obs src C zs).bind fun l1 => (obs cond (blkC C scope) ifs).map fun l2 => (elt, blkC C scope, y) :: (l2 ++ l1))
  | _ => none
def shDc (own : List (Str × Nat)) (k : Itk) (src : List E) (t : Tg) (cond : List E) (key val : E) (C : Ck) (x : Expr) : Option (List Ob) := match x with
  | .DictComp y z [⟨tg, iter, ifs, 0⟩] scope _ => ckL (C.calm && blkB C.N C.sc scope own && ((tgSl t).all fun j => decide (j ∈ own.map (·.2))) && foldB iter && decide (ifs.length ≤ 1) && okTg (blkC C scope) t tg)
      ((iterArgs C k tg iter).bind fun zs => (obs src C zs).bind fun l1 => (obs cond (blkC C scope) ifs).map fun l2 => (key, blkC C scope, y) :: (val, blkC C scope, z) :: (l2 ++ l1))
  | _ => none
def shOwn (x m : Str) (c : Str) (a : E) (C : Ck) (e : Expr) : Option (List Ob) := match e with
  | .Call (.Name f _) [y] [] _ => ckO (C.calm && decide (f = x) && gloB C.sc f && (match Γ.mt c m with
    | some fi => fitB fi 1 []
    | none => false)) [(a, C, y)]
  | _ => none
/-- one part: what it leaves to be checked -/
def shape (e : E) (C : Ck) (x : Expr) : Option (List Ob) := match e with
  | .var i => (match x with
    | .Name y _ => ckO (decide (C.N[i]? = some y) && visB C.sc y && dbgB y) []
    | _ => none)
  | .con w => (match x with
    | .Constant c _ _ => ckO (conB w c) []
    | _ => none)
  | .glo y => (match x with
    | .Name z _ => ckO (decide (y = z) && gloB C.sc y && (Γ.con y).isSome && dbgB y) []
    | _ => none)
  | .prm p as => shPrm p as C x
  | .mth m _ o as => shMth m o as C x
  | .not a => (match x with
    | .UnaryOp .Not y _ => some [(a, C, y)]
    | _ => none)
  | .and as => (match x with
    | .BoolOp .And xs _ => ckL (!xs.isEmpty) (obs as C xs)
    | _ => none)
  | .or as => (match x with
    | .BoolOp .Or xs _ => ckL (!xs.isEmpty) (obs as C xs)
    | _ => none)
  | .slc3 _ a b c => (match x with
    | .Subscript y (.Slice (some z) (some w) none _) _ => some [(a, C, y), (b, C, z), (c, C, w)]
    | _ => none)
  | .isi single cs a => shIsi Γ single cs a C x
  | .ife c a b => (match x with
    | .IfExp y z w _ => some [(c, C, y), (a, C, z), (b, C, w)]
    | _ => none)
  | .chain op1 op2 a b c => (match x with
    | .Compare y [o1, o2] [z, w] _ => ckO (decide (op1 = o1) && decide (op2 = o2) && !(lastMarks [o1, o2] [z, w])) [(a, C, y), (b, C, z), (c, C, w)]
    | _ => none)
  | .call f _ as ks => shCall Γ f as ks C x
  | .make c _ as ks => shMake Γ c as ks C x
  | .meth c m _ o as ks => shMeth Γ c m o as ks C x
  | .lc _ own k src t cond elt => shLc own k src t cond elt C x
  | .dc _ own k src t cond key val => shDc own k src t cond key val C x
  | .att a f => (match x with
    | .Attribute y f' _ => ckO (decide (f = f') && baseB y) [(a, C, y)]
    | _ => none)
  | .lenU c a => shOwn Γ "len" "__len__" c a C x
  | .reprU c a => shOwn Γ "repr" "__repr__" c a C x
  | .bad => ckO (notStar x) []
  | _ => none
def okN : Nat → E → Ck → Expr → Bool
  | 0, _, _, _ => false
  | n + 1, e, C, x => match shape Γ e C x with
    | some l => l.all fun q => okN n q.1 q.2.1 q.2.2
    | none => false
def okE (e : E) (C : Ck) (x : Expr) : Bool := okN Γ 40 e C x
def okEs (es : List E) (C : Ck) (xs : List Expr) : Bool := match obs es C xs with
  | some l => l.all fun q => okE Γ q.1 q.2.1 q.2.2
  | none => false
end
end PyI

namespace PyI
open PySem PySem.Spec PyProof.Rows L2
structure GC (G : GE) (Γ : Glo) (k : Nat) (cur : Option Cur) (C : Ck) (cu : Option Cu) (Wi : WX) (X : Cx) : Prop where
  g : Good G C.N C.sc C.calm X
  top : Tops G Γ X.prog X.w X.mg X.base k
  room : C.calm = true → RoomG (k + 3) X.A
  fn : ∀ x, (match C.fs with | none => True | some s => s.names.lookup x = some .cell) → X.fn x = true
  tk : Takes X Wi
  cuN : C.calm = true → cu = none
  cur : cu.map (·.cur) = cur
section
variable {G : GE} {Γ : Glo} {k : Nat} {cur : Option Cur} {C : Ck} {cu : Option Cu} {Wi : WX} {X : Cx} {x : Expr}
theorem vis_of {sc : Scope} {x : Str} (h : visB sc x = true) : Vis sc x := by
  unfold visB at h
  unfold Vis
  split at h <;> first | (rename_i q; simp [q]; done) | cases h
theorem dbg_of {x : Str} (h : dbgB x = true) : (x == ("__debug__" : Str)) = false ∧ (x == ("__classdict__" : Str)) = false := by
  unfold dbgB at h
  simp only [Bool.and_eq_true, Bool.not_eq_true'] at h
  exact h
theorem sto_of {y : Str} (g : GC G Γ k cur C cu Wi X) (h : stoB C y = true) : Loc X.env.scope y ∧ (X.fn y = true ∨ X.env.scope.names.lookup y = some .local) := by
  rw [g.g.sc]
  unfold stoB at h
  split at h
  · rename_i q
    exact ⟨.inl q, .inr q⟩
  · rename_i q
    refine ⟨.inr q, .inl (g.fn y ?_)⟩
    cases hf : C.fs with
    | none => trivial
    | some s =>
      rw [hf] at h
      simpa using h
  · cases h
theorem assignEach_cons {t : Expr} {ts : List Expr} {env : Env} (h : notStar t = true) : assignEach (t :: ts) env = (false, assign t env) :: assignEach ts env := by
  cases t <;> first | rfl | cases h
theorem okTgs_each {env : Env} : ∀ {ts : List Tg} {xs : List Expr}, okTgs C ts xs = true → (assignEach xs env).length = ts.length ∧ (assignEach xs env).findIdx? (·.1) = none
  | [], [], _ => ⟨rfl, rfl⟩
  | [], _ :: _, h => by simp [okTgs] at h
  | _ :: _, [], h => by simp [okTgs] at h
  | t :: ts, x :: xs, h => by
    simp only [okTgs, Bool.and_eq_true] at h
    obtain ⟨h1, h2⟩ := okTgs_each (env := env) h.2
    rw [assignEach_cons h.1.1]
    exact ⟨by simp [h1], by rw [List.findIdx?_cons, h2]; rfl⟩
mutual
theorem okTg_ok (g : GC G Γ k cur C cu Wi X) (hc : C.calm = true) : ∀ {t : Tg} {x : Expr}, okTg C t x = true → PG X x (gOf G t)
  | .nm i, x, h => by
    simp only [okTg] at h
    split at h
    · simp only [Bool.and_eq_true, decide_eq_true_eq] at h
      obtain ⟨s1, s2⟩ := sto_of g h.2
      exact pg_nm (by rw [g.g.xN]; exact g.g.nd) (by rw [g.g.xN]; exact h.1) s1 s2
    · cases h
  | .tup ts, x, h => by
    simp only [okTg] at h
    split at h
    · rename_i xs n p
      obtain ⟨e1, e2⟩ := okTgs_each (env := X.env) h
      exact pg_tupT g.g.K (g.g.calm hc) (okTgs_ok g hc h) rfl e1 e2
    · cases h
theorem okTgs_ok (g : GC G Γ k cur C cu Wi X) (hc : C.calm = true) : ∀ {ts : List Tg} {xs : List Expr}, okTgs C ts xs = true → PGs X xs (gOfs G ts)
  | [], [], _ => pgs_nil'
  | [], _ :: _, h => by simp [okTgs] at h
  | _ :: _, [], h => by simp [okTgs] at h
  | t :: ts, x :: xs, h => by
    simp only [okTgs, Bool.and_eq_true] at h
    refine pgs_cons' (okTg_ok g hc h.1.2) (okTgs_ok g hc h.2) ?_
    rw [assignEach_cons h.1.1]; rfl
end
theorem blk_of {N : List Str} {sc scope : Scope} {own : List (Str × Nat)} (h : blkB N sc scope own = true) : BlkOk N sc scope own := by
  simp only [blkB, Bool.and_eq_true, List.all_eq_true, decide_eq_true_eq, Bool.or_eq_true, Bool.not_eq_true', decide_eq_false_iff_not] at h
  obtain ⟨⟨⟨⟨h1, h2⟩, h3⟩, h4⟩, h5⟩ := h
  refine ⟨h1, h2, h3, fun y hy e => (h4 y hy).resolve_left fun q => q e, fun y hy e => ?_⟩
  rcases h5 y hy with q | q
  · simp only [Bool.or_eq_false_iff, decide_eq_false_iff_not] at q
    rcases e with e | e
    · exact absurd e q.1
    · exact absurd e q.2
  · exact q
theorem fold_of {e : Expr} {env : Env} (h : foldB e = true) : ∀ x, foldedSetIterable e env x = pure x := by
  intro x
  cases e <;> first | rfl | cases h
/-- the block's context -/
theorem GC.blk (g : GC G Γ k cur C cu Wi X) (hc : C.calm = true) {scope : Scope} {s : Shared} {H : Hp} {C' : Addr} {cl : List (Str × Addr)} {fp : List Addr} : GC G Γ k none ⟨C.N, relS scope C.sc, some scope, C.calm⟩ none W0 (X.blk s H scope (compEnvC scope cl C' X.env) fp) := by
  refine ⟨⟨g.g.K, g.g.xN, g.g.nd, ?_, g.g.blt, g.g.gd, g.g.un, g.g.calm⟩, g.top, g.room, fun x h => ?_, ?_, fun _ => rfl, rfl⟩
  · show relabel scope X.env = relS scope C.sc
    rw [← g.g.sc]; rfl
  · show (scope.names.lookup x == some .cell) = true
    rw [h]; rfl
  · intro u s' ⟨_, _, _, _, _, _, _, _, _, _, _, _, _, _, _, _, h⟩
    exact h.elim
theorem pts_of {Y : Cx} {ifs : List Expr} {ss : List Sm} (hl : ifs.length ≤ 1) (h : PXs G none W0 Y ifs ss) : ∃ tt, PTs Y ifs tt ∧ ∀ σ H Q, TTof G none W0 (evAndT ss) σ H Q → tt σ H Q := by
  cases h with
  | nil =>
    exact ⟨tYes, pts_nil, fun σ H Q ⟨g, M, l, a, p⟩ => p.now a.abs rfl⟩
  | @cons x xs s ss h1 h2 =>
    cases h2 with
    | nil => exact ⟨_, pts_one h1.pt, fun σ H Q q => by rw [evAndT_one] at q; exact q⟩
    | cons _ _ => simp at hl
def ttOf (G : GE) (ss : List Sm) : TT := match ss with
  | [] => tYes
  | s :: _ => TTof G none W0 s.t
theorem pts_of' {Y : Cx} {ifs : List Expr} {ss : List Sm} (hl : ifs.length ≤ 1) (h : PXs G none W0 Y ifs ss) : PTs Y ifs (ttOf G ss) := by
  cases h with
  | nil => exact pts_nil
  | @cons x xs s ss h1 h2 =>
    cases h2 with
    | nil => exact pts_one h1.pt
    | cons _ _ => simp at hl
theorem tt_of {ss : List Sm} (hl : ss.length ≤ 1) : ∀ σ H Q, TTof G none W0 (evAndT ss) σ H Q → ttOf G ss σ H Q := by
  intro σ H Q q
  cases ss with
  | nil => obtain ⟨g, M, l, a, p⟩ := q; exact p.now a.abs rfl
  | cons s ss => cases ss with
    | nil => rw [evAndT_one] at q; exact q
    | cons _ _ => simp at hl
theorem PXs.inv1 {ss : List Sm} {x : Expr} (h : PXs G cu Wi X [x] ss) : ∃ s, ss = [s] ∧ PX G cu Wi X x s := by
  cases h with
  | cons h1 h2 => cases h2; exact ⟨_, rfl, h1⟩
theorem PXs.inv2 {ss : List Sm} {x y : Expr} (h : PXs G cu Wi X [x, y] ss) : ∃ s t, ss = [s, t] ∧ PX G cu Wi X x s ∧ PX G cu Wi X y t := by
  cases h with
  | cons h1 h2 => obtain ⟨t, rfl, h3⟩ := h2.inv1; exact ⟨_, t, rfl, h1, h3⟩
theorem PXs.app_inv {xs ys : List Expr} {ss : List Sm} (h : PXs G cu Wi X (xs ++ ys) ss) : ∃ s t, ss = s ++ t ∧ PXs G cu Wi X xs s ∧ PXs G cu Wi X ys t := by
  induction xs generalizing ss with
  | nil => exact ⟨[], ss, rfl, .nil, h⟩
  | cons x xs ih =>
    cases h with
    | cons h1 h2 => obtain ⟨s, t, rfl, h3, h4⟩ := ih h2; exact ⟨_ :: s, t, rfl, .cons h1 h3, h4⟩
theorem keys_pps {ks : List Key} {keys : List (Option Expr)} {values : List Expr} {ss : List Sm} {pos : Pos} : keysB ks keys = true → values.length = keys.length → PXs G cu Wi X values ss → PPs X pos keys values (trsOf G cu Wi ks ss) ∧ keys.length = ks.length ∧ keys.all (·.isSome) = true := by
  intro h hl hx
  induction ks generalizing keys values ss with
  | nil =>
    cases keys with
    | nil =>
      cases values with
      | nil => cases hx; exact ⟨pps_nil, rfl, rfl⟩
      | cons _ _ => cases hl
    | cons _ _ => simp [keysB] at h
  | cons q ks ih =>
    cases keys with
    | nil => simp [keysB] at h
    | cons y keys =>
      cases values with
      | nil => cases hl
      | cons v values =>
        cases hx with
        | cons h1 h2 =>
          simp only [keysB, Bool.and_eq_true] at h
          obtain ⟨i1, i2, i3⟩ := ih h.2 (by simpa using hl) h2
          have : ∃ e, y = some e ∧ PE X e (tC (kV q)) := by
            have hk := h.1
            unfold keyB at hk
            split at hk
            · simp only [decide_eq_true_eq] at hk; subst hk; exact ⟨_, rfl, pe_int⟩
            · simp only [decide_eq_true_eq] at hk; subst hk; exact ⟨_, rfl, pe_str⟩
            · cases hk
          obtain ⟨e, rfl, he⟩ := this
          exact ⟨pps_cons he h1.pe i1, by simp [i2], by simp [i3]⟩
end
end PyI


namespace PyI
open PySem PySem.Spec PyProof.Rows L2
/-! ### zip of two sequences, lists or tuples; strict or not -/
/-- true: a tuple -/
def ItK (t : Bool) (h : Heap) (i l : Addr) (k : Nat) : Prop := match t with
  | true => h.IsTupleIter i l k
  | false => h.IsListIter i l k
def SqH (t : Bool) (h : Heap) (l : Addr) (xs : Array Value) : Prop := match t with
  | true => h.IsTuple l xs
  | false => h.IsList l xs
abbrev ZipS (h : Heap) (z TI TO : Addr) (f0 : Value) (st : Bool) : Prop :=
  h.get? z = some { cls := .type "zip", dict := none, data := .fields #[f0, .bool false, .bool st, .ref TI, .ref TO], slots := #[] }
theorem ItK.at {t : Bool} {h h' : Heap} {i l : Addr} {k : Nat} (x : ItK t h i l k) (e : ∀ o, h.get? i = some o → h'.get? i = some o) : ItK t h' i l k := by
  cases t
  · exact Heap.IsListIter.at x e
  · exact Heap.IsTupleIter.at x e
theorem ItK.there {t : Bool} {h : Heap} {i l : Addr} {k : Nat} (x : ItK t h i l k) : ∃ o, h.get? i = some o ∧ ∃ v, o.data = .fields v := by
  cases t
  · obtain ⟨o, e, _, d⟩ := x; exact ⟨o, e, _, d⟩
  · obtain ⟨o, e, _, d⟩ := x; exact ⟨o, e, _, d⟩
theorem SqH.at {t : Bool} {h h' : Heap} {l : Addr} {xs : Array Value} (x : SqH t h l xs) (e : ∀ o, h.get? l = some o → h'.get? l = some o) : SqH t h' l xs := by
  cases t
  · obtain ⟨o, q, r⟩ := x; exact ⟨o, e o q, r⟩
  · obtain ⟨o, q, r⟩ := x; exact ⟨o, e o q, r⟩
section
variable {prog : Program} {w : World} {A : Around} {E : Value → Shared → Prop} {s : Shared}
theorem nextK_item {t : Bool} {it l : Addr} {i : Nat} {items : Array Value} {x : Value} {Q : Value → Shared → Prop} (hit : ItK t s.heap it l i) (hl : SqH t s.heap l items) (hx : items[i]? = some x)
    (hQ : ∀ h', ItK t h' it l (i + 1) → Heap.SameBut it s.heap h' → Q x { s with heap := h' }) : wpAny (model prog w) A (Builtin.SmallTypes.nextOf (.ref it)) Q E s := by
  cases t
  · exact wpAny_nextOf_list_item hit hl hx hQ
  · exact RZ.nextOf_tuple_item hit hl hx hQ
theorem nextK_end {t : Bool} {it l : Addr} {i : Nat} {items : Array Value} {Q : Value → Shared → Prop} (hh : A.handled = none) (hit : ItK t s.heap it l i) (hl : SqH t s.heap l items) (hx : items[i]? = none)
    (hE : ∀ h' e, Heap.ExtBut it s.heap h' → (∃ o, h'.get? e = some o ∧ o.cls = .type "StopIteration") → E (.ref e) { s with heap := h' }) : wpAny (model prog w) A (Builtin.SmallTypes.nextOf (.ref it)) Q E s := by
  cases t
  · exact wpAny_nextOf_list_end hh hit hl hx hE
  · exact RZ.nextOf_tuple_end hh hit hl hx hE
/-- one draw, strict or not -/
theorem drawF {it : Value} {Q : Option Value → Shared → Prop} (h : wpAny (model prog w) A (Builtin.SmallTypes.nextOf it) (fun x s' => Q (some x) s') E s) : wpAny (model prog w) A (Builtin.SmallTypes.nextOf it >>= fun x => pure (some x)) Q E s :=
  wpAny_bind (wpAny_mono h (fun _ _ q => wpAny_pure q) fun _ _ q => q)
theorem drawT {it : Value} {Q : Option Value → Shared → Prop} (h : wpAny (model prog w) A (Builtin.SmallTypes.nextOf it) (fun x s' => Q (some x) s') (fun e s' => (∃ a o, e = .ref a ∧ s'.heap.get? a = some o ∧ o.cls = .type "StopIteration") ∧ Q none s') s) : wpAny (model prog w) A (Builtin.SmallTypes.nextOrEnd it) Q E s := by
  unfold Builtin.SmallTypes.nextOrEnd
  refine wpAny_bind (wpAny_attempt (wpAny_mono h (fun _ _ q => wpAny_pure q) fun e s' q => ?_))
  obtain ⟨⟨a, o, rfl, ho, hc⟩, q⟩ := q
  refine wpAny_bind (wpAny_isInstance (T := "StopIteration") (b := true) ⟨o, ho, hc⟩ isSubtype_stop ?_)
  exact wpAny_pure q
theorem zipS_item {st t1 t2 : Bool} {z TI TO i1 i2 l1 l2 : Addr} {k1 k2 : Nat} {xs ys : Array Value} {x y a b : Value} {Q : Value → Shared → Prop} (D : ZipApart z TI TO i1 i2 l1 l2)
    (hz : ZipS s.heap z TI TO .none st) (hTI : IsPair s.heap TI (.ref i1) (.ref i2)) (hTO : IsPair s.heap TO a b)
    (h1 : ItK t1 s.heap i1 l1 k1) (h2 : ItK t2 s.heap i2 l2 k2) (hl1 : SqH t1 s.heap l1 xs) (hl2 : SqH t2 s.heap l2 ys) (hx : xs[k1]? = some x) (hy : ys[k2]? = some y)
    (hQ : ∀ h', ZipS h' z TI TO (rawInt s.heap.objs.size) st → IsPair h' TO x y → ItK t1 h' i1 l1 (k1 + 1) → ItK t2 h' i2 l2 (k2 + 1) → IsPair h' s.heap.objs.size x y → h'.objs.size = s.heap.objs.size + 1 →
      (∀ c o, c ≠ z → c ≠ TO → c ≠ i1 → c ≠ i2 → s.heap.get? c = some o → h'.get? c = some o) → Q (.ref s.heap.objs.size) { s with heap := h' }) :
    wpAny (model prog w) A (Builtin.«zip.__next__» ⟨[.ref z], []⟩) (fun fin s' => ∃ v, fin = .done (.ret v) ∧ Q v s') E s := by
  cases st
  · show wpAny _ _ (field (.ref z) 2 >>= _) _ _ _
    refine wpAny_bind (wpAny_field hz rfl (x := .bool false) rfl ?_)
    show wpAny _ _ (field (.ref z) 3 >>= _) _ _ _
    refine wpAny_bind (wpAny_field hz rfl (x := .ref TI) rfl ?_)
    refine wpAny_bind (wpAny_seqItems hTI rfl ?_)
    show wpAny _ _ (Builtin.SmallTypes.ownedTupleIsFree (.ref z) >>= _) _ _ _
    refine wpAny_bind ?_
    unfold Builtin.SmallTypes.ownedTupleIsFree
    refine wpAny_bind (wpAny_field hz rfl (x := .none) rfl (wpAny_pure ?_))
    simp only [if_true]
    refine wpAny_bind (wpAny_rule ?_)
    refine wpAny_bind (wpAny_field hz rfl (x := .ref TO) rfl ?_)
    refine wpAny_bind (wpAny_setField_rec hz (by simp) fun h₁ hz₁ hs₁ => ?_)
    replace hz₁ : ZipS h₁ z TI TO .ellipsis false := hz₁
    refine wpAny_bind ?_
    simp only [List.zipIdx_cons, List.zipIdx_nil, List.forIn_cons, List.forIn_nil]
    refine wpAny_bind (wpAny_bind (wpAny_onRaise ?_))
    refine drawF (nextK_item (h1.at fun o e => hs₁.extBut _ _ D.i1z e) (hl1.at fun o e => hs₁.extBut _ _ D.l1z e) hx fun h₂ h1₂ hs₂ => ?_)
    have hTO₂ : IsPair h₂ TO a b := hs₂.extBut _ _ D.TOi1 (hs₁.extBut _ _ D.TOz hTO)
    refine wpAny_bind (wpAny_seqItems hTO₂ rfl ?_)
    refine wpAny_bind (wpAny_updateSeq_pair hTO₂ fun h₃ hTO₃ hs₃ => ?_)
    replace hTO₃ : IsPair h₃ TO x b := hTO₃
    refine wpAny_bind (wpAny_letGo (wpAny_pure ?_))
    refine wpAny_bind (wpAny_bind (wpAny_onRaise ?_))
    refine drawF (nextK_item (h2.at fun o e => hs₃.extBut _ _ D.TOi2.symm (hs₂.extBut _ _ D.i12.symm (hs₁.extBut _ _ D.i2z e))) (hl2.at fun o e => hs₃.extBut _ _ D.l2TO (hs₂.extBut _ _ D.l2i1 (hs₁.extBut _ _ D.l2z e))) hy fun h₄ h2₄ hs₄ => ?_)
    have hTO₄ : IsPair h₄ TO x b := hs₄.extBut _ _ D.TOi2 hTO₃
    refine wpAny_bind (wpAny_seqItems hTO₄ rfl ?_)
    refine wpAny_bind (wpAny_updateSeq_pair hTO₄ fun h₅ hTO₅ hs₅ => ?_)
    replace hTO₅ : IsPair h₅ TO x y := hTO₅
    refine wpAny_bind (wpAny_letGo (wpAny_pure (wpAny_pure ?_)))
    refine wpAny_bind (wpAny_seqItems hTO₅ rfl ?_)
    refine wpAny_bind (wpAny_newTuple ?_)
    have hsz : h₅.objs.size = s.heap.objs.size := by rw [hs₅.1, hs₄.1, hs₃.1, hs₂.1, hs₁.1]
    have hz₅ : ZipS h₅ z TI TO .ellipsis false := hs₅.extBut _ _ D.TOz.symm (hs₄.extBut _ _ D.i2z.symm (hs₃.extBut _ _ D.TOz.symm (hs₂.extBut _ _ D.i1z.symm hz₁)))
    have hk₅ : ∀ c o, c ≠ z → c ≠ TO → c ≠ i1 → c ≠ i2 → s.heap.get? c = some o → h₅.get? c = some o := fun c o c1 c2 c3 c4 e =>
      hs₅.extBut _ _ c2 (hs₄.extBut _ _ c4 (hs₃.extBut _ _ c2 (hs₂.extBut _ _ c3 (hs₁.extBut _ _ c1 e))))
    have h1₅ : ItK t1 h₅ i1 l1 (k1 + 1) := h1₂.at fun o e => hs₅.extBut _ _ D.TOi1.symm (hs₄.extBut _ _ D.i12 (hs₃.extBut _ _ D.TOi1.symm e))
    have h2₅ : ItK t2 h₅ i2 l2 (k2 + 1) := h2₄.at fun o e => hs₅.extBut _ _ D.TOi2.symm e
    have hzlt : z < h₅.objs.size := Heap.lt_size hz₅
    show wpAny _ _ (Builtin.SmallTypes.ownedTupleHandOut (.ref z) (.ref h₅.objs.size) >>= _) _ _ _
    refine wpAny_bind ?_
    unfold Builtin.SmallTypes.ownedTupleHandOut
    have hz₆ : ZipS (h₅.push { cls := .type "tuple", data := .seq #[x, y] }) z TI TO .ellipsis false := Heap.get?_push_of_some _ hz₅
    refine wpAny_bind (wpAny_setField_rec hz₆ (by simp) fun h₇ hz₇ hs₇ => ?_)
    replace hz₇ : ZipS h₇ z TI TO (rawInt h₅.objs.size) false := hz₇
    refine wpAny_setField_rec hz₇ (by simp) fun h₈ hz₈ hs₈ => ?_
    replace hz₈ : ZipS h₈ z TI TO (rawInt h₅.objs.size) false := hz₈
    have up : ∀ c o, c ≠ z → h₅.get? c = some o → h₈.get? c = some o := fun c o c1 e => hs₈.extBut _ _ c1 (hs₇.extBut _ _ c1 (Heap.get?_push_of_some _ e))
    have hT₈ : IsPair h₈ h₅.objs.size x y := hs₈.extBut _ _ (Nat.ne_of_gt hzlt) (hs₇.extBut _ _ (Nat.ne_of_gt hzlt) (Heap.get?_push_size _ rfl))
    have hz8 : h₈.objs.size = h₅.objs.size + 1 := by rw [hs₈.1, hs₇.1, Heap.size_push]
    rw [hsz] at hz₈ hT₈ hz8
    refine wpAny_pure ⟨_, rfl, ?_⟩
    show Q (.ref h₅.objs.size) _
    rw [hsz]
    exact hQ h₈ hz₈ (up _ _ D.TOz hTO₅) (h1₅.at fun o e => up _ o D.i1z e) (h2₅.at fun o e => up _ o D.i2z e) hT₈ hz8 fun c o c1 c2 c3 c4 e => up c o c1 (hk₅ c o c1 c2 c3 c4 e)
  · show wpAny _ _ (field (.ref z) 2 >>= _) _ _ _
    refine wpAny_bind (wpAny_field hz rfl (x := .bool true) rfl ?_)
    show wpAny _ _ (field (.ref z) 3 >>= _) _ _ _
    refine wpAny_bind (wpAny_field hz rfl (x := .ref TI) rfl ?_)
    refine wpAny_bind (wpAny_seqItems hTI rfl ?_)
    show wpAny _ _ (Builtin.SmallTypes.ownedTupleIsFree (.ref z) >>= _) _ _ _
    refine wpAny_bind ?_
    unfold Builtin.SmallTypes.ownedTupleIsFree
    refine wpAny_bind (wpAny_field hz rfl (x := .none) rfl (wpAny_pure ?_))
    simp only [if_true]
    refine wpAny_bind (wpAny_rule ?_)
    refine wpAny_bind (wpAny_field hz rfl (x := .ref TO) rfl ?_)
    refine wpAny_bind (wpAny_setField_rec hz (by simp) fun h₁ hz₁ hs₁ => ?_)
    replace hz₁ : ZipS h₁ z TI TO .ellipsis true := hz₁
    refine wpAny_bind ?_
    simp only [List.zipIdx_cons, List.zipIdx_nil, List.forIn_cons, List.forIn_nil]
    refine wpAny_bind (wpAny_bind (wpAny_onRaise ?_))
    refine drawT (nextK_item (h1.at fun o e => hs₁.extBut _ _ D.i1z e) (hl1.at fun o e => hs₁.extBut _ _ D.l1z e) hx fun h₂ h1₂ hs₂ => ?_)
    have hTO₂ : IsPair h₂ TO a b := hs₂.extBut _ _ D.TOi1 (hs₁.extBut _ _ D.TOz hTO)
    refine wpAny_bind (wpAny_seqItems hTO₂ rfl ?_)
    refine wpAny_bind (wpAny_updateSeq_pair hTO₂ fun h₃ hTO₃ hs₃ => ?_)
    replace hTO₃ : IsPair h₃ TO x b := hTO₃
    refine wpAny_bind (wpAny_letGo (wpAny_pure ?_))
    refine wpAny_bind (wpAny_bind (wpAny_onRaise ?_))
    refine drawT (nextK_item (h2.at fun o e => hs₃.extBut _ _ D.TOi2.symm (hs₂.extBut _ _ D.i12.symm (hs₁.extBut _ _ D.i2z e))) (hl2.at fun o e => hs₃.extBut _ _ D.l2TO (hs₂.extBut _ _ D.l2i1 (hs₁.extBut _ _ D.l2z e))) hy fun h₄ h2₄ hs₄ => ?_)
    have hTO₄ : IsPair h₄ TO x b := hs₄.extBut _ _ D.TOi2 hTO₃
    refine wpAny_bind (wpAny_seqItems hTO₄ rfl ?_)
    refine wpAny_bind (wpAny_updateSeq_pair hTO₄ fun h₅ hTO₅ hs₅ => ?_)
    replace hTO₅ : IsPair h₅ TO x y := hTO₅
    refine wpAny_bind (wpAny_letGo (wpAny_pure (wpAny_pure ?_)))
    refine wpAny_bind (wpAny_seqItems hTO₅ rfl ?_)
    refine wpAny_bind (wpAny_newTuple ?_)
    have hsz : h₅.objs.size = s.heap.objs.size := by rw [hs₅.1, hs₄.1, hs₃.1, hs₂.1, hs₁.1]
    have hz₅ : ZipS h₅ z TI TO .ellipsis true := hs₅.extBut _ _ D.TOz.symm (hs₄.extBut _ _ D.i2z.symm (hs₃.extBut _ _ D.TOz.symm (hs₂.extBut _ _ D.i1z.symm hz₁)))
    have hk₅ : ∀ c o, c ≠ z → c ≠ TO → c ≠ i1 → c ≠ i2 → s.heap.get? c = some o → h₅.get? c = some o := fun c o c1 c2 c3 c4 e =>
      hs₅.extBut _ _ c2 (hs₄.extBut _ _ c4 (hs₃.extBut _ _ c2 (hs₂.extBut _ _ c3 (hs₁.extBut _ _ c1 e))))
    have h1₅ : ItK t1 h₅ i1 l1 (k1 + 1) := h1₂.at fun o e => hs₅.extBut _ _ D.TOi1.symm (hs₄.extBut _ _ D.i12 (hs₃.extBut _ _ D.TOi1.symm e))
    have h2₅ : ItK t2 h₅ i2 l2 (k2 + 1) := h2₄.at fun o e => hs₅.extBut _ _ D.TOi2.symm e
    have hzlt : z < h₅.objs.size := Heap.lt_size hz₅
    show wpAny _ _ (Builtin.SmallTypes.ownedTupleHandOut (.ref z) (.ref h₅.objs.size) >>= _) _ _ _
    refine wpAny_bind ?_
    unfold Builtin.SmallTypes.ownedTupleHandOut
    have hz₆ : ZipS (h₅.push { cls := .type "tuple", data := .seq #[x, y] }) z TI TO .ellipsis true := Heap.get?_push_of_some _ hz₅
    refine wpAny_bind (wpAny_setField_rec hz₆ (by simp) fun h₇ hz₇ hs₇ => ?_)
    replace hz₇ : ZipS h₇ z TI TO (rawInt h₅.objs.size) true := hz₇
    refine wpAny_setField_rec hz₇ (by simp) fun h₈ hz₈ hs₈ => ?_
    replace hz₈ : ZipS h₈ z TI TO (rawInt h₅.objs.size) true := hz₈
    have up : ∀ c o, c ≠ z → h₅.get? c = some o → h₈.get? c = some o := fun c o c1 e => hs₈.extBut _ _ c1 (hs₇.extBut _ _ c1 (Heap.get?_push_of_some _ e))
    have hT₈ : IsPair h₈ h₅.objs.size x y := hs₈.extBut _ _ (Nat.ne_of_gt hzlt) (hs₇.extBut _ _ (Nat.ne_of_gt hzlt) (Heap.get?_push_size _ rfl))
    have hz8 : h₈.objs.size = h₅.objs.size + 1 := by rw [hs₈.1, hs₇.1, Heap.size_push]
    rw [hsz] at hz₈ hT₈ hz8
    refine wpAny_pure ⟨_, rfl, ?_⟩
    show Q (.ref h₅.objs.size) _
    rw [hsz]
    exact hQ h₈ hz₈ (up _ _ D.TOz hTO₅) (h1₅.at fun o e => up _ o D.i1z e) (h2₅.at fun o e => up _ o D.i2z e) hT₈ hz8 fun c o c1 c2 c3 c4 e => up c o c1 (hk₅ c o c1 c2 c3 c4 e)
theorem zipS_end {st t1 t2 : Bool} {z TI TO i1 i2 l1 l2 : Addr} {k1 k2 : Nat} {xs ys : Array Value} {a b : Value} {Q : Fin → Shared → Prop} (hh : A.handled = none) (D : ZipApart z TI TO i1 i2 l1 l2)
    (hz : ZipS s.heap z TI TO .none st) (hTI : IsPair s.heap TI (.ref i1) (.ref i2)) (hTO : IsPair s.heap TO a b)
    (h1 : ItK t1 s.heap i1 l1 k1) (h2 : ItK t2 s.heap i2 l2 k2) (hl1 : SqH t1 s.heap l1 xs) (hl2 : SqH t2 s.heap l2 ys) (hend : (st = false ∧ (xs[k1]? = none ∨ ys[k2]? = none)) ∨ (xs[k1]? = none ∧ ys[k2]? = none))
    (hE : ∀ h' e, (∀ c o, c ≠ z → c ≠ TO → c ≠ i1 → c ≠ i2 → s.heap.get? c = some o → h'.get? c = some o) → (∃ o, h'.get? e = some o ∧ o.cls = .type "StopIteration") → E (.ref e) { s with heap := h' }) :
    wpAny (model prog w) A (Builtin.«zip.__next__» ⟨[.ref z], []⟩) Q E s := by
  cases st
  · show wpAny _ _ (field (.ref z) 2 >>= _) _ _ _
    refine wpAny_bind (wpAny_field hz rfl (x := .bool false) rfl ?_)
    show wpAny _ _ (field (.ref z) 3 >>= _) _ _ _
    refine wpAny_bind (wpAny_field hz rfl (x := .ref TI) rfl ?_)
    refine wpAny_bind (wpAny_seqItems hTI rfl ?_)
    show wpAny _ _ (Builtin.SmallTypes.ownedTupleIsFree (.ref z) >>= _) _ _ _
    refine wpAny_bind ?_
    unfold Builtin.SmallTypes.ownedTupleIsFree
    refine wpAny_bind (wpAny_field hz rfl (x := .none) rfl (wpAny_pure ?_))
    simp only [if_true]
    refine wpAny_bind (wpAny_rule ?_)
    refine wpAny_bind (wpAny_field hz rfl (x := .ref TO) rfl ?_)
    refine wpAny_bind (wpAny_setField_rec hz (by simp) fun h₁ hz₁ hs₁ => ?_)
    replace hz₁ : ZipS h₁ z TI TO .ellipsis false := hz₁
    refine wpAny_bind ?_
    simp only [List.zipIdx_cons, List.zipIdx_nil, List.forIn_cons, List.forIn_nil]
    refine wpAny_bind (wpAny_bind (wpAny_onRaise ?_))
    cases hx : xs[k1]? with
    | none =>
      refine drawF (nextK_end hh (h1.at fun o e => hs₁.extBut _ _ D.i1z e) (hl1.at fun o e => hs₁.extBut _ _ D.l1z e) hx fun h₂ e hs₂ he => ?_)
      obtain ⟨oe, hoe, hce⟩ := he
      have hz₂ : ZipS h₂ z TI TO .ellipsis false := hs₂ _ _ D.i1z.symm hz₁
      have hez : e ≠ z := fun x => by subst x; rw [hz₂] at hoe; cases hoe; simp at hce
      refine wpAny_setField_rec hz₂ (by simp) fun h₃ _ hs₃ => hE h₃ e (fun c o c1 _ c3 _ x => hs₃.extBut _ _ c1 (hs₂ _ _ c3 (hs₁.extBut _ _ c1 x))) ⟨oe, hs₃.extBut _ _ hez hoe, hce⟩
    | some x =>
      have hy : ys[k2]? = none := by
        rcases hend with h | h
        · rcases h.2 with h | h
          · rw [hx] at h; cases h
          · exact h
        · exact h.2
      refine drawF (nextK_item (h1.at fun o e => hs₁.extBut _ _ D.i1z e) (hl1.at fun o e => hs₁.extBut _ _ D.l1z e) hx fun h₂ h1₂ hs₂ => ?_)
      have hTO₂ : IsPair h₂ TO a b := hs₂.extBut _ _ D.TOi1 (hs₁.extBut _ _ D.TOz hTO)
      refine wpAny_bind (wpAny_seqItems hTO₂ rfl ?_)
      refine wpAny_bind (wpAny_updateSeq_pair hTO₂ fun h₃ hTO₃ hs₃ => ?_)
      refine wpAny_bind (wpAny_letGo (wpAny_pure ?_))
      refine wpAny_bind (wpAny_bind (wpAny_onRaise ?_))
      refine drawF (nextK_end hh (h2.at fun o e => hs₃.extBut _ _ D.TOi2.symm (hs₂.extBut _ _ D.i12.symm (hs₁.extBut _ _ D.i2z e))) (hl2.at fun o e => hs₃.extBut _ _ D.l2TO (hs₂.extBut _ _ D.l2i1 (hs₁.extBut _ _ D.l2z e))) hy fun h₄ e hs₄ he => ?_)
      obtain ⟨oe, hoe, hce⟩ := he
      have hz₄ : ZipS h₄ z TI TO .ellipsis false := hs₄ _ _ D.i2z.symm (hs₃.extBut _ _ D.TOz.symm (hs₂.extBut _ _ D.i1z.symm hz₁))
      have hez : e ≠ z := fun x => by subst x; rw [hz₄] at hoe; cases hoe; simp at hce
      refine wpAny_setField_rec hz₄ (by simp) fun h₅ _ hs₅ => hE h₅ e (fun c o c1 c2 c3 c4 x => hs₅.extBut _ _ c1 (hs₄ _ _ c4 (hs₃.extBut _ _ c2 (hs₂.extBut _ _ c3 (hs₁.extBut _ _ c1 x))))) ⟨oe, hs₅.extBut _ _ hez hoe, hce⟩
  · show wpAny _ _ (field (.ref z) 2 >>= _) _ _ _
    refine wpAny_bind (wpAny_field hz rfl (x := .bool true) rfl ?_)
    show wpAny _ _ (field (.ref z) 3 >>= _) _ _ _
    refine wpAny_bind (wpAny_field hz rfl (x := .ref TI) rfl ?_)
    refine wpAny_bind (wpAny_seqItems hTI rfl ?_)
    show wpAny _ _ (Builtin.SmallTypes.ownedTupleIsFree (.ref z) >>= _) _ _ _
    refine wpAny_bind ?_
    unfold Builtin.SmallTypes.ownedTupleIsFree
    refine wpAny_bind (wpAny_field hz rfl (x := .none) rfl (wpAny_pure ?_))
    simp only [if_true]
    refine wpAny_bind (wpAny_rule ?_)
    refine wpAny_bind (wpAny_field hz rfl (x := .ref TO) rfl ?_)
    refine wpAny_bind (wpAny_setField_rec hz (by simp) fun h₁ hz₁ hs₁ => ?_)
    replace hz₁ : ZipS h₁ z TI TO .ellipsis true := hz₁
    refine wpAny_bind ?_
    simp only [List.zipIdx_cons, List.zipIdx_nil, List.forIn_cons, List.forIn_nil]
    refine wpAny_bind (wpAny_bind (wpAny_onRaise ?_))
    have hx : xs[k1]? = none := by
      rcases hend with h | h
      · cases h.1
      · exact h.1
    have hy : ys[k2]? = none := by
      rcases hend with h | h
      · cases h.1
      · exact h.2
    refine drawT (nextK_end hh (h1.at fun o e => hs₁.extBut _ _ D.i1z e) (hl1.at fun o e => hs₁.extBut _ _ D.l1z e) hx fun h₂ e hs₂ he => ?_)
    obtain ⟨oe, hoe, hce⟩ := he
    refine ⟨⟨e, oe, rfl, hoe, hce⟩, ?_⟩
    have hz₂ : ZipS h₂ z TI TO .ellipsis true := hs₂ _ _ D.i1z.symm hz₁
    refine wpAny_bind (wpAny_setField_rec (s := { s with heap := h₂ }) hz₂ (by simp) fun h₃ hz₃ hs₃ => ?_)
    refine wpAny_bind ?_
    have q2 : ItK t2 h₃ i2 l2 k2 := h2.at fun o e => hs₃.extBut _ _ D.i2z (hs₂ _ _ D.i12.symm (hs₁.extBut _ _ D.i2z e))
    have q3 : SqH t2 h₃ l2 ys := hl2.at fun o e => hs₃.extBut _ _ D.l2z (hs₂ _ _ D.l2i1 (hs₁.extBut _ _ D.l2z e))
    refine (wpAny_bind (m := (_ : Sem PUnit)) ?_ : wpAny _ _ (_ >>= _) _ _ _)
    simp only [List.drop_succ_cons, List.drop_zero, List.zipIdx_cons, List.zipIdx_nil, List.forIn_cons, List.forIn_nil]
    refine wpAny_bind (wpAny_bind (drawT (nextK_end (s := { s with heap := h₃ }) hh q2 q3 hy fun h₄ e₄ hs₄ he₄ => ?_)))
    obtain ⟨o4, ho4, hc4⟩ := he₄
    refine ⟨⟨e₄, o4, rfl, ho4, hc4⟩, ?_⟩
    refine wpAny_pure (wpAny_pure ?_)
    refine wpAny_bind (wpAny_rule ?_)
    unfold Builtin.SmallTypes.stopIteration
    refine wpAny_bind ?_
    simp only [newExc, newTuple]
    refine wpAny_bind (wpAny_newObj_type ?_ (by size_fits))
    refine wpAny_bind (m := firstArgMember _ _) (wpAny_of_eq (a := Value.none) (by first | rfl | (simp only [firstArgMember]; rfl)) ?_)
    refine wpAny_newObj_type ?_ (by size_fits)
    simp only [raiseNew]
    refine wpAny_bind (wpAny_handled ?_)
    rw [hh]
    refine wpAny_bind (wpAny_pure (wpAny_throw ?_))
    refine hE _ _ (fun c o c1 c2 c3 c4 x => ?_) ⟨_, Heap.get?_push_size _ rfl, rfl⟩
    exact Heap.get?_push_of_some _ (Heap.get?_push_of_some _ (hs₄ _ _ c4 (hs₃.extBut _ _ c1 (hs₂ _ _ c3 (hs₁.extBut _ _ c1 x)))))
end
end PyI

namespace PyI
open PySem PySem.Spec PyProof.Rows L2
section
variable {prog : Program} {w : World} {A : Around} {E : Value → Shared → Prop} {s : Shared}
theorem pyNext_zipS_item {st t1 t2 : Bool} {z TI TO i1 i2 l1 l2 : Addr} {k1 k2 : Nat} {xs ys : Array Value} {x y a b : Value} {Q : Option Value → Shared → Prop} (D : ZipApart z TI TO i1 i2 l1 l2)
    (hz : ZipS s.heap z TI TO .none st) (hTI : IsPair s.heap TI (.ref i1) (.ref i2)) (hTO : IsPair s.heap TO a b)
    (h1 : ItK t1 s.heap i1 l1 k1) (h2 : ItK t2 s.heap i2 l2 k2) (hl1 : SqH t1 s.heap l1 xs) (hl2 : SqH t2 s.heap l2 ys) (hx : xs[k1]? = some x) (hy : ys[k2]? = some y)
    (hQ : ∀ h', ZipS h' z TI TO (rawInt s.heap.objs.size) st → IsPair h' TO x y → ItK t1 h' i1 l1 (k1 + 1) → ItK t2 h' i2 l2 (k2 + 1) → IsPair h' s.heap.objs.size x y → h'.objs.size = s.heap.objs.size + 1 →
      (∀ c o, c ≠ z → c ≠ TO → c ≠ i1 → c ≠ i2 → s.heap.get? c = some o → h'.get? c = some o) → Q (some (.ref s.heap.objs.size)) { s with heap := h' }) :
    wpAny (model prog w) A (pyNext (.ref z)) Q E s := by
  have hT : s.TypeIs (.ref z) "zip" := ⟨_, hz, rfl⟩
  unfold pyNext
  exact wpAny_bind (wpAny_attempt (wpAny_callSpecial?_slot (name := Str.ofString "__next__") hT F.slot_zip_next
    (wpAny_call_entry F.slot_zip_next hT F.entry_zip_next
      (zipS_item D hz hTI hTO h1 h2 hl1 hl2 hx hy fun h' a1 a2 a3 a4 a5 a6 a7 => wpAny_pure (hQ h' a1 a2 a3 a4 a5 a6 a7)) (F.args_zip_next_1 _))))
theorem pyNext_zipS_end {st t1 t2 : Bool} {z TI TO i1 i2 l1 l2 : Addr} {k1 k2 : Nat} {xs ys : Array Value} {a b : Value} {Q : Option Value → Shared → Prop} (hh : A.handled = none) (D : ZipApart z TI TO i1 i2 l1 l2)
    (hz : ZipS s.heap z TI TO .none st) (hTI : IsPair s.heap TI (.ref i1) (.ref i2)) (hTO : IsPair s.heap TO a b)
    (h1 : ItK t1 s.heap i1 l1 k1) (h2 : ItK t2 s.heap i2 l2 k2) (hl1 : SqH t1 s.heap l1 xs) (hl2 : SqH t2 s.heap l2 ys) (hend : (st = false ∧ (xs[k1]? = none ∨ ys[k2]? = none)) ∨ (xs[k1]? = none ∧ ys[k2]? = none))
    (hQ : ∀ h', (∀ c o, c ≠ z → c ≠ TO → c ≠ i1 → c ≠ i2 → s.heap.get? c = some o → h'.get? c = some o) → Q none { s with heap := h' }) : wpAny (model prog w) A (pyNext (.ref z)) Q E s := by
  have hT : s.TypeIs (.ref z) "zip" := ⟨_, hz, rfl⟩
  unfold pyNext
  refine wpAny_bind (wpAny_attempt (wpAny_callSpecial?_slot (name := Str.ofString "__next__") hT F.slot_zip_next
    (wpAny_call_entry F.slot_zip_next hT F.entry_zip_next (zipS_end hh D hz hTI hTO h1 h2 hl1 hl2 hend fun h' e hk he => ?_) (F.args_zip_next_1 _))))
  obtain ⟨o, ho, hc⟩ := he
  refine wpAny_bind (wpAny_isInstance (T := "StopIteration") (b := true) ⟨o, ho, hc⟩ isSubtype_stop ?_)
  exact wpAny_pure (hQ _ hk)
theorem pyIter_zipS {z TI TO : Addr} {f0 : Value} {st : Bool} {Q : Value → Shared → Prop} (hz : ZipS s.heap z TI TO f0 st) (h : Q (.ref z) s) : wpAny (model prog w) A (pyIter (.ref z)) Q E s := by
  have hT : s.TypeIs (.ref z) "zip" := ⟨_, hz, rfl⟩
  refine wpAny_pyIter_slot hT F.slot_zip_iter (wpAny_call_entry F.slot_zip_iter hT F.entry_zip_iter ?_ (F.args_zip_iter_1 _))
  show wpAny _ _ (ret (.ref z)) _ _ s
  exact wpAny_pure ⟨_, rfl, "zip", _, hT, F.slot_zip_next.lookup, h⟩
theorem wpAny_letOwnedTupleGo_zipS {elts : List Expr} {x1} {pos : Pos} {z TI TO T : Addr} {st : Bool} {Q : Unit → Shared → Prop} (hz : ZipS s.heap z TI TO (rawInt T) st)
    (hQ : ∀ h', ZipS h' z TI TO .none st → Heap.SameBut z s.heap h' → Q () { s with heap := h' }) :
    wpAny (model prog w) A (letOwnedTupleGo (.Tuple elts x1 pos) (.ref z) (.ref T)) Q E s := by
  unfold letOwnedTupleGo
  refine wpAny_bind (wpAny_load hz ?_)
  show wpAny _ _ (if (["enumerate", "zip", "dict_itemiterator", "dict_reverseitemiterator", "odict_iterator", "itertools.zip_longest", "itertools.pairwise"].contains "zip" &&
      (#[rawInt T, .bool false, .bool st, .ref TI, .ref TO] : Array Value)[0]? == some (rawInt T)) = true then _ else _) Q E s
  rw [if_pos (by simp)]
  refine wpAny_bind (wpAny_rule ?_)
  show wpAny _ _ (setField (.ref z) 0 .none) Q E s
  exact wpAny_setField_rec hz (by simp) fun h' hz' hs' => hQ h' hz' hs'
end
/-! ### the source of a loop -/
def SqV (t : Bool) (K : PySem.W.Frag) (H : Hp) (a : Addr) (xs : List V) : Prop := match t with
  | true => SqT K H a xs
  | false => SqL K H a xs
def ItzS (K : PySem.W.Frag) (st t1 t2 : Bool) (a b : Addr) : It :=
  ⟨fun i H => ∃ (xs ys : List V) (x y : V), SqV t1 K H a xs ∧ SqV t2 K H b ys ∧ xs[i]? = some x ∧ ys[i]? = some y,
    fun i H v H' => ∃ T x y, v = .ref T ∧ H T = none ∧ H' = upd H T (.tup [x, y]) ∧ (∀ xs, SqV t1 K H a xs → xs[i]? = some x) ∧ ∀ ys, SqV t2 K H b ys → ys[i]? = some y,
    fun i H => ∃ xs ys : List V, SqV t1 K H a xs ∧ SqV t2 K H b ys ∧ ((st = false ∧ (xs.length ≤ i ∨ ys.length ≤ i)) ∨ (xs.length ≤ i ∧ ys.length ≤ i))⟩
section
variable {X : Cx} {pins : List (Addr × Obj)} {σ : L2.St} {H : Hp} {s : Shared}
theorem Inv.sqv {t : Bool} {a : Addr} {xs : List V} (I : Inv X pins σ H s) (h : SqV t X.K H a xs) : ∃ its, Vals xs its ∧ SqH t s.heap a its.toArray ∧ xs.length ≤ sizeLine := by
  cases t
  · obtain ⟨its, rv, p, z⟩ := I.list h
    exact ⟨its, rv, p.isList, z⟩
  · obtain ⟨its, rv, p, z⟩ := I.tuple h
    exact ⟨its, rv, p, z⟩
theorem Inv.sqv_inj {t : Bool} {a : Addr} {xs ys : List V} (I : Inv X pins σ H s) (h : SqV t X.K H a xs) (h' : SqV t X.K H a ys) : xs = ys := by
  cases t
  · exact I.list_inj h h'
  · exact I.tuple_inj h h'
end
theorem turn_zipS {P : Program} {w : World} {K : PySem.W.Frag} {elts : List Expr} {kk : Nat} {tpos : Pos} {st t1 t2 : Bool} {a b z TI TO i1 i2 : Addr} (D : ZipApart z TI TO i1 i2 a b) :
    Turn P w K (.Tuple elts kk tpos) (ItzS K st t1 t2 a b) [z, TI, TO, i1, i2] z (fun i h => ZipS h z TI TO .none st ∧ IsPair h TI (.ref i1) (.ref i2) ∧ (∃ x y, IsPair h TO x y) ∧ ItK t1 h i1 a i ∧ ItK t2 h i2 b i) where
  mem := by simp
  obj := fun i h st c hc => by
    obtain ⟨hz, hTI, ⟨x, y, hTO⟩, h1, h2⟩ := st
    obtain ⟨o1, e1, v1, d1⟩ := h1.there
    obtain ⟨o2, e2, v2, d2⟩ := h2.there
    have e' : c = z ∨ c = TI ∨ c = TO ∨ c = i1 ∨ c = i2 := by simpa using hc
    rcases e' with q | q | q | q | q
    · rw [q]; exact ⟨_, hz, fun v q => nomatch q⟩
    · rw [q]; exact ⟨_, hTI, fun v q => nomatch q⟩
    · rw [q]; exact ⟨_, hTO, fun v q => nomatch q⟩
    · rw [q]; exact ⟨o1, e1, fun v q => by rw [d1] at q; cases q⟩
    · rw [q]; exact ⟨o2, e2, fun v q => by rw [d2] at q; cases q⟩
  keep := fun i h h' st k => by
    obtain ⟨hz, hTI, ⟨x, y, hTO⟩, h1, h2⟩ := st
    exact ⟨k z (by simp) _ hz, k TI (by simp) _ hTI, ⟨x, y, k TO (by simp) _ hTO⟩, h1.at fun o q => k i1 (by simp) o q, h2.at fun o q => k i2 (by simp) o q⟩
  item := by
    intro X hP hw hK hc i pins s σ H E I hf st' hg
    subst hP hw hK
    obtain ⟨hz, hTI, ⟨x0, y0, hTO⟩, h1, h2⟩ := st'
    obtain ⟨xs, ys, x, y, hqx, hqy, hx, hy⟩ := hg
    obtain ⟨its, rv, p, _⟩ := Inv.sqv I hqx
    obtain ⟨its2, rv2, p2, _⟩ := Inv.sqv I hqy
    obtain ⟨u, hu, ru⟩ := rv.get hx
    obtain ⟨u2, hu2, ru2⟩ := rv2.get hy
    have hzl : z < s.heap.objs.size := Heap.lt_size hz
    refine pyNext_zipS_item D hz hTI hTO h1 h2 p p2 (x := u) (y := u2) (by simpa using hu) (by simpa using hu2) fun h' z' TO' h1' h2' hT hsz hk => ?_
    refine ⟨_, rfl, wpAny_letOwnedTupleGo_zipS (s := { s with heap := h' }) z' fun h'' z'' sb => ?_⟩
    have hT2 : h''.get? s.heap.objs.size = some { cls := .type "tuple", data := .seq #[u, u2] } := (sb.2 _ (Nat.ne_of_gt hzl)).trans hT
    have new : ObjOk X.prog X.w (upd H s.heap.objs.size (.tup [x, y])) h'' s.heap.objs.size (.tup [x, y]) :=
      ⟨by show 2 ≤ sizeLine; decide, [u, u2], .cons ru (.cons ru2 .nil), ⟨_, hT2, rfl, _, rfl⟩⟩
    have I1 : Inv X pins σ (upd H s.heap.objs.size (.tup [x, y])) { s with heap := h'' } :=
      I.turnedNew (t' := s.toks) (ch := [z, TI, TO, i1, i2]) (fun c o hb q => (sb.2 c (fun q' => hb (by simp [q']))).trans (hk c o (fun q' => hb (by simp [q'])) (fun q' => hb (by simp [q'])) (fun q' => hb (by simp [q'])) (fun q' => hb (by simp [q'])) q)) hf (Nat.le_refl _) new
    refine ⟨.ref s.heap.objs.size, _, I1, rfl, ⟨_, x, y, rfl, I.hok.fresh (Nat.le_refl _), rfl, fun l hl => by rw [Inv.sqv_inj I hl hqx]; exact hx, fun l hl => by rw [Inv.sqv_inj I hl hqy]; exact hy⟩, ⟨z'', ?_, ⟨u, u2, ?_⟩, ?_, ?_⟩, fun c hcm => ?_⟩
    · exact (sb.2 _ D.TIz).trans (hk _ _ D.TIz D.TITO D.TIi1 D.TIi2 hTI)
    · exact (sb.2 _ D.TOz).trans TO'
    · exact h1'.at fun o q => (sb.2 _ D.i1z).trans q
    · exact h2'.at fun o q => (sb.2 _ D.i2z).trans q
    · have hlt : c < s.heap.objs.size := by
        have e' : c = z ∨ c = TI ∨ c = TO ∨ c = i1 ∨ c = i2 := by simpa using hcm
        rcases e' with q | q | q | q | q
        · rw [q]; exact hzl
        · rw [q]; exact Heap.lt_size hTI
        · rw [q]; exact Heap.lt_size hTO
        · rw [q]; obtain ⟨_, e1, _⟩ := h1.there; exact Heap.lt_size e1
        · rw [q]; obtain ⟨_, e2, _⟩ := h2.there; exact Heap.lt_size e2
      rw [upd_ne (Nat.ne_of_lt hlt)]
      exact (hf c hcm).1
  done := by
    intro X hP hw hK hc i pins s σ H E I hf st' hg
    subst hP hw hK
    obtain ⟨hz, hTI, ⟨x0, y0, hTO⟩, h1, h2⟩ := st'
    obtain ⟨xs, ys, hqx, hqy, hend⟩ := hg
    obtain ⟨its, rv, p, _⟩ := Inv.sqv I hqx
    obtain ⟨its2, rv2, p2, _⟩ := Inv.sqv I hqy
    have l1 := rv.length
    have l2 := rv2.length
    have n1 : xs.length ≤ i → its.toArray[i]? = none := fun q => by simp; omega
    have n2 : ys.length ≤ i → its2.toArray[i]? = none := fun q => by simp; omega
    have he : (st = false ∧ (its.toArray[i]? = none ∨ its2.toArray[i]? = none)) ∨ (its.toArray[i]? = none ∧ its2.toArray[i]? = none) := by
      rcases hend with ⟨q0, q⟩ | ⟨q, q'⟩
      · exact .inl ⟨q0, q.imp n1 n2⟩
      · exact .inr ⟨n1 q, n2 q'⟩
    exact pyNext_zipS_end (I.ok.hd hc) D hz hTI hTO h1 h2 p p2 he fun h' hk => ⟨rfl, I.turnedL (t' := s.toks) (ch := [z, TI, TO, i1, i2]) (fun c o hb q =>
      hk c o (fun q' => hb (by simp [q'])) (fun q' => hb (by simp [q'])) (fun q' => hb (by simp [q'])) (fun q' => hb (by simp [q'])) q) hf⟩
  self := fun A i s Q E st h => pyIter_zipS st.1 h
end PyI

namespace PyI
open PySem PySem.Spec PyProof.Rows L2
def itObj (t : Bool) (l : Addr) : Obj := match t with
  | true => { cls := .type "tuple_iterator", data := .fields #[.ref l, .int 0 0] }
  | false => { cls := .type "list_iterator", data := .fields #[.ref l, .int 0 0] }
def zsH1 (h : Heap) (t1 : Bool) (l1 : Addr) : Heap := h.push (itObj t1 l1)
def zsH2 (h : Heap) (t1 t2 : Bool) (l1 l2 : Addr) : Heap := (zsH1 h t1 l1).push (itObj t2 l2)
def zsH3 (h : Heap) (t1 t2 : Bool) (l1 l2 : Addr) : Heap := (zsH2 h t1 t2 l1 l2).push { cls := .type "tuple", data := .seq #[.ref h.objs.size, .ref (zsH1 h t1 l1).objs.size] }
def zsH4 (h : Heap) (t1 t2 : Bool) (l1 l2 : Addr) : Heap := (zsH3 h t1 t2 l1 l2).push { cls := .type "tuple", data := .seq #[.none, .none] }
def zsH5 (h : Heap) (st t1 t2 : Bool) (l1 l2 : Addr) : Heap := (zsH4 h t1 t2 l1 l2).push { cls := .type "zip", data := .fields #[.none, .bool false, .bool st, .ref (zsH2 h t1 t2 l1 l2).objs.size, .ref (zsH3 h t1 t2 l1 l2).objs.size] }
theorem meets_zipS_new (t1 t2 : Bool) (l1 l2 : Addr) (xs ys : Array Value) :
    Meets (Builtin.«zip.__new__» ⟨[.type "zip", .ref l1, .ref l2], []⟩) (fun _ R s => SqH t1 s.heap l1 xs ∧ SqH t2 s.heap l2 ys ∧
      R (.ok (.ret (.ref (zsH4 s.heap t1 t2 l1 l2).objs.size))) { s with heap := zsH5 s.heap false t1 t2 l1 l2 }) :=
  .of_wp fun prog w A R s h => by
    obtain ⟨hp, g, d, tk, os⟩ := s; obtain ⟨hl1, hl2, h⟩ := h
    have hsub := sub_zip
    cases t1 <;> cases t2
    · have hL1 : Heap.IsList (Shared.heap ⟨hp, g, d, tk, os⟩) l1 xs := hl1
      have hL2 : Heap.IsList (Shared.heap ⟨hp.push { cls := .type "list_iterator", data := .fields #[.ref l1, .int 0 0] }, g, d, tk, os⟩) l2 ys := Heap.IsList.push hl2 _
      wp_walk using wpAny_pyIter_list hL1, wpAny_pyIter_list hL2
      exact ⟨_, rfl, h⟩
    · have hL1 : Heap.IsList (Shared.heap ⟨hp, g, d, tk, os⟩) l1 xs := hl1
      have hL2 : Heap.IsTuple (Shared.heap ⟨hp.push { cls := .type "list_iterator", data := .fields #[.ref l1, .int 0 0] }, g, d, tk, os⟩) l2 ys := Heap.IsTuple.push hl2 _
      wp_walk using wpAny_pyIter_list hL1, wpAny_pyIter_tuple hL2
      exact ⟨_, rfl, h⟩
    · have hL1 : Heap.IsTuple (Shared.heap ⟨hp, g, d, tk, os⟩) l1 xs := hl1
      have hL2 : Heap.IsList (Shared.heap ⟨hp.push { cls := .type "tuple_iterator", data := .fields #[.ref l1, .int 0 0] }, g, d, tk, os⟩) l2 ys := Heap.IsList.push hl2 _
      wp_walk using wpAny_pyIter_tuple hL1, wpAny_pyIter_list hL2
      exact ⟨_, rfl, h⟩
    · have hL1 : Heap.IsTuple (Shared.heap ⟨hp, g, d, tk, os⟩) l1 xs := hl1
      have hL2 : Heap.IsTuple (Shared.heap ⟨hp.push { cls := .type "tuple_iterator", data := .fields #[.ref l1, .int 0 0] }, g, d, tk, os⟩) l2 ys := Heap.IsTuple.push hl2 _
      wp_walk using wpAny_pyIter_tuple hL1, wpAny_pyIter_tuple hL2
      exact ⟨_, rfl, h⟩
theorem meets_zipS_newT (t1 t2 : Bool) (l1 l2 : Addr) (xs ys : Array Value) :
    Meets (Builtin.«zip.__new__» ⟨[.type "zip", .ref l1, .ref l2], [("strict", .bool true)]⟩) (fun _ R s => SqH t1 s.heap l1 xs ∧ SqH t2 s.heap l2 ys ∧
      R (.ok (.ret (.ref (zsH4 s.heap t1 t2 l1 l2).objs.size))) { s with heap := zsH5 s.heap true t1 t2 l1 l2 }) :=
  .of_wp fun prog w A R s h => by
    obtain ⟨hp, g, d, tk, os⟩ := s; obtain ⟨hl1, hl2, h⟩ := h
    have hsub := sub_zip
    cases t1 <;> cases t2
    · have hL1 : Heap.IsList (Shared.heap ⟨hp, g, d, tk, os⟩) l1 xs := hl1
      have hL2 : Heap.IsList (Shared.heap ⟨hp.push { cls := .type "list_iterator", data := .fields #[.ref l1, .int 0 0] }, g, d, tk, os⟩) l2 ys := Heap.IsList.push hl2 _
      wp_walk using wpAny_pyIter_list hL1, wpAny_pyIter_list hL2
      exact ⟨_, rfl, h⟩
    · have hL1 : Heap.IsList (Shared.heap ⟨hp, g, d, tk, os⟩) l1 xs := hl1
      have hL2 : Heap.IsTuple (Shared.heap ⟨hp.push { cls := .type "list_iterator", data := .fields #[.ref l1, .int 0 0] }, g, d, tk, os⟩) l2 ys := Heap.IsTuple.push hl2 _
      wp_walk using wpAny_pyIter_list hL1, wpAny_pyIter_tuple hL2
      exact ⟨_, rfl, h⟩
    · have hL1 : Heap.IsTuple (Shared.heap ⟨hp, g, d, tk, os⟩) l1 xs := hl1
      have hL2 : Heap.IsList (Shared.heap ⟨hp.push { cls := .type "tuple_iterator", data := .fields #[.ref l1, .int 0 0] }, g, d, tk, os⟩) l2 ys := Heap.IsList.push hl2 _
      wp_walk using wpAny_pyIter_tuple hL1, wpAny_pyIter_list hL2
      exact ⟨_, rfl, h⟩
    · have hL1 : Heap.IsTuple (Shared.heap ⟨hp, g, d, tk, os⟩) l1 xs := hl1
      have hL2 : Heap.IsTuple (Shared.heap ⟨hp.push { cls := .type "tuple_iterator", data := .fields #[.ref l1, .int 0 0] }, g, d, tk, os⟩) l2 ys := Heap.IsTuple.push hl2 _
      wp_walk using wpAny_pyIter_tuple hL1, wpAny_pyIter_tuple hL2
      exact ⟨_, rfl, h⟩
end PyI

namespace PyI
open PySem PySem.Spec PyProof.Rows L2
theorem itObj_at {t : Bool} {h : Heap} {i l : Addr} (e : h.get? i = some (itObj t l)) : ItK t h i l 0 := by
  cases t
  · exact ⟨_, e, rfl, rfl⟩
  · exact ⟨_, e, rfl, rfl⟩
section
variable {prog : Program} {w : World} {A : Around} {E : Value → Shared → Prop} {s : Shared}
theorem zsH_facts {st t1 t2 : Bool} {l1 l2 : Addr} {h : Heap} : (zsH4 h t1 t2 l1 l2).objs.size = h.objs.size + 4 ∧ ZipS (zsH5 h st t1 t2 l1 l2) (h.objs.size + 4) (h.objs.size + 2) (h.objs.size + 3) .none st ∧ IsPair (zsH5 h st t1 t2 l1 l2) (h.objs.size + 2) (.ref h.objs.size) (.ref (h.objs.size + 1)) ∧
    IsPair (zsH5 h st t1 t2 l1 l2) (h.objs.size + 3) .none .none ∧ ItK t1 (zsH5 h st t1 t2 l1 l2) h.objs.size l1 0 ∧ ItK t2 (zsH5 h st t1 t2 l1 l2) (h.objs.size + 1) l2 0 ∧ ∀ c o, h.get? c = some o → (zsH5 h st t1 t2 l1 l2).get? c = some o := by
  have f1 : (itObj t1 l1).isFreed = false := by cases t1 <;> rfl
  have f2 : (itObj t2 l2).isFreed = false := by cases t2 <;> rfl
  have z1 : (zsH1 h t1 l1).objs.size = h.objs.size + 1 := Heap.size_push ..
  have z2 : (zsH2 h t1 t2 l1 l2).objs.size = h.objs.size + 2 := by unfold zsH2; rw [Heap.size_push, z1]
  have z3 : (zsH3 h t1 t2 l1 l2).objs.size = h.objs.size + 3 := by unfold zsH3; rw [Heap.size_push, z2]
  have z4 : (zsH4 h t1 t2 l1 l2).objs.size = h.objs.size + 4 := by unfold zsH4; rw [Heap.size_push, z3]
  have g5 : (zsH5 h st t1 t2 l1 l2).get? (zsH4 h t1 t2 l1 l2).objs.size = some _ := Heap.get?_push_size _ rfl
  have g4 : (zsH5 h st t1 t2 l1 l2).get? (zsH3 h t1 t2 l1 l2).objs.size = some _ := Heap.get?_push_of_some _ (Heap.get?_push_size _ rfl)
  have g3 : (zsH5 h st t1 t2 l1 l2).get? (zsH2 h t1 t2 l1 l2).objs.size = some _ := Heap.get?_push_of_some _ (Heap.get?_push_of_some _ (Heap.get?_push_size _ rfl))
  have g2 : (zsH5 h st t1 t2 l1 l2).get? (zsH1 h t1 l1).objs.size = some (itObj t2 l2) := Heap.get?_push_of_some _ (Heap.get?_push_of_some _ (Heap.get?_push_of_some _ (Heap.get?_push_size _ f2)))
  have g1 : (zsH5 h st t1 t2 l1 l2).get? h.objs.size = some (itObj t1 l1) := Heap.get?_push_of_some _ (Heap.get?_push_of_some _ (Heap.get?_push_of_some _ (Heap.get?_push_of_some _ (Heap.get?_push_size _ f1))))
  rw [z2, z3, z4] at g5
  rw [z1, z2] at g3
  rw [z3] at g4
  rw [z1] at g2
  exact ⟨z4, g5, g3, g4, itObj_at g1, itObj_at g2, fun c o x => Heap.get?_push_of_some _ (Heap.get?_push_of_some _ (Heap.get?_push_of_some _ (Heap.get?_push_of_some _ (Heap.get?_push_of_some _ x))))⟩
theorem call_zipS {t1 t2 : Bool} {l1 l2 : Addr} {xs ys : Array Value} {Q : Value → Shared → Prop} (hl1 : SqH t1 s.heap l1 xs) (hl2 : SqH t2 s.heap l2 ys)
    (h : Q (.ref (s.heap.objs.size + 4)) { s with heap := zsH5 s.heap false t1 t2 l1 l2 }) : wpAny (model prog w) A (call (.type "zip") [.ref l1, .ref l2]) Q E s := by
  refine callType_new F.called_zip (by decide) (F.typeCall_zip_2 _ _) (F.newCall_zip_2 _ _) (fun obj => F.args_object_init_3 obj _ _) F.entry_zip_new
    (meets_zipS_new t1 t2 l1 l2 xs ys) ⟨hl1, hl2, ?_⟩
  obtain ⟨z4, g5, _⟩ := zsH_facts (st := false) (t1 := t1) (t2 := t2) (l1 := l1) (l2 := l2) (h := s.heap)
  show _ ∧ _
  rw [z4]
  exact ⟨⟨_, g5, rfl⟩, h⟩
theorem typeCall_zip_kw (a b v : Value) : checkTypeCall "zip" ⟨[a, b], [("strict", v)]⟩ = pure () := by kernel_rfl
theorem newCall_zip_kw (a b v : Value) : checkBuiltinCall "zip.__new__" ⟨[.type "zip", a, b], [("strict", v)]⟩ = pure () := by kernel_rfl
theorem call_zipT {t1 t2 : Bool} {l1 l2 : Addr} {xs ys : Array Value} {Q : Value → Shared → Prop} (hl1 : SqH t1 s.heap l1 xs) (hl2 : SqH t2 s.heap l2 ys)
    (h : Q (.ref (s.heap.objs.size + 4)) { s with heap := zsH5 s.heap true t1 t2 l1 l2 }) : wpAny (model prog w) A (call (.type "zip") [.ref l1, .ref l2] [("strict", .bool true)]) Q E s := by
  refine callType_newKw F.called_zip (by decide) (typeCall_zip_kw _ _ _) (newCall_zip_kw _ _ _) (fun obj => ?_) F.entry_zip_new
    (meets_zipS_newT t1 t2 l1 l2 xs ys) ⟨hl1, hl2, ?_⟩
  · unfold argsOk; kernel_rfl
  obtain ⟨z4, g5, _⟩ := zsH_facts (st := true) (t1 := t1) (t2 := t2) (l1 := l1) (l2 := l2) (h := s.heap)
  show _ ∧ _
  rw [z4]
  exact ⟨⟨_, g5, rfl⟩, h⟩
end
end PyI

namespace PyI
open PySem PySem.Spec PyProof.Rows L2
section
variable {G : GE} {Γ : Glo} {cu : Option Cu} {Wi : WX} {X : Cx} {g g' g1 : Gh} {M M' M1 : Store} {H H' H1 : Hp} {σ : L2.St} {l : LM} {N : List Str} {sc : Scope} {calm : Bool} {a b c : Expr} {sa sb s_c : Sm} {pos : Pos} {k : Nat}
/-! ### e.f -/
def tAtt (K : PySem.W.Frag) (ta : TE) (f : Str) : TE := fun σ H Q => ta σ H fun x H1 =>
  (∃ a C dx fs v, x = .ref a ∧ H1 a = some (.ins C dx fs) ∧ Cls K C ∧ NoAttr K C f ∧ fs.lookup f = some v ∧ Q v H1) ∨
  (∃ a C dx fs v u, x = .ref a ∧ H1 a = some (.ins C dx fs) ∧ Cls K C ∧ L2.Con K C f v u ∧ fs.lookup f = none ∧ Q v H1) ∨
  (∃ C mc v u, x = .ref C ∧ ClX.CRead K C mc ∧ ClX.CVal K C mc f v u ∧ Q v H1)
theorem pe_att {e : Expr} {ta : TE} {f : Str} (he : PE X e ta) (hb : attributeBase e f X.env (eval e X.env) = eval e X.env) : PE X (.Attribute e f pos) (tAtt X.K ta f) := by
  refine ⟨fun pins s σ H Q I h => ?_⟩
  refine attr_of hb (thn (he.run pins s σ H _ I h) fun u s1 ⟨x, H1, I1, rx, h1⟩ => ?_)
  rcases h1 with ⟨a, C, dx, fs, v, ex, ea, c, n, l, q⟩ | ⟨a, C, dx, fs, v, u0, ex, ea, c, k, l, q⟩ | ⟨C, mc, v, u0, ex, r, k, q⟩
  · subst ex
    obtain rfl : u = Value.ref a := rx
    exact getattr_ok I1 ea c n l fun u' s2 I2 ru => ⟨v, H1, I2, ru, q⟩
  · subst ex
    obtain rfl : u = Value.ref a := rx
    exact getcon_ok I1 ea c k l fun s2 I2 => ⟨v, H1, I2, k.rel, q⟩
  · subst ex
    obtain rfl : u = Value.ref C := rx
    exact ClX.getcval_ok I1 r k fun s2 I2 => ⟨v, H1, I2, k.rel, q⟩
theorem lookup_fs {f : Str} : ∀ {fs : List (Str × V)} {ns : List Str} {ws : List W}, fs.map (·.1) = ns → RWs G g M H ws (fs.map (·.2)) → (match (ns.zip ws).lookup f with
    | some r => ∃ v, fs.lookup f = some v ∧ RW G g M H r v
    | none => fs.lookup f = none)
  | [], ns, ws, h, r => by subst h; rfl
  | (x, v) :: fs, ns, ws, h, r => by
    subst h
    cases ws with
    | nil => cases (show _ :: _ = ([] : List V) from r)
    | cons w ws =>
      obtain ⟨v', r', e, h1, h2⟩ := r
      cases e
      simp only [List.map_cons, List.zip_cons_cons, List.lookup_cons]
      by_cases hx : (f == x) = true
      · rw [hx]
        exact ⟨v, rfl, h1⟩
      · rw [Bool.not_eq_true] at hx
        rw [hx]
        exact lookup_fs (f := f) rfl h2
theorem px_att {f : Str} (hK : X.K = G.K) (T : Tops G Γ X.prog X.w X.mg X.base k) (hb : baseB a = true) (ha : PX G cu Wi X a sa) : PX G cu Wi X (.Attribute a f pos) (.of fun l M => (sa.v l M).bind fun w M1 => match w with
    | .cls c => need (Γ.att c f) fun r => .ok r M1
    | w => need (vO M1 w) fun q => match (q.2.1.zip q.2.2).lookup f with
      | some r => if Γ.fld q.1 f then .ok r M1 else .err
      | none => need (Γ.att q.1 f) fun r => .ok r M1) := by
  refine PX.of hK ((pe_att ha.pe (base_of hb)).imp fun σ H Q q => ?_) (fun _ => rfl) rfl
  refine (TOf.bind (fa := sa.v) (f := fun _ w M1 => match w with
    | .cls c => need (Γ.att c f) fun r => .ok r M1
    | w => need (vO M1 w) fun q => match (q.2.1.zip q.2.2).lookup f with
      | some r => if Γ.fld q.1 f then .ok r M1 else .err
      | none => need (Γ.att q.1 f) fun r => .ok r M1) (rel1 := RW G) q).imp fun v H1 ⟨g1, M1, l, w, a1, r1, p⟩ => ?_
  rw [hK]
  have gen : ∀ {w : W}, RW G g1 M1 H1 w v → Post G Wi (RW G) g1 M1 H1 σ (need (vO M1 w) fun q => match (q.2.1.zip q.2.2).lookup f with
      | some r => if Γ.fld q.1 f then .ok r M1 else .err
      | none => need (Γ.att q.1 f) fun r => .ok r M1) Q →
    (∃ a C dx fs v', v = .ref a ∧ H1 a = some (.ins C dx fs) ∧ Cls G.K C ∧ NoAttr G.K C f ∧ fs.lookup f = some v' ∧ Q v' H1) ∨
    (∃ a C dx fs v' u, v = .ref a ∧ H1 a = some (.ins C dx fs) ∧ Cls G.K C ∧ L2.Con G.K C f v' u ∧ fs.lookup f = none ∧ Q v' H1) ∨
    (∃ C mc v' u, v = .ref C ∧ ClX.CRead G.K C mc ∧ ClX.CVal G.K C mc f v' u ∧ Q v' H1) := by
    intro w rw1 p
    obtain ⟨⟨c, ns, ws⟩, ho, p⟩ := Post.need p
    obtain ⟨pa, C, dx, fs, e, hC, hI, hns, hws⟩ := vO_ok a1.abs ho rw1
    have hl := lookup_fs (f := f) hns hws
    dsimp only at p
    cases hlk : (ns.zip ws).lookup f with
    | some r =>
      rw [hlk] at hl p
      obtain ⟨v', h1, h2⟩ := hl
      dsimp only at p
      split at p
      · rename_i hf
        obtain ⟨C', k1, k2, k3⟩ := T.fld c f hf
        rw [hC] at k1; cases k1
        exact .inl ⟨pa, C, dx, fs, v', e, hI, k2, k3, h1, p.now a1.abs h2⟩
      · exact p.no.elim
    | none =>
      rw [hlk] at hl p
      obtain ⟨r, hr, p⟩ := Post.need p
      obtain ⟨C', v', u, k1, k2, k3, _, k4⟩ := T.att c f r hr
      rw [hC] at k1; cases k1
      exact .inr (.inl ⟨pa, C, dx, fs, v', u, e, hI, k2, k3, hl, p.now a1.abs (k4 _ _ _)⟩)
  cases w with
  | cls c =>
    obtain ⟨r, hr, p⟩ := Post.need p
    obtain ⟨C, hC, e⟩ := r1
    obtain ⟨C', v', u, k1, k2, k3, ⟨mc, k5, k6⟩, k4⟩ := T.att c f r hr
    rw [hC] at k1; cases k1
    exact .inr (.inr ⟨C, mc, v', u, e, k5, k6, p.now a1.abs (k4 _ _ _)⟩)
  | _ => exact gen r1 p
/-! ### a class made -/
theorem run_makeG {f C : Addr} {fi : FnI} {pins : List (Addr × Obj)} {s : Shared} {Q : VK} {us ws : List Value} {vs zs : List V} {ks : List Str} (hK : X.K = G.K) (K : Mk G.K C f) (F : FnP G X.prog X.w X.mg X.base k f fi) (hr : RoomG (k + 1) X.A) (tk : Takes X Wi) (I : Inv X pins σ H s)
    (hf : fitB fi (us.length + ws.length + 1) ks = true) (hl : ws.length = ks.length) (r1 : Vals vs us) (r2 : Vals zs ws)
    (h : ∀ x dx, H x = none → H dx = none → dx ≠ x → spOf G fi.ps.length fi.sem (.ref x :: bindW (fi.ps.drop 1) ks (vs ++ zs)) (upd (upd H dx (.own x)) x (.ins C dx [])) (fun v H2 => v = .non ∧ Q (.ref x) H2) (fun c d H' => Wi c d σ H')) :
    wpAny (model X.prog X.w) X.A (call (.ref C) us (ks.zip ws)) (EP X pins σ Q) X.xe s := by
  obtain ⟨fd, F1, F2⟩ := F.ex
  simp only [fitB, Bool.and_eq_true, decide_eq_true_eq] at hf
  obtain ⟨⟨h1, h2⟩, h3⟩ := hf
  have hq := h (s.heap.objs.size + 1) s.heap.objs.size (I.hok.fresh (Nat.le_succ _)) (I.hok.fresh (Nat.le_refl _)) (Nat.ne_of_lt (Nat.lt_succ_self _))
  have I2 := Inv.made (C := C) I
  have e0 : us.length + ws.length + 1 - ks.length = us.length + 1 := by omega
  rw [e0] at h3
  have kle : ks.length ≤ (vs ++ zs).length := by rw [List.length_append, r2.length, hl]; omega
  have rv : Vals (bindW fi.ps ks (V.ref (s.heap.objs.size + 1) :: (vs ++ zs))) (bindW fi.ps ks ((Value.ref (s.heap.objs.size + 1) :: us) ++ ws)) := bindW_vals (.cons rfl (r1.append r2))
  rw [bindW_cons kle] at rv
  have hlen : (V.ref (s.heap.objs.size + 1) :: bindW (fi.ps.drop 1) ks (vs ++ zs)).length = fi.ps.length := by
    rw [← bindW_cons kle]
    have e1 : (V.ref (s.heap.objs.size + 1) :: (vs ++ zs)).length = us.length + ws.length + 1 := by rw [List.length_cons, List.length_append, r1.length, r2.length]
    refine bindW_len (np := fi.np) ?_ (by rw [e1]; omega) (by rw [e1]; exact h2)
    rw [e1, e0]; exact h3
  have F1' : FnG X.prog X.w X.K X.mg X.base k f fd fi.ps (spOf G fi.ps.length fi.sem) := by rw [hK]; exact F1
  have K' : Mk X.K C f := by rw [hK]; exact K
  refine wpAny_call (make_map (f := f) I.kIn K'.makes K'.init (beq_iff_eq.mp K'.fn) (codeAny_mono (F1'.run _ X.stack _ _ ⟨Value.ref (s.heap.objs.size + 1) :: us, ks.zip ws⟩ (bindW fi.ps ks ((Value.ref (s.heap.objs.size + 1) :: us) ++ ws)) _ _ _ (hr.make C us (ks.zip ws))
    (I2.env0.make C us (ks.zip ws)) hlen (F2 _ (Value.ref (s.heap.objs.size + 1) :: us) ws ks h3 hl.symm (by simp; omega)) rv hq) fun r s' hq' => ?_))
  cases r with
  | error e => exact tk _ _ (XE.of_call I2 (fun _ _ _ q => q) hq')
  | ok fl =>
    cases fl with
    | ret u =>
      obtain ⟨v, H', I3, rv, ev, q3⟩ := I2.after hq'
      subst ev
      exact ⟨rv, ⟨V.ref (s.heap.objs.size + 1), H', I3, rfl, q3⟩⟩
    | next => exact False.elim hq'
    | brk => exact False.elim hq'
    | cont => exact False.elim hq'
end
end PyI

namespace PyI
open PySem PySem.Spec PyProof.Rows L2
/-! ### list(zip(xs, ys)) of two lists -/
theorem zip_no_len : typeLookup (.type "zip") "__len__" = pure none := by rw [typeLookup_type, builtinLookup_eq_fast]; kernel_rfl
theorem zip_no_hint : typeLookup (.type "zip") "__length_hint__" = pure none := by rw [typeLookup_type, builtinLookup_eq_fast]; kernel_rfl
/-- a zip of two lists ahead of its i-th item -/
def ZSt (z TI TO i1 i2 l1 l2 : Addr) (i : Nat) (h : Heap) : Prop :=
  IsPair h TI (.ref i1) (.ref i2) ∧ h.IsListIter i1 l1 i ∧ h.IsListIter i2 l2 i ∧ ((IsZip h z TI TO .none ∧ ∃ a b, IsPair h TO a b) ∨ ∃ T f oT, IsZipHeld h z TI TO T f ∧ h.get? T = some oT)
/-- the pairs laid so far -/
def Prd (b : Nat) (xs ys acc : Array Value) (i : Nat) (h : Heap) : Prop := acc.size = i ∧ ∀ (j : Nat) (v : Value), acc[j]? = some v → ∃ (T : Addr) (x y : Value), v = Value.ref T ∧ b ≤ T ∧ xs[j]? = some x ∧ ys[j]? = some y ∧ IsPair h T x y
theorem ZSt.at {z TI TO i1 i2 l1 l2 : Addr} {i : Nat} {h h' : Heap} (st : ZSt z TI TO i1 i2 l1 l2 i h) (k : ∀ b o, h.get? b = some o → b ∉ ([] : List Addr) → h'.get? b = some o) : ZSt z TI TO i1 i2 l1 l2 i h' := by
  have k' : ∀ b o, h.get? b = some o → h'.get? b = some o := fun b o e => k b o e (by simp)
  obtain ⟨h1, h2, h3, h4⟩ := st
  refine ⟨k' _ _ h1, h2.at fun o e => k' _ o e, h3.at fun o e => k' _ o e, ?_⟩
  rcases h4 with ⟨h4, a, b, h5⟩ | ⟨T, f, oT, h4, h5⟩
  · exact .inl ⟨k' _ _ h4, a, b, k' _ _ h5⟩
  · exact .inr ⟨T, f, oT, k' _ _ h4, k' _ _ h5⟩
section
variable {prog : Program} {w : World} {A : Around} {R : Result → Shared → Prop} {z TI TO i1 i2 l1 l2 S : Addr} {xs ys : Array Value}
theorem zip_draw {s : Shared} {i : Nat} {Q : Option Value → Shared → Prop} {E : Value → Shared → Prop} (D : ZipApart z TI TO i1 i2 l1 l2) (st : ZSt z TI TO i1 i2 l1 l2 i s.heap) (h1 : s.heap.IsList l1 xs) (h2 : s.heap.IsList l2 ys) {x y : Value} (hx : xs[i]? = some x) (hy : ys[i]? = some y)
    (hQ : ∀ h', ZSt z TI TO i1 i2 l1 l2 (i + 1) h' → IsPair h' s.heap.objs.size x y → h'.objs.size = s.heap.objs.size + 1 → (∀ c o, c ≠ z → c ≠ TO → c ≠ i1 → c ≠ i2 → s.heap.get? c = some o → h'.get? c = some o) → Q (some (.ref s.heap.objs.size)) { s with heap := h' }) :
    wpAny (model prog w) A (pyNext (.ref z)) Q E s := by
  obtain ⟨a1, a2, a3, a4⟩ := st
  rcases a4 with ⟨a4, a, b, a5⟩ | ⟨T, f, oT, a4, a5⟩
  · refine wpAny_pyNext_zip_item D a4 a1 a5 a2 a3 h1 h2 hx hy fun h' z' TO' h1' h2' hT hsz hk => hQ h' ⟨?_, h1', h2', .inr ⟨_, false, _, z', hT⟩⟩ hT hsz hk
    exact hk _ _ D.TIz D.TITO D.TIi1 D.TIi2 a1
  · refine wpAny_pyNext_zip_item_held D a4 a5 a1 a2 a3 h1 h2 hx hy fun h' z' h1' h2' hT hsz hk => ?_
    have hk' : ∀ c o, c ≠ z → c ≠ TO → c ≠ i1 → c ≠ i2 → s.heap.get? c = some o → h'.get? c = some o := fun c o q1 _ q3 q4 e => hk c o q1 q3 q4 e
    have hT2 : ∃ o, h'.get? T = some o := by
      by_cases e1 : T = z
      · exact ⟨_, by rw [e1]; exact z'⟩
      by_cases e2 : T = i1
      · obtain ⟨o, ho, _⟩ := h1'; exact ⟨o, by rw [e2]; exact ho⟩
      by_cases e3 : T = i2
      · obtain ⟨o, ho, _⟩ := h2'; exact ⟨o, by rw [e3]; exact ho⟩
      exact ⟨_, hk _ _ e1 e2 e3 a5⟩
    obtain ⟨o, ho⟩ := hT2
    exact hQ h' ⟨hk _ _ D.TIz D.TIi1 D.TIi2 a1, h1', h2', .inr ⟨T, true, o, z', ho⟩⟩ hT hsz hk'
theorem zip_drawn {s : Shared} {i : Nat} {Q : Option Value → Shared → Prop} {E : Value → Shared → Prop} (hh : A.handled = none) (D : ZipApart z TI TO i1 i2 l1 l2) (st : ZSt z TI TO i1 i2 l1 l2 i s.heap) (h1 : s.heap.IsList l1 xs) (h2 : s.heap.IsList l2 ys) (he : xs[i]? = none ∨ ys[i]? = none)
    (hQ : ∀ h', (∀ c o, c ≠ z → c ≠ TO → c ≠ i1 → c ≠ i2 → s.heap.get? c = some o → h'.get? c = some o) → Q none { s with heap := h' }) :
    wpAny (model prog w) A (pyNext (.ref z)) Q E s := by
  obtain ⟨a1, a2, a3, a4⟩ := st
  rcases a4 with ⟨a4, a, b, a5⟩ | ⟨T, f, oT, a4, a5⟩
  · exact wpAny_pyNext_zip_end hh D a4 a1 a5 a2 a3 h1 h2 he hQ
  · exact wpAny_pyNext_zip_end_held hh D a4 a5 a1 a2 a3 h1 h2 he fun h' hk => hQ h' fun c o q1 _ q3 q4 e => hk c o q1 q3 q4 e
theorem zip_loop (hh : A.handled = none) (D : ZipApart z TI TO i1 i2 l1 l2) (hS : ∀ b ∈ [z, TI, TO, i1, i2, l1, l2], S ≠ b) {b0 : Nat} (hb : ∀ b ∈ [z, TI, TO, i1, i2, S], b < b0) (res : Value) (hn : min xs.size ys.size ≤ sizeLine) :
    ∀ (k i : Nat) (s : Shared) (acc : Array Value) (c : Nat), min xs.size ys.size - i = k → i ≤ min xs.size ys.size → b0 ≤ s.heap.objs.size → ZSt z TI TO i1 i2 l1 l2 i s.heap → s.heap.IsList l1 xs → s.heap.IsList l2 ys →
    s.heap.get? S = some { cls := .type "list", dict := none, data := .seq acc c, slots := #[] } → Prd b0 xs ys acc i s.heap →
    (∀ h' acc' c', (∀ b o, b ∉ [S, z, TO, i1, i2] → s.heap.get? b = some o → h'.get? b = some o) → h'.get? S = some { cls := .type "list", dict := none, data := .seq acc' c', slots := #[] } → Prd b0 xs ys acc' (min xs.size ys.size) h' → R (.ok (.ret res)) { s with heap := h' }) →
    codeAny (model prog w) A (.builtin "list.extend.loop" ⟨[.ref S, .ref z, res], []⟩) R s := by
  have sz : S ≠ z := hS _ (by simp)
  have sTI : S ≠ TI := hS _ (by simp)
  have sTO : S ≠ TO := hS _ (by simp)
  have s1 : S ≠ i1 := hS _ (by simp)
  have s2 : S ≠ i2 := hS _ (by simp)
  have sl1 : S ≠ l1 := hS _ (by simp)
  have sl2 : S ≠ l2 := hS _ (by simp)
  intro k
  induction k with
  | zero =>
    intro i s acc c hk hi hb0 st h1 h2 hSa hp hR
    have hin : i = min xs.size ys.size := by omega
    refine codeAny_builtin F.entry_extend_loop ?_
    rw [Around.under_plainId F.plain_extend_loop _]
    show wpAny _ A.in1 (pyNext (.ref z) >>= _) _ _ s
    refine wpAny_bind (zip_drawn hh D st h1 h2 (by
      by_cases q : xs.size ≤ ys.size
      · left; rw [Array.getElem?_eq_none]; omega
      · right; rw [Array.getElem?_eq_none]; omega) fun h' hk' => wpAny_pure (hR h' acc c (fun b o hm e => ?_) (hk' _ _ sz sTO s1 s2 hSa) ?_))
    · simp at hm
      exact hk' b o hm.2.1 hm.2.2.1 hm.2.2.2.1 hm.2.2.2.2 e
    · refine ⟨by rw [hp.1, hin], fun j v hj => ?_⟩
      obtain ⟨T, x, y, e1, e2, e3, e4, e5⟩ := hp.2 j v hj
      have ne : ∀ b ∈ [z, TI, TO, i1, i2, S], T ≠ b := fun b hm e => absurd (hb b hm) (Nat.not_lt.mpr (e ▸ e2))
      exact ⟨T, x, y, e1, e2, e3, e4, hk' _ _ (ne _ (by simp)) (ne _ (by simp)) (ne _ (by simp)) (ne _ (by simp)) e5⟩
  | succ k ih =>
    intro i s acc c hk hi hb0 st h1 h2 hSa hp hR
    have hlt : i < min xs.size ys.size := by omega
    have hx : xs[i]? = some xs[i] := Array.getElem?_eq_getElem (by omega)
    have hy : ys[i]? = some ys[i] := Array.getElem?_eq_getElem (by omega)
    refine codeAny_builtin F.entry_extend_loop ?_
    rw [Around.under_plainId F.plain_extend_loop _]
    show wpAny _ A.in1 (pyNext (.ref z) >>= _) _ _ s
    refine wpAny_bind (zip_draw D st h1 h2 hx hy fun h' st' hT hsz hk' => ?_)
    have hS' := hk' _ _ sz sTO s1 s2 hSa
    show wpAny _ A.in1 (updateSeq S (·.push (.ref s.heap.objs.size)) >>= _) _ _ _
    refine wpAny_bind ?_
    have oth : ∀ b o, b ≠ S → h'.get? b = some o → (h'.update S (Obj.mapSeq (·.push (.ref s.heap.objs.size)))).get? b = some o := fun b o hne e => (Heap.get?_update_other _ _ (Ne.symm hne)).trans e
    have l1z := D.l1z
    have hl1 : h'.IsList l1 xs := by
      obtain ⟨o, ho, r⟩ := h1
      exact ⟨o, hk' _ _ D.l1z D.l1TO D.l1i1 D.l1i2 ho, r⟩
    have hl2 : h'.IsList l2 ys := by
      obtain ⟨o, ho, r⟩ := h2
      exact ⟨o, hk' _ _ D.l2z D.l2TO D.l2i1 D.l2i2 ho, r⟩
    refine wpAny_updateSeq hS' rfl (wpAny_pure ⟨plainId_quiet F.plain_extend_loop _, ih (i + 1) _ (acc.push (.ref s.heap.objs.size)) _ (by omega) hlt ?_ ?_ ?_ ?_ (Heap.get?_update_self _ hS' rfl) ?_ fun h'' acc' c' hk2 hS2 hp2 => ?_⟩)
      (by rw [hp.1]; omega) (by show (acc.push _).size ≤ sizeLine + 1; rw [Array.size_push, hp.1]; omega)
    · show b0 ≤ (h'.update S _).objs.size
      have : (h'.update S (Obj.mapSeq (·.push (.ref s.heap.objs.size)))).objs.size = h'.objs.size := (Heap.SameBut.update ..).1
      rw [this]; omega
    · obtain ⟨a1, a2, a3, a4⟩ := st'
      refine ⟨oth _ _ (Ne.symm sTI) a1, a2.at fun o e => oth _ o (Ne.symm s1) e, a3.at fun o e => oth _ o (Ne.symm s2) e, ?_⟩
      rcases a4 with ⟨a4, a, b, a5⟩ | ⟨T, f, oT, a4, a5⟩
      · exact .inl ⟨oth _ _ (Ne.symm sz) a4, a, b, oth _ _ (Ne.symm sTO) a5⟩
      · refine .inr ⟨T, f, ?_⟩
        by_cases e : T = S
        · subst e; exact ⟨_, oth _ _ (Ne.symm sz) a4, Heap.get?_update_self _ hS' rfl⟩
        · exact ⟨oT, oth _ _ (Ne.symm sz) a4, oth _ _ e a5⟩
    · obtain ⟨o, ho, r⟩ := hl1
      exact ⟨o, oth _ _ (Ne.symm sl1) ho, r⟩
    · obtain ⟨o, ho, r⟩ := hl2
      exact ⟨o, oth _ _ (Ne.symm sl2) ho, r⟩
    · refine ⟨by rw [Array.size_push, hp.1], fun j v hj => ?_⟩
      rw [Array.getElem?_push] at hj
      split at hj
      · rename_i e
        cases hj
        rw [hp.1] at e
        subst e
        refine ⟨_, _, _, rfl, hb0, hx, hy, oth _ _ (fun e => absurd (hb S (by simp)) (Nat.not_lt.mpr (e ▸ hb0))) hT⟩
      · obtain ⟨T, x, y, e1, e2, e3, e4, e5⟩ := hp.2 j v hj
        have ne : ∀ b ∈ [z, TI, TO, i1, i2, S], T ≠ b := fun b hm e => absurd (hb b hm) (Nat.not_lt.mpr (e ▸ e2))
        exact ⟨T, x, y, e1, e2, e3, e4, oth _ _ (ne _ (by simp)) (hk' _ _ (ne _ (by simp)) (ne _ (by simp)) (ne _ (by simp)) (ne _ (by simp)) e5)⟩
    · refine hR h'' acc' c' (fun b o hm e => ?_) hS2 hp2
      have hm2 := hm
      simp at hm2
      exact hk2 b o hm (oth _ _ hm2.1 (hk' b o hm2.2.1 hm2.2.2.1 hm2.2.2.2.1 hm2.2.2.2.2 e))

theorem zip_extend {s : Shared} (hh : A.handled = none) (D : ZipApart z TI TO i1 i2 l1 l2) (hS : ∀ b ∈ [z, TI, TO, i1, i2, l1, l2], S ≠ b) (hb : ∀ b ∈ [z, TI, TO, i1, i2, S], b < s.heap.objs.size) (res : Value) (hn : min xs.size ys.size ≤ sizeLine)
    (st : ZSt z TI TO i1 i2 l1 l2 0 s.heap) (hz : IsZip s.heap z TI TO .none) (h1 : s.heap.IsList l1 xs) (h2 : s.heap.IsList l2 ys) (c₀ : Nat) (hSa : s.heap.get? S = some { cls := .type "list", data := .seq #[] c₀ })
    (hR : ∀ h' acc' c', (∀ b o, b ∉ [S, z, TO, i1, i2] → s.heap.get? b = some o → h'.get? b = some o) → h'.get? S = some { cls := .type "list", dict := none, data := .seq acc' c', slots := #[] } → Prd s.heap.objs.size xs ys acc' (min xs.size ys.size) h' → R (.ok (.ret res)) { s with heap := h' }) :
    wpAny (model prog w) A.in1 (Builtin.List.listExtendWith (.ref S) (.ref z) res)
      (fun fin s' => match fin with | .done f => R (.ok f) s' | .again c' => c'.quiet = true ∧ codeAny (model prog w) A c' R s') (fun e s' => R (.error e) s') s := by
  have sz : S ≠ z := hS _ (by simp)
  have hT : s.TypeIs (.ref z) "zip" := ⟨_, hz, rfl⟩
  unfold Builtin.List.listExtendWith
  refine wpAny_bind (wpAny_typeOf (T := "zip") hT ?_)
  have h1' : Builtin.List.listSameRef (.ref S) (.ref z) = false := by simp [Builtin.List.listSameRef, sz]
  have h2' : (Value.type "zip" == Value.type "list") = false := by decide
  have h3' : (Value.type "zip" == Value.type "tuple") = false := by decide
  simp only [h1', h2', h3', Bool.or_false, Bool.false_eq_true, if_false]
  refine wpAny_bind (wpAny_pyIter_zip hz ?_)
  refine wpAny_bind (wpAny_holding ?_)
  unfold Builtin.List.listLengthHint
  refine wpAny_bind (wpAny_specialOf hT zip_no_len ?_)
  show wpAny _ A.in1 (specialOf (Value.ref z) (Str.ofString "__length_hint__") >>= _) _ _ _
  refine wpAny_bind (wpAny_specialOf hT zip_no_hint ?_)
  refine wpAny_pure ?_
  show wpAny _ A.in1 (rule "list.extend.makes-room" >>= fun _ => Builtin.List.listTouch (.ref S) >>= fun _ => again (.builtin "list.extend.loop" ⟨[.ref S, .ref z, res], []⟩)) _ _ _
  refine wpAny_bind (wpAny_rule ?_)
  refine wpAny_bind ?_
  show wpAny _ A.in1 (updateSeq S (·.push .none) >>= fun _ => updateSeq S (·.pop)) _ _ _
  refine wpAny_bind (wpAny_updateSeq hSa rfl ?_)
  have hS₂ := Heap.get?_update_self (Obj.mapSeq (·.push Value.none)) hSa rfl
  refine wpAny_updateSeq (hz := by seq_fits) hS₂ rfl ?_
  have hS₃ := Heap.get?_update_self (Obj.mapSeq (·.pop)) hS₂ rfl
  have oth : ∀ b o, b ≠ S → s.heap.get? b = some o → ((s.heap.update S (Obj.mapSeq (·.push Value.none))).update S (Obj.mapSeq (·.pop))).get? b = some o := fun b o hne e =>
    (Heap.get?_update_other _ _ (Ne.symm hne)).trans ((Heap.get?_update_other _ _ (Ne.symm hne)).trans e)
  have hsz : ((s.heap.update S (Obj.mapSeq (·.push Value.none))).update S (Obj.mapSeq (·.pop))).objs.size = s.heap.objs.size := by
    have e1 : (s.heap.update S (Obj.mapSeq (·.push Value.none))).objs.size = s.heap.objs.size := (Heap.SameBut.update ..).1
    have e2 : ((s.heap.update S (Obj.mapSeq (·.push Value.none))).update S (Obj.mapSeq (·.pop))).objs.size = (s.heap.update S (Obj.mapSeq (·.push Value.none))).objs.size := (Heap.SameBut.update ..).1
    rw [e2, e1]
  refine wpAny_pure ⟨plainId_quiet F.plain_extend_loop _, zip_loop hh D hS hb res hn _ 0 _ #[] _ rfl (Nat.zero_le _) (Nat.le_of_eq hsz.symm) ?_ ?_ ?_ hS₃ ⟨rfl, fun j v hj => by simp at hj⟩ fun h' acc' c' hk hS' hp => ?_⟩
  · obtain ⟨a1, a2, a3, a4⟩ := st
    have ne : ∀ b ∈ [z, TI, TO, i1, i2, l1, l2], b ≠ S := fun b hm => Ne.symm (hS b hm)
    refine ⟨oth _ _ (ne _ (by simp)) a1, a2.at fun o e => oth _ o (ne _ (by simp)) e, a3.at fun o e => oth _ o (ne _ (by simp)) e, ?_⟩
    rcases a4 with ⟨a4, a, b, a5⟩ | ⟨T, f, oT, a4, a5⟩
    · exact .inl ⟨oth _ _ (ne _ (by simp)) a4, a, b, oth _ _ (ne _ (by simp)) a5⟩
    · have q := hz.symm.trans a4; simp [rawInt] at q
  · obtain ⟨o, ho, r⟩ := h1
    exact ⟨o, oth _ _ (Ne.symm (hS _ (by simp))) ho, r⟩
  · obtain ⟨o, ho, r⟩ := h2
    exact ⟨o, oth _ _ (Ne.symm (hS _ (by simp))) ho, r⟩
  · refine hR h' acc' c' (fun b o hm e => hk b o hm (oth b o (fun q => hm (by simp [q])) e)) hS' hp
theorem call_list_zip {s : Shared} {E : Value → Shared → Prop} {Q : Value → Shared → Prop} (hh : A.handled = none) (D : ZipApart z TI TO i1 i2 l1 l2) (hb : ∀ b ∈ [z, TI, TO, i1, i2, l1, l2], b < s.heap.objs.size) (hn : min xs.size ys.size ≤ sizeLine)
    (st : ZSt z TI TO i1 i2 l1 l2 0 s.heap) (hz : IsZip s.heap z TI TO .none) (h1 : s.heap.IsList l1 xs) (h2 : s.heap.IsList l2 ys)
    (hQ : ∀ h' acc' c', (∀ b o, b ∉ [z, TO, i1, i2] → s.heap.get? b = some o → h'.get? b = some o) → h'.get? s.heap.objs.size = some { cls := .type "list", dict := none, data := .seq acc' c', slots := #[] } → Prd (s.heap.objs.size + 1) xs ys acc' (min xs.size ys.size) h' → Q (.ref s.heap.objs.size) { s with heap := h' }) :
    wpAny (model prog w) A (call (.type "list") [.ref z]) Q E s := by
  refine callType_codes (Q₁ := fun obj s₁ => obj = .ref s.heap.objs.size ∧ s₁ = { s with heap := s.heap.push { cls := .type "list", data := .seq #[] } }) F.called_list (F.typeCall_list_1 _) F.entry_list_init
    (code_list_new _ ⟨rfl, rfl⟩) fun obj s₁ h₁ => ?_
  obtain ⟨rfl, rfl⟩ := h₁
  have hS : (s.heap.push { cls := .type "list", data := .seq #[] }).get? s.heap.objs.size = some { cls := .type "list", data := .seq #[] } := Heap.get?_push_size _ rfl
  refine ⟨⟨_, hS, rfl⟩, F.args_list_init_2 _ _, ?_⟩
  generalize hSS : s.heap.objs.size = S at hS ⊢
  have hSne : ∀ b ∈ [z, TI, TO, i1, i2, l1, l2], S ≠ b := fun b hm e => by
    have := hb b hm
    rw [← e, ← hSS] at this
    exact Nat.lt_irrefl _ this
  have sz : S ≠ z := hSne _ (by simp)
  have up : ∀ b o, s.heap.get? b = some o → (s.heap.push { cls := .type "list", data := .seq #[] }).get? b = some o := fun b o e => Heap.get?_push_of_some _ e
  show wpAny _ _ (do let old ← Builtin.List.listItems (.ref S); Builtin.List.listUpdate (.ref S) (fun _ => #[]); letGo old.toList.reverse; Builtin.List.listExtendWith (.ref S) (.ref z) .none) _ _ _
  refine wpAny_bind ?_
  unfold Builtin.List.listItems
  refine wpAny_bind (wpAny_seqItems hS rfl (wpAny_pure ?_))
  show wpAny _ _ (updateSeq S (fun _ => #[]) >>= fun _ => letGo (#[] : Array Value).toList.reverse >>= fun _ => Builtin.List.listExtendWith (.ref S) (.ref z) .none) _ _ _
  refine wpAny_bind (wpAny_updateSeq hS rfl ?_)
  have hS₂ := Heap.get?_update_self (Obj.mapSeq (fun _ => (#[] : Array Value))) hS rfl
  have oth : ∀ b o, b ≠ S → s.heap.get? b = some o → ((s.heap.push { cls := .type "list", data := .seq #[] }).update S (Obj.mapSeq (fun _ => (#[] : Array Value)))).get? b = some o :=
    fun b o hb e => (Heap.get?_update_other _ _ (Ne.symm hb)).trans (up b o e)
  have hsz : ((s.heap.push { cls := .type "list", data := .seq #[] }).update S (Obj.mapSeq (fun _ => (#[] : Array Value)))).objs.size = S + 1 := by
    have e1 : ((s.heap.push { cls := .type "list", data := .seq #[] }).update S (Obj.mapSeq (fun _ => (#[] : Array Value)))).objs.size = (s.heap.push { cls := .type "list", data := .seq #[] }).objs.size := (Heap.SameBut.update ..).1
    rw [e1, Heap.size_push, hSS]
  have ne : ∀ b ∈ [z, TI, TO, i1, i2, l1, l2], b ≠ S := fun b hm => Ne.symm (hSne b hm)
  refine wpAny_bind (wpAny_letGo ?_)
  refine zip_extend (A := A.in1) (R := wants (fun r s₂ => r = Value.none ∧ Q (Value.ref S) s₂) E) (s := { s with heap := (s.heap.push { cls := .type "list", data := .seq #[] }).update S (Obj.mapSeq (fun _ => (#[] : Array Value))) }) (show A.in1.handled = none from hh) D hSne (fun b hm => ?_) .none hn ?_ (oth _ _ (ne _ (by simp)) hz) ?_ ?_ 0 hS₂ fun h' acc' c' hk hS' hp => ?_
  · show b < ((s.heap.push _).update S _).objs.size
    rw [hsz]
    simp only [List.mem_cons, List.not_mem_nil, or_false] at hm
    rcases hm with e | e | e | e | e | e
    · have := hb b (by simp [e]); rw [hSS] at this; exact Nat.lt_succ_of_lt this
    · have := hb b (by simp [e]); rw [hSS] at this; exact Nat.lt_succ_of_lt this
    · have := hb b (by simp [e]); rw [hSS] at this; exact Nat.lt_succ_of_lt this
    · have := hb b (by simp [e]); rw [hSS] at this; exact Nat.lt_succ_of_lt this
    · have := hb b (by simp [e]); rw [hSS] at this; exact Nat.lt_succ_of_lt this
    · rw [e]; exact Nat.lt_succ_self _
  · obtain ⟨a1, a2, a3, a4⟩ := st
    refine ⟨oth _ _ (ne _ (by simp)) a1, a2.at fun o e => oth _ o (ne _ (by simp)) e, a3.at fun o e => oth _ o (ne _ (by simp)) e, ?_⟩
    rcases a4 with ⟨a4, a, b, a5⟩ | ⟨T, f, oT, a4, a5⟩
    · exact .inl ⟨oth _ _ (ne _ (by simp)) a4, a, b, oth _ _ (ne _ (by simp)) a5⟩
    · have q := hz.symm.trans a4; simp [rawInt] at q
  · obtain ⟨o, ho, r⟩ := h1
    exact ⟨o, oth _ _ (ne _ (by simp)) ho, r⟩
  · obtain ⟨o, ho, r⟩ := h2
    exact ⟨o, oth _ _ (ne _ (by simp)) ho, r⟩
  · have hp : Prd ((s.heap.push { cls := .type "list", data := .seq #[] }).update S (Obj.mapSeq (fun _ => (#[] : Array Value)))).objs.size xs ys acc' (min xs.size ys.size) h' := hp
    rw [hsz] at hp
    refine ⟨rfl, ?_⟩
    subst hSS
    exact hQ h' acc' c' (fun b o hm e => hk b o (fun q => by
      rcases List.mem_cons.mp q with q | q
      · rw [q] at e; exact Nat.lt_irrefl _ (Heap.lt_size e)
      · exact hm q) (oth b o (fun q => by rw [q] at e; exact Nat.lt_irrefl _ (Heap.lt_size e)) e)) hS' hp
end
end PyI

namespace PyI
open PySem PySem.Spec PyProof.Rows L2
/-! ### many objects laid at once -/
theorem un_many {fs ex : List Addr} {H H' : Hp} {h h' : Heap} (k : ∀ b u, h.get? b = some u → h'.get? b = some u) (fr : ∀ b, h.objs.size ≤ b → H b = none) (hd : ∀ b, b < h.objs.size → H' b = H b) : Un fs ex H H' h h' := by
  have old : ∀ b o, H b = some o → H' b = some o := fun b o e => by
    rw [hd b (Nat.lt_of_not_le fun q => by rw [fr b q] at e; cases e)]; exact e
  exact ⟨fun b u q _ _ _ => k b u q, fun b u q _ _ _ => ⟨u.slots, k b u q⟩, fun b u q n _ => by rw [hd b (Heap.lt_size q)]; exact n, fun b u q _ => ⟨u, k b u q⟩, fun b xs q => old b _ q, fun b u xs q => old b _ q, fun b ps q => ⟨#[], by rw [old b _ q]; simp⟩⟩
theorem hok_many {P : Program} {w : World} {H H' : Hp} {h h' : Heap} (x : HOk P w H h) (k : ∀ b u, h.get? b = some u → h'.get? b = some u) (hd : ∀ b, b < h.objs.size → H' b = H b) (new : ∀ b o, h.objs.size ≤ b → H' b = some o → ObjOk P w H' h' b o) : HOk P w H' h' := fun b u e => by
  have old : ∀ b o, H b = some o → H' b = some o := fun b o e => by rw [hd b (x.lt e)]; exact e
  by_cases q : b < h.objs.size
  · rw [hd b q] at e
    exact (x b u e).stay (fun c v _ q => k c v q) (fun c q => old c _ q) fun c xs q => old c _ q
  · exact new b u (Nat.le_of_not_lt q) e
/-- list(zip(a, b)): the pairs at Ts, the list at p -/
theorem paired_of_get {α β : Type} {R : α → β → Prop} : ∀ {xs : List α} {ys : List β}, xs.length = ys.length → (∀ (j : Nat) (x : α) (y : β), xs[j]? = some x → ys[j]? = some y → R x y) → Paired R xs ys
  | [], [], _, _ => .nil
  | [], _ :: _, h, _ => by simp at h
  | _ :: _, [], h, _ => by simp at h
  | x :: xs, y :: ys, h, k => .cons (k 0 x y rfl rfl) (paired_of_get (by simpa using h) fun j a b ha hb => k (j + 1) a b (by simpa using ha) (by simpa using hb))
def tLzip (K : PySem.W.Frag) (ta : TA) : TE := fun σ H Q => ta σ H fun vs H1 => ∃ a b xs ys, vs = [.ref a, .ref b] ∧ SqL K H1 a xs ∧ SqL K H1 b ys ∧
  ∀ (Ts : List Addr) (p : Addr) (H2 : Hp), Ts.length = min xs.length ys.length → (∀ t ∈ Ts, H1 t = none) → H1 p = none → (∀ b o, H1 b = some o → H2 b = some o) →
    (∀ (j : Nat) (t : Addr) (x y : V), Ts[j]? = some t → xs[j]? = some x → ys[j]? = some y → H2 t = some (.tup [x, y])) → H2 p = some (.lst (Ts.map V.ref)) → Q (.ref p) H2
theorem pe_lzip {X : Cx} {e e2 : Expr} {ta : TA} {p p2 pos pos2 : Pos} (hc : X.calm = true) (hg : Gl X "list") (hm : X.mg "list" = none) (hg2 : Gl X "zip") (hm2 : X.mg "zip" = none) (ha : PA X [e, e2] ta)
    (hs : starEach [e, e2] X.env = (false, eval e X.env) :: starEach [e2] X.env) (hpl : (backTo pos2 (starEach [e2] X.env)).any (·.1) = false) :
    PE X (.Call (.Name "list" p) [.Call (.Name "zip" p2) [e, e2] [] pos2] [] pos) (tLzip X.K ta) := by
  refine ⟨fun pins s σ H Q I h => ?_⟩
  refine Call_ (ld_blt I hg hm boot_list (PyProof.Rows.callWith_type1 (args_cons (Call_ (ld_blt I hg2 hm2 PyProof.Rows.boot_zip (PyProof.Rows.callWith_type1 (thn (ha.run pos2 pins s σ H _ I h) fun us s1 ⟨vs, H1, I1, r1, q1⟩ => ?_) hs hpl))) rfl) rfl rfl))
  obtain ⟨a, b, xs, ys, ex, hqx, hqy, q⟩ := q1
  subst ex
  cases r1 with
  | cons r rr =>
  cases rr with
  | cons r' rr =>
  cases rr
  cases r
  cases r'
  obtain ⟨its, rv, p1, z1⟩ := I1.list hqx
  obtain ⟨its2, rv2, p2', z2⟩ := I1.list hqy
  have la : a < s1.heap.objs.size := p1.lt
  have lb : b < s1.heap.objs.size := p2'.lt
  refine call_zip_2 p1.isList p2'.isList fun h' hz hTI hTO h1 h2 hsz hk => ?_
  have D := PySem.W.ktu_apart s1.heap.objs.size a b la lb
  have lx := rv.length
  have ly := rv2.length
  refine args_nil ?_
  have mlen : min its.toArray.size its2.toArray.size = min xs.length ys.length := by rw [List.size_toArray, List.size_toArray, lx, ly]
  have hl1 : h'.IsList a its.toArray := by
    obtain ⟨o, ho, r⟩ := p1.isList
    exact ⟨o, hk _ _ ho, r⟩
  have hl2 : h'.IsList b its2.toArray := by
    obtain ⟨o, ho, r⟩ := p2'.isList
    exact ⟨o, hk _ _ ho, r⟩
  refine call_list_zip (s := { s1 with heap := h' }) (I1.ok.hd hc) D (fun c hcm => ?_) (by rw [mlen]; omega) ⟨hTI, h1, h2, .inl ⟨hz, _, _, hTO⟩⟩ hz hl1 hl2 fun h'' acc c' hk2 hS hp => ?_
  · show c < h'.objs.size
    simp only [List.mem_cons, List.not_mem_nil, or_false] at hcm
    rw [hsz]
    rcases hcm with z | z | z | z | z | z | z <;> rw [z] <;> first | exact Nat.add_lt_add_left (by decide) _ | exact Nat.lt_add_of_pos_right (by decide) | exact Nat.lt_of_lt_of_le la (Nat.le_add_right _ _) | exact Nat.lt_of_lt_of_le lb (Nat.le_add_right _ _)
  have hS : h''.get? h'.objs.size = some { cls := .type "list", dict := none, data := .seq acc c', slots := #[] } := hS
  have hp : Prd (h'.objs.size + 1) its.toArray its2.toArray acc (min its.toArray.size its2.toArray.size) h'' := hp
  have keep : ∀ b o, s1.heap.get? b = some o → h''.get? b = some o := fun c o e => hk2 c o (fun hm => by
    have := Heap.lt_size e
    simp only [List.mem_cons, List.not_mem_nil, or_false] at hm
    rcases hm with z | z | z | z <;> rw [z] at this <;> first | exact absurd this (Nat.not_lt.mpr (Nat.le_add_right _ _)) | exact Nat.lt_irrefl _ this) (hk c o e)
  -- the pairs' addresses
  let Ts : List Addr := acc.toList.map fun v => match v with | .ref t => t | _ => 0
  have hTl : Ts.length = min xs.length ys.length := by
    show (acc.toList.map _).length = _
    rw [List.length_map, Array.length_toList, hp.1, mlen]
  have at_ : ∀ (j : Nat) (t : Addr), Ts[j]? = some t → ∃ x y u v, its[j]? = some x ∧ its2[j]? = some y ∧ xs[j]? = some u ∧ ys[j]? = some v ∧ RelV u x ∧ RelV v y ∧ acc[j]? = some (.ref t) ∧ h'.objs.size + 1 ≤ t ∧ IsPair h'' t x y := by
    intro j t hj
    have hj' : (acc.toList.map fun v => match v with | .ref t => t | _ => 0)[j]? = some t := hj
    rw [List.getElem?_map, Option.map_eq_some_iff] at hj'
    obtain ⟨v, hv, e⟩ := hj'
    rw [Array.getElem?_toList] at hv
    obtain ⟨T, x, y, e1, e2, e3, e4, e5⟩ := hp.2 j v hv
    subst e1
    have e : T = t := e
    subst e
    have e3 : its[j]? = some x := by simpa using e3
    have e4 : its2[j]? = some y := by simpa using e4
    have hjx : j < xs.length := by rw [lx]; exact (List.getElem?_eq_some_iff.mp e3).1
    have hjy : j < ys.length := by rw [ly]; exact (List.getElem?_eq_some_iff.mp e4).1
    obtain ⟨x', k1, k2⟩ := rv.get (List.getElem?_eq_getElem hjx)
    obtain ⟨y', k3, k4⟩ := rv2.get (List.getElem?_eq_getElem hjy)
    rw [e3] at k1; cases k1
    rw [e4] at k3; cases k3
    exact ⟨x, y, _, _, e3, e4, List.getElem?_eq_getElem hjx, List.getElem?_eq_getElem hjy, k2, k4, hv, e2, e5⟩
  have new : ∀ t ∈ Ts, h'.objs.size + 1 ≤ t := fun t ht => by
    obtain ⟨j, hj, e⟩ := List.mem_iff_getElem.mp ht
    obtain ⟨_, _, _, _, _, _, _, _, _, _, _, q, _⟩ := at_ j t (by rw [List.getElem?_eq_getElem hj, e])
    exact q
  classical
  let H2 : Hp := fun b => if b = h'.objs.size then some (.lst (Ts.map V.ref)) else if b ∈ Ts then (h''.get? b).bind (fun o => match o.data with | .seq its _ => (its.toList.mapM absV).map HO.tup | _ => none) else H1 b
  have h2T : ∀ (j : Nat) (t : Addr) (x y : V), Ts[j]? = some t → xs[j]? = some x → ys[j]? = some y → H2 t = some (.tup [x, y]) := by
    intro j t x y ht hx hy
    obtain ⟨x', y', u, v, _, _, k3, k4, k5, k6, _, k8, k9⟩ := at_ j t ht
    rw [hx] at k3; cases k3
    rw [hy] at k4; cases k4
    have m : t ∈ Ts := List.mem_of_getElem? ht
    have nz : t ≠ h'.objs.size := Nat.ne_of_gt k8
    show (if t = h'.objs.size then _ else if t ∈ Ts then _ else _) = _
    rw [if_neg nz, if_pos m]
    have k9 : h''.get? t = some { cls := .type "tuple", data := .seq #[x', y'] } := k9
    rw [k9]
    show ([x', y'].mapM absV).map HO.tup = _
    simp [List.mapM_cons, k5.abs, k6.abs]
  have h2p : H2 h'.objs.size = some (.lst (Ts.map V.ref)) := if_pos rfl
  have h2o : ∀ b, b < s1.heap.objs.size → H2 b = H1 b := fun c hcl => by
    have n1 : c ≠ h'.objs.size := Nat.ne_of_lt (by omega)
    have n2 : c ∉ Ts := fun m => by have := new c m; omega
    show (if c = h'.objs.size then _ else if c ∈ Ts then _ else H1 c) = _
    rw [if_neg n1, if_neg n2]
  have fr : ∀ b, s1.heap.objs.size ≤ b → H1 b = none := fun c hcl => I1.hok.fresh hcl
  refine ⟨.ref h'.objs.size, H2, ?_, rfl, q Ts _ H2 hTl (fun t ht => fr t (by have := new t ht; omega)) (fr _ (by omega)) (fun c o e => by rw [h2o c (I1.hok.lt e)]; exact e) h2T h2p⟩
  refine I1.un (t' := s1.toks) (un_many keep fr h2o) (hok_many I1.hok keep h2o fun c o hcl e => ?_)
  by_cases n1 : c = h'.objs.size
  · subst n1
    rw [h2p] at e; cases e
    refine ⟨by rw [List.length_map, hTl]; omega, acc.toList, c', ?_, ?_⟩
    · refine paired_of_get (by rw [List.length_map]; show (acc.toList.map _).length = _; rw [List.length_map]) fun j v u hv hu => ?_
      rw [List.getElem?_map, Option.map_eq_some_iff] at hv
      obtain ⟨t, ht, rfl⟩ := hv
      obtain ⟨_, _, _, _, _, _, _, _, _, _, k, _, _⟩ := at_ j t ht
      rw [Array.getElem?_toList, k] at hu
      cases hu
      rfl
    · rw [Array.toArray_toList]; exact hS
  · by_cases n2 : c ∈ Ts
    · obtain ⟨j, hj, e1⟩ := List.mem_iff_getElem.mp n2
      have ht : Ts[j]? = some c := by rw [List.getElem?_eq_getElem hj, e1]
      obtain ⟨x', y', u, v, _, _, k3, k4, k5, k6, _, k8, k9⟩ := at_ j c ht
      rw [h2T j c u v ht k3 k4] at e
      cases e
      exact ⟨by show 2 ≤ sizeLine; decide, [x', y'], .cons k5 (.cons k6 .nil), ⟨_, k9, rfl, _, rfl⟩⟩
    · have e2 : H2 c = H1 c := by
        show (if c = h'.objs.size then _ else if c ∈ Ts then _ else H1 c) = _
        rw [if_neg n1, if_neg n2]
      rw [e2, fr c hcl] at e; cases e
end PyI

namespace PyI
open PySem PySem.Spec PyProof.Rows L2
section
variable {G : GE} {Γ : Glo} {cu : Option Cu} {Wi : WX} {X : Cx} {g g' g1 : Gh} {M M' M1 : Store} {H H' H1 : Hp} {σ : L2.St} {l : LM} {N : List Str} {sc : Scope} {calm : Bool} {a b c : Expr} {sa sb s_c : Sm} {pos : Pos} {k : Nat}
theorem mem_of_lookupS {α : Type} {x : Str} {y : α} : ∀ {l : List (Str × α)}, l.lookup x = some y → (x, y) ∈ l
  | [], h => by cases h
  | q :: l, h => by
    rw [List.lookup_cons] at h
    split at h
    · rename_i e
      have : x = q.1 := by simpa using e
      cases h
      rw [this]; exact List.mem_cons_self ..
    · exact List.mem_cons_of_mem _ (mem_of_lookupS h)
theorem px_make {cl : Str} {fi : FnI} {fz : Bool} {xs : List Expr} {kws : List Keyword} {ss ts : List Sm} {ks : List Str} {p : Pos} (hK : X.K = G.K) (T : Tops G Γ X.prog X.w X.mg X.base k) (hr : RoomG (k + 1) X.A) (tk : Takes X Wi) (hΓ : Γ.mt cl "__init__" = some fi) (hg : Gl X cl) (hd : (cl == ("__debug__" : Str)) = false)
    (h : PXs G cu Wi X xs ss) (hw : PXs G cu Wi X (kws.map (·.value)) ts) (hn : kws.map (·.arg) = ks.map some) (hf : fitB fi ((ss ++ ts).length + 1) ks = true) :
    PX G cu Wi X (.Call (.Name cl p) xs kws pos) (.of fun l M => (evEs (ss ++ ts) l M).bind fun vs M1 => need (Γ.mt cl "__init__") fun f => fullW f (vs.length + 1) (makeW f.sem cl fz (bindW (f.ps.drop 1) ks vs) M1)) := by
  obtain ⟨C, fa, hC, hm, Mk', F⟩ := T.mks cl fi hΓ
  refine PX.of hK ⟨fun pins s σ H Q I q => ?_⟩ (fun _ => rfl) rfl
  refine wpAny_Call_Name_kw (ld_glob I hg hm ?_ hd)
  have q1 := TOf.bind (fa := evEs (ss ++ ts)) (f := fun l vs M1 => need (Γ.mt cl "__init__") fun f => fullW f (vs.length + 1) (makeW f.sem cl fz (bindW (f.ps.drop 1) ks vs) M1)) (rel1 := RWs G) q
  refine callWith_px (first := []) (by rw [hK]; exact Mk'.kp) h hw hn I q1 fun us ws vs zs s1 H1 I1 r1 r2 l1 l2 ⟨g1, M1, l, as, a1, rw1, p⟩ => ?_
  rw [hΓ] at p
  simp only [need, fullW] at p
  split at p
  · rename_i hfull
    have hlen : (ss ++ ts).length = us.length + ws.length := by
      rw [List.length_append, ← h.length, ← hw.length, l1, l2]
      have := congrArg List.length hn
      simp at this
      rw [← this]; simp
    rw [hlen] at hf
    have asl : as.length = us.length + ws.length := by rw [rw1.length, List.length_append, r1.length, r2.length]
    refine run_makeG hK Mk' F hr tk I1 hf l2 r1 r2 fun x dx hx hdx hne => ?_
    have hps : (bindW (fi.ps.drop 1) ks as).length + 1 = fi.ps.length := by
      simp only [fitB, Bool.and_eq_true, decide_eq_true_eq] at hf
      obtain ⟨⟨h1, h2⟩, h3⟩ := hf
      have kle : ks.length ≤ as.length := by rw [asl, ← l2]; omega
      have e2 := bindW_len (np := fi.np) (ps := fi.ps) (ks := ks) (as := W.non :: as) (by rw [List.length_cons, asl]; exact h3) (by rw [List.length_cons]; omega) (by rw [List.length_cons, asl]; exact h2)
      rw [bindW_cons kle, List.length_cons] at e2
      exact e2
    have := make_pass (sem := fi.sem) (c := cl) (fz := fz) a1.abs (bindW_rws (ps := fi.ps.drop 1) (ks := ks) rw1) hC hx hdx hne p
    rw [hps] at this
    exact this
  · exact p.no.elim
/-! ### a method called -/
theorem px_meth {cl m : Str} {fi : FnI} {fz : Bool} {o : Expr} {so : Sm} {xs : List Expr} {kws : List Keyword} {ss ts : List Sm} {ks : List Str} {apos : Pos} (hK : X.K = G.K) (T : Tops G Γ X.prog X.w X.mg X.base k) (hr : RoomG k X.A) (tk : Takes X Wi) (hΓ : Γ.mt cl m = some fi)
    (hb : baseB o = true) (ho : PX G cu Wi X o so) (h : PXs G cu Wi X xs ss) (hw : PXs G cu Wi X (kws.map (·.value)) ts) (hn : kws.map (·.arg) = ks.map some) (hf : fitB fi ((ss ++ ts).length + 1) ks = true)
    {pl : Sem Bool} (ht : eval (.Call (.Attribute o m apos) xs kws pos) X.env = (do
      let ov ← eval o X.env
      standAt apos.atName
      let (f, first) ← holding [ov] (getMethod ov m pl)
      callWith pos f first (backTo pos (starEach xs X.env)) (backToKw pos (keywordEach kws X.env)))) :
    PX G cu Wi X (.Call (.Attribute o m apos) xs kws pos) (.of fun l M => (so.v l M).bind fun w M1 => need (vO M1 w) fun q => if q.1 = cl ∧ m ∉ q.2.1 then (evEs (ss ++ ts) l M1).bind fun vs M2 =>
      need (Γ.mt cl m) fun f => fullW f (vs.length + 1) (callW f.sem fz (bindW f.ps ks (w :: vs)) M2) else .err) := by
  obtain ⟨C, fa, hC, hcls, Me, F⟩ := T.mt cl m fi hΓ
  refine PX.of hK ⟨fun pins s σ H Q I q => ?_⟩ (fun _ => rfl) rfl
  have q0 := TOf.bind (fa := so.v) (f := fun l w M1 => need (vO M1 w) fun q => if q.1 = cl ∧ m ∉ q.2.1 then (evEs (ss ++ ts) l M1).bind fun vs M2 =>
      need (Γ.mt cl m) fun f => fullW f (vs.length + 1) (callW f.sem fz (bindW f.ps ks (w :: vs)) M2) else .err) (rel1 := RW G) q
  refine PySem.W.methodCall_KW (pl := pl) (thn (ho.pe.run pins s σ H _ I q0) fun u s1 ⟨x, H1, I1, rx, g1, M1, l, w, a1, rw1, p⟩ => ?_) ht
  obtain ⟨⟨c', ns, us'⟩, hv, p⟩ := Post.need p
  dsimp only at p
  split at p
  · rename_i hcm
    obtain ⟨hc1, hc2⟩ := hcm
    subst hc1
    obtain ⟨pa, C', dx, fs, e, hC', hI, hns, hws⟩ := vO_ok a1.abs hv rw1
    rw [hC] at hC'; cases hC'
    subst e
    obtain rfl : u = Value.ref pa := rx
    have hno : fs.lookup m = none := by
      cases hl : fs.lookup m with
      | none => rfl
      | some v => exact absurd (by rw [← hns]; exact List.mem_map.mpr ⟨(m, v), mem_of_lookupS hl, rfl⟩) hc2
    refine getmeth_ok I1 hI (by rw [hK]; exact hcls) (by rw [hK]; exact Me) hno ?_
    have q1 : TAof G cu Wi (evEs (ss ++ ts)) σ H1 (fun vs H2 => ∃ g2 M2 l as, At G cu g2 M2 H2 l σ ∧ RWs G g2 M2 H2 as vs ∧ RW G g2 M2 H2 w (.ref pa) ∧ Post G Wi (RW G) g2 M2 H2 σ (need (Γ.mt c' m) fun f => fullW f (as.length + 1) (callW f.sem fz (bindW f.ps ks (w :: as)) M2)) Q) := by
      refine ⟨g1, M1, l, a1, (Post.bind (rel1 := RWs G) a1.abs.len p).imp fun vs H2 ⟨g2, M2, as, a2, e2, r2, p2⟩ => ⟨g2, M2, l, as, a1.evo a2 e2, r2, rw1.evo a1.abs.len e2, p2⟩⟩
    refine callWith_px (first := [Value.ref pa]) (by rw [hK]; exact Me.kp) h hw hn I1 q1 fun us ws vs zs s2 H2 I2 r1 r2 l1 l2 ⟨g2, M2, l', as, a2, rw2, rws, p2⟩ => ?_
    rw [hΓ] at p2
    simp only [need, fullW] at p2
    split at p2
    · rename_i hfull
      have hlen : (ss ++ ts).length = us.length + ws.length := by
        rw [List.length_append, ← h.length, ← hw.length, l1, l2]
        have := congrArg List.length hn
        simp at this
        rw [← this]; simp
      rw [hlen] at hf
      have asl : as.length = us.length + ws.length := by rw [rw2.length, List.length_append, r1.length, r2.length]
      have hf' : fitB fi ((Value.ref pa :: us).length + ws.length) ks = true := by
        rw [List.length_cons, show us.length + 1 + ws.length = us.length + ws.length + 1 from by omega]; exact hf
      refine run_def (us := Value.ref pa :: us) (vs := V.ref pa :: vs) hK F hr tk I2 hf' l2 (.cons rfl r1) r2 (call_pass a2.abs (bindW_rws (show RWs G g2 M2 H2 (w :: as) (V.ref pa :: vs ++ zs) from .cons rws rw2)) ?_ p2)
      simp only [fitB, Bool.and_eq_true, decide_eq_true_eq] at hf
      obtain ⟨⟨h1, h2⟩, h3⟩ := hf
      exact bindW_len (np := fi.np) (by rw [List.length_cons, asl]; exact h3) (by rw [List.length_cons, asl]; omega) (by rw [List.length_cons, asl]; exact h2)
    · exact p2.no.elim
  · exact p.no.elim
/-! ### list(zip(a, b)) -/
theorem RWs.of_get : ∀ {ws : List W} {vs : List V}, ws.length = vs.length → (∀ (i : Nat) (w : W) (v : V), ws[i]? = some w → vs[i]? = some v → RW G g M H w v) → RWs G g M H ws vs
  | [], [], _, _ => rfl
  | [], _ :: _, h, _ => by simp at h
  | _ :: _, [], h, _ => by simp at h
  | w :: ws, v :: vs, h, k => ⟨v, vs, rfl, k 0 w v rfl rfl, RWs.of_get (by simpa using h) fun i x y hx hy => k (i + 1) x y (by simpa using hx) (by simpa using hy)⟩
theorem Abs.ext (ab : Abs G g M H) (hd : ∀ b o, H b = some o → H' b = some o) : Abs G g M H' ∧ Evo g M H g M H' := by
  have e : Evo g M H g M H' := ⟨⟨[], by simp, by simp⟩, rfl, Nat.le_refl _, fun _ _ h _ => h, fun b u h _ => hd b u h, fun b h => by
    cases q : H b with
    | none => exact absurd q h
    | some o => rw [hd b o q]; simp⟩
  exact ⟨⟨ab.len, ab.nd, ab.nz, fun b hb => e.dom b (ab.zd b hb), fun i c b h1 h2 => (ab.cell i c b h1 h2).evo ab.len e fun o h => hd b o h⟩, e⟩
theorem px_lzip {fz : Bool} {p p2 pos2 : Pos} (Gd : Good G N sc calm X) (hc : X.calm = true) (hg : Gl X "list") (hg2 : Gl X "zip") (ha : PX G cu Wi X a sa) (hb : PX G cu Wi X b sb) :
    PX G cu Wi X (.Call (.Name "list" p) [.Call (.Name "zip" p2) [a, b] [] pos2] [] pos) (.of fun l M => (evEs [sa, sb] l M).bind fun vs M1 => prm (.lzip fz) vs M1) := by
  refine PX.of Gd.K ((pe_lzip hc hg (Gd.blt _ (by decide +kernel)) hg2 (Gd.blt _ (by decide +kernel)) (PXs.pa (.cons ha (.cons hb .nil))) (starEach_cons ha.ns) ((PXs.cons hb .nil).stars pos2)).imp fun σ H Q q => ?_) (fun _ => rfl) rfl
  have q1 := TOf.bind (fa := evEs [sa, sb]) (f := fun l vs M1 => prm (.lzip fz) vs M1) (rel1 := RWs G) q
  refine TOf.imp q1 fun vs H1 ⟨g1, M1, l, as, a1, r1, p⟩ => ?_
  match as, r1, p with
  | [], _, p => exact p.no.elim
  | [_], _, p => exact p.no.elim
  | _ :: _ :: _ :: _, _, p => exact p.no.elim
  | [x, y], r1, p =>
    obtain ⟨v, u, e, rv, ru⟩ := r1.two_inv
    have p : Post G Wi (RW G) g1 M1 H1 σ (lzipW fz x y M1) Q := p
    obtain ⟨ws, h1, p⟩ := Post.need p
    obtain ⟨us, h2, p⟩ := Post.need p
    obtain ⟨pa, xs, e1, k1, k2⟩ := vL_ok a1.abs h1 rv
    obtain ⟨pb, ys, e2, k3, k4⟩ := vL_ok a1.abs h2 ru
    refine ⟨pa, pb, xs, ys, by rw [e, e1, e2], by rw [Gd.K]; exact .inl k1, by rw [Gd.K]; exact .inl k3, fun Ts qq H2 z1 z2 z3 z4 z5 z6 => ?_⟩
    have z4' : ∀ b o, H1 b = some o → (fun b => if b = qq then none else H2 b : Hp) b = some o := fun b o e => by
      have : b ≠ qq := fun z => by rw [z, z3] at e; cases e
      show (if b = qq then none else H2 b) = some o
      rw [if_neg this]; exact z4 b o e
    obtain ⟨b1, b2⟩ := a1.abs.ext z4'
    have back : upd (fun b => if b = qq then none else H2 b : Hp) qq (.lst (Ts.map V.ref)) = H2 := by
      funext b
      by_cases hb : b = qq
      · rw [hb, upd_same, z6]
      · rw [upd_ne hb]; exact if_neg hb
    have rr : RWs G g1 M1 (fun b => if b = qq then none else H2 b : Hp) (ws.zipWith (fun u v => W.tup [u, v]) us) (Ts.map V.ref) := by
      refine RWs.of_get (by rw [List.length_zipWith, List.length_map, z1, k2.length, k4.length]) fun i w v hw hv => ?_
      rw [List.getElem?_map, Option.map_eq_some_iff] at hv
      obtain ⟨t, ht, rfl⟩ := hv
      have hi := (List.getElem?_eq_some_iff.mp ht).1
      rw [z1] at hi
      have hx : xs[i]? = some xs[i] := List.getElem?_eq_getElem (by omega)
      have hy : ys[i]? = some ys[i] := List.getElem?_eq_getElem (by omega)
      have hwx : ws[i]? = some (ws[i]'(by rw [k2.length]; omega)) := List.getElem?_eq_getElem _
      have hwy : us[i]? = some (us[i]'(by rw [k4.length]; omega)) := List.getElem?_eq_getElem _
      rw [List.getElem?_zipWith, hwx, hwy] at hw
      cases hw
      obtain ⟨v1, m1, m2⟩ := k2.get hwx
      obtain ⟨v2, m3, m4⟩ := k4.get hwy
      rw [hx] at m1; cases m1
      rw [hy] at m3; cases m3
      have tn := z2 t (List.mem_of_getElem? ht)
      have zt := z5 i t _ _ ht hx hy
      have tq : t ≠ qq := fun z => by rw [z, z6] at zt; cases zt
      exact ⟨t, [xs[i], ys[i]], rfl, .inl ⟨.inl ((if_neg tq).trans zt), a1.abs.fro tn⟩, .cons (m2.evo a1.abs.len b2) (.one (m4.evo a1.abs.len b2))⟩
    have p : Post G Wi (RW G) g1 M1 H1 σ (newL fz (ws.zipWith (fun u v => W.tup [u, v]) us) M1) Q := p
    have := Post.newL b1 rr (Post.evo a1.abs.len b2 p) (p := qq) (if_pos rfl)
    rw [back] at this
    exact this
end
end PyI

namespace PyI
open PySem PySem.Spec PyProof.Rows L2
section
variable {G : GE} {Γ : Glo} {cu : Option Cu} {Wi : WX} {X : Cx} {g g' g1 g2 : Gh} {M M' M1 M2 : Store} {H H' H1 H2 : Hp} {σ : L2.St} {l : LM} {N : List Str} {sc : Scope} {calm : Bool} {a b c : Expr} {sa sb s_c : Sm} {pos : Pos} {k : Nat} {D : Addr}
theorem putP_rws {q : Key} {v : W} {u : V} (rv : RW G g M H v u) : ∀ {kvs : List (Key × V)} {ws : List W}, RWs G g M H ws (kvs.map (·.2)) →
    RWs G g M H ((kvs.map (·.1)).zipWith (fun a w => if a = q then v else w) ws) ((kvs.map fun kv => if kv.1 = q then (kv.1, u) else kv).map (·.2)) ∧ (kvs.map fun kv => if kv.1 = q then (kv.1, u) else kv).map (·.1) = kvs.map (·.1)
  | [], [], r => ⟨r, rfl⟩
  | [], _ :: _, r => by obtain ⟨_, _, e, _⟩ := r; cases e
  | _ :: _, [], r => by cases (show _ :: _ = ([] : List V) from r)
  | (a, x) :: kvs, w :: ws, r => by
    obtain ⟨x', r', e, h1, h2⟩ := r
    cases e
    obtain ⟨i1, i2⟩ := putP_rws rv h2
    simp only [List.map_cons, List.zipWith_cons_cons]
    by_cases ha : a = q
    · simp only [ha, if_true]
      exact ⟨.cons rv i1, by rw [i2]⟩
    · simp only [ha, if_false]
      exact ⟨.cons h1 i1, by rw [i2]⟩
theorem putP_ok {q : Key} {v : W} {u : V} {kvs : List (Key × V)} {ws : List W} (rv : RW G g M H v u) (r : RWs G g M H ws (kvs.map (·.2))) :
    (putK kvs q u).map (·.1) = (putP q v (kvs.map (·.1), ws)).1 ∧ RWs G g M H (putP q v (kvs.map (·.1), ws)).2 ((putK kvs q u).map (·.2)) := by
  unfold putP putK
  have e0 : ((kvs.map (·.1)).any fun a => decide (a = q)) = (kvs.any fun kv => decide (kv.1 = q)) := by rw [List.any_map]; rfl
  simp only
  rw [e0]
  by_cases hk : (kvs.any fun kv => decide (kv.1 = q)) = true
  · rw [if_pos hk, if_pos hk]
    obtain ⟨i1, i2⟩ := putP_rws (q := q) rv r
    exact ⟨i2, i1⟩
  · rw [if_neg hk, if_neg hk]
    exact ⟨by simp, by rw [List.map_append]; exact r.append (.one rv)⟩
theorem keyOf_kV {w : W} {q : Key} {v : V} (h : keyOf w = some q) (r : RW G g M H w v) : v = kV q := by
  unfold keyOf at h
  split at h
  · cases h; exact r
  · cases h; exact r
  · cases h
open Classical in
theorem dc_ok {kd : Itk} {fz : Bool} {own : List (Str × Nat)} {t : Tg} {ss cond : List Sm} {key val : Sm} {tt : TT} {Q : VK} (htg : ∀ j ∈ tgSl t, j ∈ own.map (·.2)) (htt : ∀ σ H Q, TTof G none W0 (evAndT cond) σ H Q → tt σ H Q)
    (h : TEof G none Wi (evDc fz own kd ss t cond key val) σ H Q) : tDc (iOf G none Wi kd (evEs ss)) (gOf G t) tt (TEof G none W0 key.v) (TEof G none W0 val.v) (own.map (·.2)) σ H Q := by
  obtain ⟨g0, M0, l, at0, p⟩ := h
  refine ⟨g0, M0, l, at0, (Post.bind (rel1 := RWs G) at0.abs.len p).imp fun xs H1 ⟨g1, M1, vs, a1, e1, r1, p1⟩ => ?_⟩
  obtain ⟨items, hit, p1⟩ := Post.need p1
  refine ⟨g1, M1, vs, items, a1, r1, hit, fun J hJ D hD => ?_⟩
  cases hlc : dcW (fun x => tgW t x (wipeW l (own.map (·.2)))) (evAndT cond) key.v val.v (Still kd vs items) items ([], []) M1 with
  | err => rw [hlc] at p1; exact p1.elim
  | exc c ns ws M2 => rw [hlc] at p1; exact p1.elim
  | ok R M2 =>
  rw [hlc] at p1
  have p2 : Post G Wi (RW G) g1 M1 H1 σ (newD fz R.1 R.2 M2) Q := p1
  have a0 := a1.toOwn (o := .dK []) hD
  refine ⟨fun i m H' => ∃ g' M' kvs accW, i ≤ items.length ∧ m = items.length - i ∧ Abs G g' M' H' ∧ EvoX D (ownG g1 D) M1 (upd H1 D (.dK [])) g' M' H' ∧ H' D = some (.dK kvs) ∧ RWs G g' M' H' accW (kvs.map (·.2)) ∧
    dcW (fun x => tgW t x (wipeW l (own.map (·.2)))) (evAndT cond) key.v val.v (Still kd vs items) (items.drop i) (kvs.map (·.1), accW) M' = .ok R M2 ∧ itemsW kd vs M' = some items, ?_, ?_⟩
  · exact ⟨_, ownG g1 D, M1, [], [], Nat.zero_le _, rfl, a0, Evo.refl.x, upd_same, rfl, hlc, hit⟩
  · rintro i m H' ⟨g', M', kvs, accW, hi, rfl, a', e', hDa, racc, hl', hit'⟩
    have hDz : D ∈ g'.Z := by rw [e'.zs]; exact List.mem_cons_self ..
    have rsrc : RWs G g' M' H' vs xs := (r1.toOwn a1.len hD).evoX a0.len (List.mem_cons_self ..) e'
    obtain ⟨hgo, hstop⟩ := hJ g' M' H' a' rsrc hit'
    by_cases hlt : i = items.length
    · subst hlt
      left
      refine ⟨hstop, ?_⟩
      rw [List.drop_length] at hl'
      have hl'' : Res.ok (kvs.map (·.1), accW) M' = .ok R M2 := hl'
      injection hl'' with e3 e4
      subst e3 e4
      cases fz with
      | true =>
        obtain ⟨b1, b2, b3, b4⟩ := own_back a1 hD a' e'
        exact p2 _ _ _ b1 b2 ⟨D, kvs, rfl, hDa, b4, rfl, racc.via (g' := ⟨g'.R, g1.Z⟩) (fun b _ f => b3 b f) (.inr fun _ _ q => q)⟩
      | false =>
        obtain ⟨b1, b2⟩ := own_cell (c := .dct (kvs.map (·.1)) accW) a1 hD a' e' ⟨kvs, hDa, rfl, racc⟩
        refine p2 _ _ _ b1 b2 ⟨D, ?_, rfl⟩
        show (g'.R ++ [D])[M'.length]? = some D
        rw [← a'.len]; simp
    · right
      have hi2 : i < items.length := by omega
      obtain ⟨w, hw⟩ : ∃ w, items[i]? = some w := ⟨_, List.getElem?_eq_getElem hi2⟩
      have hdrop : items.drop i = w :: items.drop (i + 1) := by
        have h1 : w = items[i] := by rw [List.getElem?_eq_getElem hi2] at hw; exact (Option.some.inj hw).symm
        rw [h1]; exact List.drop_eq_getElem_cons hi2
      rw [hdrop] at hl'
      obtain ⟨hg, hy⟩ := hgo i w hw
      refine ⟨hg, fun H'' => ∃ m', m' < items.length - i ∧ ∃ g' M' kvs accW, i + 1 ≤ items.length ∧ m' = items.length - (i + 1) ∧ Abs G g' M' H'' ∧ EvoX D (ownG g1 D) M1 (upd H1 D (.dK [])) g' M' H'' ∧ H'' D = some (.dK kvs) ∧ RWs G g' M' H'' accW (kvs.map (·.2)) ∧
        dcW (fun x => tgW t x (wipeW l (own.map (·.2)))) (evAndT cond) key.v val.v (Still kd vs items) (items.drop (i + 1)) (kvs.map (·.1), accW) M' = .ok R M2 ∧ itemsW kd vs M' = some items, fun H'' h => h, fun x H2 hyl => ?_⟩
      obtain ⟨a2, e2, rw2⟩ := hy x H2 hyl
      have eX2 := e'.trans a0.len (e2.x (D := D))
      have hD2 : H2 D = some (.dK kvs) := e2.keep D _ hDa fun j c h1 _ => absurd (List.mem_of_getElem? h1) (a'.nz D hDz)
      have racc2 := racc.evo a'.len e2
      unfold dcW at hl'
      cases htw : tgW t w (wipeW l (own.map (·.2))) with
      | none => rw [htw] at hl'; cases hl'
      | some l1 =>
      rw [htw] at hl'
      simp only [need] at hl'
      have lr0 : LR G (ownG g1 D) M1 (upd H1 D (.dK [])) l σ := (at0.lr.evo at0.abs.len e1).toOwn a1.len hD
      have lr2 : LR G g' M' H2 (wipeW l (own.map (·.2))) (L2.wipe σ (own.map (·.2))) := (LR.evoX a0.len (List.mem_cons_self ..) eX2 lr0).wipe _
      refine ⟨g', M', _, w, l1, a2, lr2, rw2, htw, fun σ2 hfr lr3 => ?_⟩
      have hl2 : σ2.length = σ.length := by
        rw [← lr3.1, tgW_len htw, lr2.1, wipe_length]
      refine ⟨wipe_wipe hl2 fun j hj => hfr j fun hm => hj (htg j hm), htt _ _ _ ?_⟩
      refine ⟨g', M', l1, At.still a2 lr3, ?_⟩
      cases hc : evAndT cond l1 M' with
      | err => rw [hc] at hl'; cases hl'
      | exc c ns ws M3 => rw [hc] at hl'; cases hl'
      | ok bb M3 =>
      rw [hc] at hl'
      simp only [Res.bind] at hl'
      intro g3 b' H3 a3 e3 rb
      have eb : bb = b' := rb
      subst eb
      have eX3 := eX2.trans a0.len (e3.x (D := D))
      have hDz3 : D ∈ g3.Z := by rw [e3.zs]; exact hDz
      have hD3 : H3 D = some (.dK kvs) := e3.keep D _ hD2 fun j c h1 _ => absurd (List.mem_of_getElem? h1) (a'.nz D hDz)
      have racc3 := racc2.evo a2.len e3
      cases bb with
      | false =>
        simp only [Bool.false_eq_true, if_false] at hl' ⊢
        split at hl'
        · rename_i hst
          exact ⟨_, by omega, g3, M3, kvs, accW, by omega, rfl, a3, eX3, hD3, racc3, hl', hst⟩
        · cases hl'
      | true =>
        simp only [if_true] at hl' ⊢
        refine ⟨g3, M3, l1, At.still a3 (lr3.evo a2.len e3), ?_⟩
        cases he : key.v l1 M3 with
        | err => rw [he] at hl'; cases hl'
        | exc c ns ws M4 => rw [he] at hl'; cases hl'
        | ok kw M4 =>
        rw [he] at hl'
        simp only at hl'
        intro g4 kv H4 a4 e4 rk
        have eX4 := eX3.trans a0.len (e4.x (D := D))
        have hDz4 : D ∈ g4.Z := by rw [e4.zs]; exact hDz3
        have hD4 : H4 D = some (.dK kvs) := e4.keep D _ hD3 fun j c h1 _ => absurd (List.mem_of_getElem? h1) (a3.nz D hDz3)
        have racc4 := racc3.evo a3.len e4
        refine ⟨g4, M4, l1, At.still a4 ((lr3.evo a2.len e3).evo a3.len e4), ?_⟩
        cases hq : keyOf kw with
        | none => rw [hq] at hl'; cases hl'
        | some q =>
        rw [hq] at hl'
        simp only at hl'
        cases hv : val.v l1 M4 with
        | err => rw [hv] at hl'; cases hl'
        | exc c ns ws M5 => rw [hv] at hl'; cases hl'
        | ok y M5 =>
        rw [hv] at hl'
        simp only at hl'
        split at hl'
        · rename_i hst
          intro g5 yv H5 a5 e5 ry
          have eX5 := eX4.trans a0.len (e5.x (D := D))
          have hDz5 : D ∈ g5.Z := by rw [e5.zs]; exact hDz4
          have hD5 : H5 D = some (.dK kvs) := e5.keep D _ hD4 fun j c h1 _ => absurd (List.mem_of_getElem? h1) (a4.nz D hDz4)
          have racc5 := racc4.evo a4.len e5
          have hlen : kvs.length < sizeLine := by simpa using hst.2
          obtain ⟨a6, e6⟩ := a5.own hDz5 (o := .dK (putK kvs q yv))
          obtain ⟨k1, k2⟩ := putP_ok (q := q) ry racc5
          refine ⟨kvs, q, keyOf_kV hq (rk.evo a4.len e5), hD5, hlen, _, by omega, g5, M5, putK kvs q yv, (putP q y (kvs.map (·.1), accW)).2, by omega, rfl, a6, eX5.trans a0.len e6, upd_same, k2.evoX a5.len hDz5 e6, ?_, hst.1⟩
          rw [k1]
          exact hl'
        · cases hl'
end
end PyI

namespace PyI
open PySem PySem.Spec PyProof.Rows L2
section
variable {G : GE} {Γ : Glo} {cu : Option Cu} {Wi : WX} {X : Cx} {g g' g1 : Gh} {M M' M1 : Store} {H H' H1 : Hp} {σ : L2.St} {l : LM} {N : List Str} {sc : Scope} {calm : Bool} {a b c : Expr} {sa sb s_c : Sm} {pos : Pos} {k : Nat}
/-! ### enumerate, zip of lists -/
theorem src_enum {pa : Addr} {w : W} {items : List W} : ISrc G (Ite G.K pa) .enum [w] [.ref pa] items := by
  intro g M H ab r hi
  obtain ⟨v, rv, r1⟩ := r.one_inv
  cases rv
  have hi : (vL M w).map (fun ws => (List.range ws.length).zipWith (fun (i : Nat) w => W.tup [.int (i : Int), w]) ws) = some items := hi
  obtain ⟨ws, hL, rfl⟩ := Option.map_eq_some_iff.mp hi
  obtain ⟨q, xs, e, h1, h2⟩ := vL_ok ab hL r1
  cases e
  have sq : SqL G.K H pa xs := .inl h1
  have hlen : ((List.range ws.length).zipWith (fun (i : Nat) w => W.tup [.int (i : Int), w]) ws).length = xs.length := by simp [h2.length]
  refine ⟨fun i y hy => ?_, ⟨xs, sq, by rw [hlen]; exact Nat.le_refl _⟩⟩
  have hi := (List.getElem?_eq_some_iff.mp hy).1
  rw [hlen] at hi
  have hx : xs[i]? = some xs[i] := List.getElem?_eq_getElem hi
  have hw : ws[i]? = some (ws[i]'(by rw [h2.length]; exact hi)) := List.getElem?_eq_getElem _
  rw [List.getElem?_zipWith, List.getElem?_range (by rw [h2.length]; exact hi), hw] at hy
  cases hy
  obtain ⟨z, hz, rz⟩ := h2.get hw
  rw [hx] at hz; cases hz
  refine ⟨⟨xs, _, sq, hx⟩, fun x H' hy => ?_⟩
  obtain ⟨T, x', rfl, hT, rfl, hx'⟩ := hy
  have := hx' xs sq
  rw [hx] at this; cases this
  exact ab.newTup hT (.cons (show RW G g M H (.int (i : Int)) (.int (i : Nat)) from rfl) (.one rz))
theorem pi_enumW {elts : List Expr} {kk : Nat} {p tpos : Pos} (Gd : Good G N sc calm X) (hg : Gl X "enumerate") (ha : PX G cu Wi X a sa) : PI X (.Tuple elts kk tpos) (.Call (.Name "enumerate" p) [a] [] pos) (iOf G cu Wi .enum (evEs [sa])) := by
  refine (pi_enum hg (Gd.blt _ (by decide +kernel)) (PXs.pa (.cons ha .nil)) (starEach_one ha.ns)).imp fun σ H R h => ?_
  refine TOf.imp (ta_len h) fun xs H1 ⟨hl, g1, M1, vs, items, a1, rws, hit, hR⟩ => ?_
  match vs, rws, hit, hR with
  | [], rws, _, _ => rw [← rws.length] at hl; cases hl
  | _ :: _ :: _, rws, _, _ => rw [← rws.length] at hl; simp at hl
  | [w], rws, hit, hR =>
    obtain ⟨v, e1, rv⟩ := rws.one_inv
    have hi : (vL M1 w).map (fun ws => (List.range ws.length).zipWith (fun (i : Nat) w => W.tup [.int (i : Int), w]) ws) = some items := hit
    obtain ⟨ws, hL, _⟩ := Option.map_eq_some_iff.mp hi
    obtain ⟨q, ys, e, h1, h2⟩ := vL_ok a1 hL rv
    subst e
    subst e1
    exact ⟨q, ys, rfl, by rw [Gd.K]; exact .inl h1, by rw [Gd.K]; exact hR _ src_enum⟩
end
end PyI

namespace PyI
open PySem PySem.Spec PyProof.Rows L2
def iZipS (K : PySem.W.Frag) (st : Bool) (ta : TA) : TI := fun σ H R => ta σ H fun vs H1 => ∃ (t1 t2 : Bool) (a b : Addr) (xs ys : List V), vs = [.ref a, .ref b] ∧ SqV t1 K H1 a xs ∧ SqV t2 K H1 b ys ∧ R (ItzS K st t1 t2 a b) H1
theorem SqH.lt {t : Bool} {h : Heap} {l : Addr} {xs : Array Value} (x : SqH t h l xs) : l < h.objs.size := by
  cases t
  · obtain ⟨o, e, _⟩ := x; exact Heap.lt_size e
  · obtain ⟨o, e, _⟩ := x; exact Heap.lt_size e
theorem zipS_start {X : Cx} {pins : List (Addr × Obj)} {σ : L2.St} {H1 : Hp} {s1 : Shared} {elts : List Expr} {kk : Nat} {tpos : Pos} {R : It → Hp → Prop} {st t1 t2 : Bool} {a b : Addr} {its its2 : Array Value} (I1 : Inv X pins σ H1 s1) (p1 : SqH t1 s1.heap a its) (p2 : SqH t2 s1.heap b its2) (q : R (ItzS X.K st t1 t2 a b) H1) :
    wpAny (model X.prog X.w) X.A (pyIter (.ref (s1.heap.objs.size + 4))) (PIE X pins σ (.Tuple elts kk tpos) R) X.xe { s1 with heap := zsH5 s1.heap st t1 t2 a b } := by
  obtain ⟨z4, hz, hTI, hTO, h1, h2, hk⟩ := zsH_facts (st := st) (t1 := t1) (t2 := t2) (l1 := a) (l2 := b) (h := s1.heap)
  refine pyIter_zipS hz ?_
  have I2 : Inv X pins σ H1 { s1 with heap := zsH5 s1.heap st t1 t2 a b } := I1.kept (t' := s1.toks) hk
  refine ⟨s1.heap.objs.size + 4, [s1.heap.objs.size + 4, s1.heap.objs.size + 2, s1.heap.objs.size + 3, s1.heap.objs.size, s1.heap.objs.size + 1], _, _, H1, rfl, I2, turn_zipS (PySem.W.ktu_apart s1.heap.objs.size a b p1.lt p2.lt), ⟨hz, hTI, ⟨_, _, hTO⟩, h1, h2⟩, fun c hcm => ?_, q⟩
  have e' : c = s1.heap.objs.size + 4 ∨ c = s1.heap.objs.size + 2 ∨ c = s1.heap.objs.size + 3 ∨ c = s1.heap.objs.size ∨ c = s1.heap.objs.size + 1 := by simpa using hcm
  have hle : s1.heap.objs.size ≤ c := by
    rcases e' with z | z | z | z | z
    · rw [z]; exact Nat.le_add_right _ _
    · rw [z]; exact Nat.le_add_right _ _
    · rw [z]; exact Nat.le_add_right _ _
    · rw [z]; exact Nat.le_refl _
    · rw [z]; exact Nat.le_add_right _ _
  exact I1.fpOk hle (I1.hok.fresh hle)
theorem pi_zipS {X : Cx} {e e2 : Expr} {ta : TA} {p pos tpos : Pos} {elts : List Expr} {kk : Nat} (hg : Gl X "zip") (hm : X.mg "zip" = none) (ha : PA X [e, e2] ta)
    (hs : starEach [e, e2] X.env = (false, eval e X.env) :: starEach [e2] X.env) (hpl : (backTo pos (starEach [e2] X.env)).any (·.1) = false) :
    PI X (.Tuple elts kk tpos) (.Call (.Name "zip" p) [e, e2] [] pos) (iZipS X.K false ta) := by
  refine ⟨fun pins s σ H R I h => ?_⟩
  refine Call_ (ld_blt I hg hm PyProof.Rows.boot_zip (PyProof.Rows.callWith_type1 (thn (ha.run pos pins s σ H _ I h) fun us s1 ⟨vs, H1, I1, r1, q1⟩ => ?_) hs hpl))
  obtain ⟨t1, t2, a, b, xs, ys, ex, hqx, hqy, q⟩ := q1
  subst ex
  cases r1 with
  | cons r rr =>
    cases rr with
    | cons r' rr =>
      cases rr
      cases r
      cases r'
      obtain ⟨its, rv, p1, _⟩ := Inv.sqv I1 hqx
      obtain ⟨its2, rv2, p2, _⟩ := Inv.sqv I1 hqy
      exact call_zipS p1 p2 (zipS_start I1 p1 p2 q)
end PyI

namespace PyI
open PySem PySem.Spec PyProof.Rows L2
section
variable {M : Model} {A : Around} {E : Value → Shared → Prop} {s : Shared} {env : Env}
theorem callWith_type_kwB {pos : Pos} {T : String} {first : List Value} {args : List (Bool × Sem Value)} {keywords : List (Option Str × Sem Value)} {Q : Value → Shared → Prop}
    (hplain : args.any (·.1) = false) (hkw : keywords.any (·.1.isNone) = false)
    (h : wpAny M A (evalArgs (.type T) true args keywords) (fun a s₁ => wpAny M A (call (.type T) (first ++ a.pos) a.kw) Q E s₁) E s) :
    wpAny M A (callWith pos (.type T) first args keywords) Q E s := by
  unfold callWith
  refine wpAny_bind (wpAny_holding (wpAny_mono h (fun a s₁ h₁ => wpAny_bind (wpAny_standAt ?_)) fun _ _ x => x))
  simp only [hplain, hkw, Bool.or_false]
  refine wpAny_bind (wpAny_pure ?_)
  exact wpAny_bind (wpAny_mono h₁ (fun r s₂ hr => wpAny_bind (wpAny_holding (wpAny_point (wpAny_pure hr)))) fun _ _ x => x)
end
theorem pi_zipT {X : Cx} {e e2 : Expr} {ta : TA} {p pos tpos cp kp : Pos} {ck : Nat} {elts : List Expr} {kk : Nat} (hg : Gl X "zip") (hm : X.mg "zip" = none) (ha : PA X [e, e2] ta)
    (hs : starEach [e, e2] X.env = (false, eval e X.env) :: starEach [e2] X.env) (hpl : (backTo pos (starEach [e, e2] X.env)).any (·.1) = false) :
    PI X (.Tuple elts kk tpos) (.Call (.Name "zip" p) [e, e2] [⟨some "strict", .Constant (.bool true) ck cp, kp⟩] pos) (iZipS X.K true ta) := by
  refine ⟨fun pins s σ H R I h => ?_⟩
  refine wpAny_Call_Name_kw (ld_blt I hg hm PyProof.Rows.boot_zip ?_ (by decide) (by decide))
  refine callWith_type_kwB (first := []) hpl rfl ?_
  have e0 : backTo pos (starEach [e, e2] X.env) = (false, eval e X.env) :: backTo pos (starEach [e2] X.env) := by rw [hs]; rfl
  have ha' := ha.run pos pins s σ H _ I h
  rw [e0] at ha' ⊢
  refine evalArgs_kwB rfl (thn ha' fun us s1 ⟨vs, H1, I1, r1, q1⟩ => kws_cons ?_)
  obtain ⟨t1, t2, a, b, xs, ys, ex, hqx, hqy, q⟩ := q1
  subst ex
  cases r1 with
  | cons r rr =>
    cases rr with
    | cons r' rr =>
      cases rr
      cases r
      cases r'
      obtain ⟨its, rv, p1, _⟩ := Inv.sqv I1 hqx
      obtain ⟨its2, rv2, p2, _⟩ := Inv.sqv I1 hqy
      refine thn ((pe_bl (X := X) (b := true) (pos := cp) (j := ck)).run pins s1 σ H1 (fun v H2 => v = .bl true ∧ H2 = H1) I1 ⟨rfl, rfl⟩) fun v s2 ⟨x, H2, I2, rx, e1, e2⟩ => ?_
      subst e1 e2
      obtain rfl : v = Value.bool true := rx
      refine kws_nil ?_
      obtain ⟨its, rv, p1, _⟩ := Inv.sqv I2 hqx
      obtain ⟨its2, rv2, p2, _⟩ := Inv.sqv I2 hqy
      exact call_zipT p1 p2 (zipS_start I2 p1 p2 q)
end PyI

namespace PyI
open PySem PySem.Spec PyProof.Rows L2
def isTupW : W → Bool
  | .tup _ => true
  | _ => false
section
variable {G : GE} {Γ : Glo} {cu : Option Cu} {Wi : WX} {X : Cx} {g g' g1 : Gh} {M M' M1 : Store} {H H' H1 : Hp} {σ : L2.St} {l : LM} {N : List Str} {sc : Scope} {calm : Bool} {a b c : Expr} {sa sb s_c : Sm} {pos : Pos} {k : Nat}
theorem vS_sq {w : W} {ws : List W} {v : V} (ab : Abs G g M H) (h : vS M w = some ws) (r : RW G g M H w v) : ∃ p vs, v = .ref p ∧ SqV (isTupW w) G.K H p vs ∧ RWs G g M H ws vs := by
  cases w with
  | tup us =>
    obtain ⟨p, vs, rfl, h2, h3⟩ := r
    cases h
    exact ⟨p, vs, rfl, h2.sq, h3⟩
  | lst us =>
    obtain ⟨p, vs, e, h2, h3⟩ := vL_ok ab (show vL M (.lst us) = some ws from h) r
    exact ⟨p, vs, e, .inl h2, h3⟩
  | scr ns =>
    obtain ⟨p, rfl, h2⟩ := r
    cases h
    exact ⟨p, _, rfl, h2.sq, ints_rws ns⟩
  | ref n =>
    obtain ⟨p, vs, e, h2, h3⟩ := vL_ok ab (show vL M (.ref n) = some ws from h) r
    exact ⟨p, vs, e, .inl h2, h3⟩
  | _ => cases h
/-! ### zip of any two sequences as a loop's source -/
theorem src_zipAny {pa pb : Addr} {st : Bool} {kd : Itk} {w y : W} {items : List W}
    (hit : ∀ M, itemsW kd [w, y] M = some items → ∃ ws us, vS M w = some ws ∧ vS M y = some us ∧ items = ws.zipWith (fun u v => W.tup [u, v]) us ∧ (st = true → ws.length = us.length)) :
    ISrc G (ItzS G.K st (isTupW w) (isTupW y) pa pb) kd [w, y] [.ref pa, .ref pb] items := by
  intro g M H ab r hi
  obtain ⟨ws, us, h1, h2, rfl, hst⟩ := hit M hi
  obtain ⟨v', u', e3, rv', ru'⟩ := r.two_inv
  cases e3
  obtain ⟨p, xs, e, sq, r1⟩ := vS_sq ab h1 rv'
  cases e
  obtain ⟨p, ys, e, sq2, r2⟩ := vS_sq ab h2 ru'
  cases e
  have l1 := r1.length
  have l2 := r2.length
  have hlen : (ws.zipWith (fun u v => W.tup [u, v]) us).length = min xs.length ys.length := by rw [List.length_zipWith, l1, l2]
  refine ⟨fun i z hz => ?_, ⟨xs, ys, sq, sq2, ?_⟩⟩
  · have hi := (List.getElem?_eq_some_iff.mp hz).1
    rw [hlen] at hi
    have hx : xs[i]? = some xs[i] := List.getElem?_eq_getElem (by omega)
    have hy : ys[i]? = some ys[i] := List.getElem?_eq_getElem (by omega)
    have hw : ws[i]? = some (ws[i]'(by omega)) := List.getElem?_eq_getElem _
    have hu : us[i]? = some (us[i]'(by omega)) := List.getElem?_eq_getElem _
    rw [List.getElem?_zipWith, hw, hu] at hz
    cases hz
    obtain ⟨v1, m1, m2⟩ := r1.get hw
    obtain ⟨v2, m3, m4⟩ := r2.get hu
    rw [hx] at m1; cases m1
    rw [hy] at m3; cases m3
    refine ⟨⟨xs, ys, _, _, sq, sq2, hx, hy⟩, fun x H' hyl => ?_⟩
    obtain ⟨T, x', y', rfl, hT, rfl, hx', hy'⟩ := hyl
    have q1 := hx' xs sq
    have q2 := hy' ys sq2
    rw [hx] at q1; cases q1
    rw [hy] at q2; cases q2
    exact ab.newTup hT (.cons m2 (.one m4))
  · rw [hlen]
    cases st with
    | false => left; exact ⟨rfl, by omega⟩
    | true => right; have := hst rfl; omega
theorem pi_zipG {elts : List Expr} {kk : Nat} {tpos : Pos} {st : Bool} {kd : Itk} {it : Expr} (hK : X.K = G.K)
    (hp : PI X (.Tuple elts kk tpos) it (iZipS X.K st (TAof G cu Wi (evEs [sa, sb]))))
    (hit : ∀ w y M items, itemsW kd [w, y] M = some items → ∃ ws us, vS M w = some ws ∧ vS M y = some us ∧ items = ws.zipWith (fun u v => W.tup [u, v]) us ∧ (st = true → ws.length = us.length)) :
    PI X (.Tuple elts kk tpos) it (iOf G cu Wi kd (evEs [sa, sb])) := by
  refine hp.imp fun σ H R h => ?_
  refine TOf.imp (ta_len h) fun xs H1 ⟨hl, g1, M1, vs, items, a1, rws, hi, hR⟩ => ?_
  match vs, rws, hi, hR with
  | [], rws, _, _ => rw [← rws.length] at hl; cases hl
  | [_], rws, _, _ => rw [← rws.length] at hl; cases hl
  | _ :: _ :: _ :: _, rws, _, _ => rw [← rws.length] at hl; simp at hl
  | [w, y], rws, hi, hR =>
    obtain ⟨v, u, e1, rv, ru⟩ := rws.two_inv
    obtain ⟨ws, us, h1, h2, _, _⟩ := hit w y M1 items hi
    obtain ⟨q, ys, e, k1, k2⟩ := vS_sq a1 h1 rv
    subst e
    obtain ⟨q2, zs, e, k3, k4⟩ := vS_sq a1 h2 ru
    subst e
    subst e1
    exact ⟨_, _, q, q2, ys, zs, rfl, by rw [hK]; exact k1, by rw [hK]; exact k3, by rw [hK]; exact hR _ (src_zipAny fun M => hit w y M items)⟩
theorem hit_zip (w y : W) (M : Store) (items : List W) (h : itemsW .zip [w, y] M = some items) : ∃ ws us, vS M w = some ws ∧ vS M y = some us ∧ items = ws.zipWith (fun u v => W.tup [u, v]) us ∧ (false = true → ws.length = us.length) := by
  have h : ((vS M w).bind fun x => (vS M y).map fun y => x.zipWith (fun u v => W.tup [u, v]) y) = some items := h
  obtain ⟨ws, h1, h⟩ := Option.bind_eq_some_iff.mp h
  obtain ⟨us, h2, h3⟩ := Option.map_eq_some_iff.mp h
  exact ⟨ws, us, h1, h2, h3.symm, fun e => by cases e⟩
theorem hit_zips (w y : W) (M : Store) (items : List W) (h : itemsW .zips [w, y] M = some items) : ∃ ws us, vS M w = some ws ∧ vS M y = some us ∧ items = ws.zipWith (fun u v => W.tup [u, v]) us ∧ (true = true → ws.length = us.length) := by
  have h : ((vS M w).bind fun x => (vS M y).bind fun y => if x.length = y.length then some (x.zipWith (fun u v => W.tup [u, v]) y) else none) = some items := h
  obtain ⟨ws, h1, h⟩ := Option.bind_eq_some_iff.mp h
  obtain ⟨us, h2, h3⟩ := Option.bind_eq_some_iff.mp h
  split at h3
  · rename_i hl
    cases h3
    exact ⟨ws, us, h1, h2, rfl, fun _ => hl⟩
  · cases h3
theorem pi_zipW {elts : List Expr} {kk : Nat} {p tpos : Pos} (Gd : Good G N sc calm X) (hg : Gl X "zip") (ha : PX G cu Wi X a sa) (hb : PX G cu Wi X b sb) :
    PI X (.Tuple elts kk tpos) (.Call (.Name "zip" p) [a, b] [] pos) (iOf G cu Wi .zip (evEs [sa, sb])) :=
  pi_zipG Gd.K (pi_zipS hg (Gd.blt _ (by decide +kernel)) (PXs.pa (.cons ha (.cons hb .nil))) (starEach_cons ha.ns) ((PXs.cons hb .nil).stars pos)) hit_zip
theorem pi_zipsW {elts : List Expr} {kk ck : Nat} {p tpos cp kp : Pos} (Gd : Good G N sc calm X) (hg : Gl X "zip") (ha : PX G cu Wi X a sa) (hb : PX G cu Wi X b sb) :
    PI X (.Tuple elts kk tpos) (.Call (.Name "zip" p) [a, b] [⟨some "strict", .Constant (.bool true) ck cp, kp⟩] pos) (iOf G cu Wi .zips (evEs [sa, sb])) :=
  pi_zipG Gd.K (pi_zipT hg (Gd.blt _ (by decide +kernel)) (PXs.pa (.cons ha (.cons hb .nil))) (starEach_cons ha.ns) ((PXs.cons ha (.cons hb .nil)).stars pos)) hit_zips
end
end PyI

namespace PyI
open PySem PySem.Spec PyProof.Rows L2
theorem RoomG.in1 {k : Nat} {A : Around} (r : RoomG (k + 1) A) : RoomG k A.in1 := ⟨r.room.in1, r.gd⟩
section
variable {G : GE} {Γ : Glo} {cu : Option Cu} {Wi : WX} {X : Cx} {g g' g1 : Gh} {M M' M1 : Store} {H H' H1 : Hp} {σ : L2.St} {l : LM} {N : List Str} {sc : Scope} {calm : Bool} {a b c : Expr} {sa sb s_c : Sm} {pos : Pos} {k : Nat}
/-- a def runs, in the context A -/
theorem run_defA {A : Around} {f : Addr} {fi : FnI} {pins : List (Addr × Obj)} {s : Shared} {Q : VK} {us : List Value} {vs : List V} (hK : X.K = G.K) (F : FnP G X.prog X.w X.mg X.base k f fi) (hr : RoomG k A) (hA : A.frames = X.A.frames) (tk : Takes X Wi) (I : Inv X pins σ H s)
    (hf : fitB fi us.length [] = true) (r1 : Vals vs us) (h : spOf G fi.ps.length fi.sem vs H Q (fun c d H' => Wi c d σ H')) : wpAny (model X.prog X.w) A (call (.ref f) us) (EP X pins σ Q) X.xe s := by
  obtain ⟨fd, F1, F2⟩ := F.ex
  simp only [fitB, Bool.and_eq_true, decide_eq_true_eq] at hf
  obtain ⟨⟨h1, h2⟩, h3⟩ := hf
  have hb := F2 s us [] [] (by simpa using h3) rfl (by simpa using h2)
  have e0 : Env0 X.prog X.w X.K X.mg X.base A X.stack s H := by
    have e := I.env0
    exact ⟨by rw [hA]; exact e.frames, e.mod, e.bs, e.bsz, e.funs, e.frf, e.hok, e.bare⟩
  have F1' : FnG X.prog X.w X.K X.mg X.base k f fd fi.ps (spOf G fi.ps.length fi.sem) := by rw [hK]; exact F1
  refine wpAny_call (codeAny_mono (F1'.run A X.stack s H ⟨us, []⟩ us vs Q _ hr e0 (by rw [r1.length]; exact h2) (by simpa [bindW] using hb) r1 h) fun r s' hq => ?_)
  have hq := res_back tk I (fun _ _ _ q => q) hq
  cases r with
  | error e => exact hq
  | ok fl =>
    cases fl with
    | ret u => exact hq
    | next => exact False.elim hq
    | brk => exact False.elim hq
    | cont => exact False.elim hq
/-- an own method of one argument, called by the machine -/
theorem own_run {A : Around} {cl m : Str} {fi : FnI} {pins : List (Addr × Obj)} {s : Shared} {Q : VK} {w : W} {v : V} (hK : X.K = G.K) (T : Tops G Γ X.prog X.w X.mg X.base k) (hΓ : Γ.mt cl m = some fi) (hr : RoomG k A) (hA : A.frames = X.A.frames) (tk : Takes X Wi) (I : Inv X pins σ H s)
    (hf : fitB fi 1 [] = true) (ab : Abs G g M H) (rw1 : RW G g M H w v) (p : Post G Wi (RW G) g M H σ (ownW Γ cl m true [w] M) Q) :
    ∃ pa C f, v = .ref pa ∧ (∃ dx fs, H pa = some (.ins C dx fs)) ∧ Meth G.K C m f ∧ wpAny (model X.prog X.w) A (call (.ref f) [.ref pa]) (EP X pins σ Q) X.xe s := by
  obtain ⟨C, fa, hC, hcls, Me, F⟩ := T.mt cl m fi hΓ
  have p : Post G Wi (RW G) g M H σ (need (vO M w) fun q => if q.1 = cl ∧ m ∉ q.2.1 then (need (Γ.mt cl m) fun f => fullW f [w].length (callW f.sem true [w] M)) else .err) Q := p
  obtain ⟨⟨c', ns, us'⟩, hv, p⟩ := Post.need p
  dsimp only at p
  split at p
  · rename_i hcm
    obtain ⟨hc1, hc2⟩ := hcm
    subst hc1
    obtain ⟨pa, C', dx, fs, e, hC', hI, hns, hws⟩ := vO_ok ab hv rw1
    rw [hC] at hC'; cases hC'
    subst e
    rw [hΓ] at p
    simp only [need, fullW] at p
    split at p
    · rename_i hfull
      refine ⟨pa, C, fa, rfl, ⟨dx, fs, hI⟩, Me, run_defA hK F hr hA tk I hf (.cons (show RelV (.ref pa) (.ref pa) from rfl) .nil) (call_pass ab (.one rw1) hfull p)⟩
    · exact p.no.elim
  · exact p.no.elim
theorem own_one {cl m x : Str} {p : Pos} {id : String} {f : W → Store → Res W} (Gd : Good G N sc calm X) (hg : Gl X x) (hx : x ∈ bltNames) (hv : bootBuiltins x = some (.builtin id)) (hn : x ≠ "__name__") (hdb : (x == ("__debug__" : Str)) = false) (ha : PX G cu Wi X a sa)
    (h : ∀ (pins : List (Addr × Obj)) (s : Shared) (σ : L2.St) (H : Hp) (Q : VK) (g : Gh) (M : Store) (w : W) (v : V) (u : Value), Inv X pins σ H s → Abs G g M H → RW G g M H w v → RelV v u → Post G Wi (RW G) g M H σ ((ownW Γ cl m true [w] M).bind f) Q → wpAny (model X.prog X.w) X.A (call (.builtin id) [u]) (EP X pins σ Q) X.xe s) :
    PX G cu Wi X (.Call (.Name x p) [a] [] pos) (.of fun l M => (sa.v l M).bind fun w M1 => (ownW Γ cl m true [w] M1).bind f) := by
  refine PX.of Gd.K ⟨fun pins s σ H Q I q => ?_⟩ (fun _ => rfl) rfl
  have q1 := TOf.bind (fa := sa.v) (f := fun _ w M1 => (ownW Γ cl m true [w] M1).bind f) (rel1 := RW G) q
  refine wpAny_Call_Name_kw (ld_blt I hg (Gd.blt _ hx) hv ?_ hn hdb)
  refine PyProof.Rows.callWith_builtin1 (thn ((PXs.pa (.cons ha .nil)).run pos pins s σ H (fun vs H1 => ∃ v, vs = [v] ∧ ∃ g1 M1 l w, At G cu g1 M1 H1 l σ ∧ RW G g1 M1 H1 w v ∧ Post G Wi (RW G) g1 M1 H1 σ ((ownW Γ cl m true [w] M1).bind f) Q) I ?_) fun us s1 ⟨vs, H1, I1, r1, v, ev, g1, M1, l, w, a1, rw1, p1⟩ => ?_) (starEach_cons ha.ns) rfl
  · obtain ⟨g, M, l, a, p⟩ := q1
    refine ⟨g, M, l, a, ?_⟩
    have e : evEs [sa] l M = (sa.v l M).bind fun w M1 => .ok [w] M1 := by
      simp only [evEs]
      cases sa.v l M <;> rfl
    rw [e]
    cases hr : sa.v l M with
    | ok w M1 =>
      rw [hr] at p
      intro g' vs H' a' e' rws
      obtain ⟨v, rfl, r⟩ := RWs.one_inv rws
      exact ⟨v, rfl, p g' v H' a' e' r⟩
    | exc c ns ws M1 => rw [hr] at p; exact p
    | err => rw [hr] at p; exact p
  · subst ev
    cases r1 with
    | cons r rr =>
      cases rr
      exact h pins s1 σ H1 Q g1 M1 w v _ I1 a1.abs rw1 r p1
theorem px_lenU {cl : Str} {fi : FnI} {p : Pos} (Gd : Good G N sc calm X) (T : Tops G Γ X.prog X.w X.mg X.base k) (hr : RoomG (k + 1) X.A) (tk : Takes X Wi) (hΓ : Γ.mt cl "__len__" = some fi) (hf : fitB fi 1 [] = true) (hg : Gl X "len") (ha : PX G cu Wi X a sa) :
    PX G cu Wi X (.Call (.Name "len" p) [a] [] pos) (.of fun l M => (sa.v l M).bind fun w M1 => (ownW Γ cl "__len__" true [w] M1).bind fun r M2 => match r with
    | .int n => if 0 ≤ n ∧ n < 2 ^ 62 then .ok (.int n) M2 else .err
    | _ => .err) := by
  refine own_one Gd hg (by decide +kernel) PySem.boot_len (by decide) (by decide) ha fun pins s σ H Q g M w v u I ab rw1 ru p => ?_
  have p2 := Post.bind (rel1 := RW G) ab.len p
  obtain ⟨pa, C, f, rfl, ⟨dx, fs, hI⟩, Me, h⟩ := own_run (A := X.A.in1) Gd.K T hΓ hr.in1 rfl tk I hf ab rw1 p2
  obtain rfl : u = Value.ref pa := ru
  obtain ⟨mA, J, _⟩ := ins_get I.hok hI
  obtain ⟨od, J, _⟩ := J.look
  obtain ⟨mm, hF⟩ := I.fr
  have Me' : Meth X.K C "__len__" f := by rw [Gd.K]; exact Me
  refine PySem.W.len_K hF I.ok.mod.kin J Me'.at_ Me'.fn (thn h fun u' s' ⟨v', H', I', r', g1, M1, r, a1, e1, rr, p1⟩ => ?_)
  cases r with
  | int n =>
    dsimp only at p1
    split at p1
    · rename_i hb
      rw [show v' = .int n from rr] at r'
      obtain ⟨t, rfl⟩ : ∃ t, u' = Value.int n t := r'
      exact ⟨⟨hb.1, by omega⟩, ⟨.int n, H', I'.tok _, ⟨_, rfl⟩, p1.now a1 rfl⟩⟩
    · exact p1.no.elim
  | _ => exact p1.no.elim
theorem px_reprU {cl : Str} {fi : FnI} {p : Pos} (Gd : Good G N sc calm X) (T : Tops G Γ X.prog X.w X.mg X.base k) (hr : RoomG (k + 1) X.A) (tk : Takes X Wi) (hΓ : Γ.mt cl "__repr__" = some fi) (hf : fitB fi 1 [] = true) (hg : Gl X "repr") (ha : PX G cu Wi X a sa) :
    PX G cu Wi X (.Call (.Name "repr" p) [a] [] pos) (.of fun l M => (sa.v l M).bind fun w M1 => (ownW Γ cl "__repr__" true [w] M1).bind fun r M2 => match r with
    | .str n => .ok (.str n) M2
    | _ => .err) := by
  refine own_one Gd hg (by decide +kernel) PyProof.Rows.boot_repr (by decide) (by decide) ha fun pins s σ H Q g M w v u I ab rw1 ru p => ?_
  have p2 := Post.bind (rel1 := RW G) ab.len p
  obtain ⟨pa, C, f, rfl, ⟨dx, fs, hI⟩, Me, h⟩ := own_run (A := X.A.in1) Gd.K T hΓ hr.in1 rfl tk I hf ab rw1 p2
  obtain rfl : u = Value.ref pa := ru
  obtain ⟨mA, J, _⟩ := ins_get I.hok hI
  obtain ⟨od, J, _⟩ := J.look
  obtain ⟨mm, hF⟩ := I.fr
  have Me' : Meth X.K C "__repr__" f := by rw [Gd.K]; exact Me
  refine PySem.W.repr_K hr.in1.room.units0 hF I.ok.mod.kin J Me'.at_ Me'.fn (thn h fun u' s' ⟨v', H', I', r', g1, M1, r, a1, e1, rr, p1⟩ => ?_)
  cases r with
  | str n =>
    dsimp only at p1
    rw [show v' = .str n from rr] at r'
    obtain ⟨t, rfl⟩ : ∃ t, u' = Value.str n t := r'
    exact ⟨.str n, H', I', ⟨_, rfl⟩, p1.now a1 rfl⟩
  | _ => exact p1.no.elim
end
end PyI

namespace PyI
open PySem PySem.Spec PyProof.Rows L2
theorem ckL_ok {b : Bool} {l : Option (List Ob)} {r : List Ob} (h : ckL b l = some r) : b = true ∧ l = some r := by
  unfold ckL at h
  split at h
  · exact ⟨by assumption, h⟩
  · cases h
theorem ckO_ok {b : Bool} {l r : List Ob} (h : ckO b l = some r) : b = true ∧ l = r := by
  unfold ckO at h
  split at h
  · exact ⟨by assumption, by cases h; rfl⟩
  · cases h
section
variable {G : GE} {Γ : Glo} {k n : Nat}
theorem glo_of {sc : Scope} {X : Cx} {x : Str} (e : X.env.scope = sc) (h : gloB sc x = true) : Gl X x := by
  show X.env.scope.names.lookup x = some .globalImplicit
  rw [e]; simpa [gloB] using h
theorem evL_length {Γ : Glo} {cur : Option Cur} : ∀ es : List E, (evL Γ cur es).length = es.length
  | [] => by simp only [evL]; rfl
  | e :: es => by simp only [evL, List.length_cons, evL_length es]
theorem obs_len : ∀ {es : List E} {C : Ck} {xs : List Expr} {l : List Ob}, obs es C xs = some l → es.length = xs.length
  | [], _, [], _, _ => rfl
  | [], _, _ :: _, _, h => by simp [obs] at h
  | _ :: _, _, [], _, h => by simp [obs] at h
  | e :: es, C, x :: xs, l, h => by
    simp only [obs, Option.map_eq_some_iff] at h
    obtain ⟨l', h, _⟩ := h
    simp [obs_len h]
/-- the promise of the check, for parts of depth n -/
def IHn (G : GE) (Γ : Glo) (k n : Nat) : Prop := ∀ {e : E} {C : Ck} {cur : Option Cur} {cu : Option Cu} {Wi : WX} {X : Cx} {x : Expr}, GC G Γ k cur C cu Wi X → okN Γ n e C x = true → PX G cu Wi X x (ev Γ cur e)
section
variable {cur : Option Cur} {C : Ck} {cu : Option Cu} {Wi : WX} {X : Cx}
def AllOk (Γ : Glo) (n : Nat) (l : List Ob) : Prop := ∀ q ∈ l, okN Γ n q.1 q.2.1 q.2.2 = true
theorem AllOk.app {l1 l2 : List Ob} (h : AllOk Γ n (l1 ++ l2)) : AllOk Γ n l1 ∧ AllOk Γ n l2 := ⟨fun q hq => h q (List.mem_append_left _ hq), fun q hq => h q (List.mem_append_right _ hq)⟩
theorem AllOk.cons {q : Ob} {l : List Ob} (h : AllOk Γ n (q :: l)) : okN Γ n q.1 q.2.1 q.2.2 = true ∧ AllOk Γ n l := ⟨h q (List.mem_cons_self ..), fun p hp => h p (List.mem_cons_of_mem _ hp)⟩
theorem obs_ok (ih : IHn G Γ k n) (g : GC G Γ k cur C cu Wi X) : ∀ {es : List E} {xs : List Expr} {l : List Ob}, obs es C xs = some l → AllOk Γ n l → PXs G cu Wi X xs (evL Γ cur es)
  | [], [], _, _, _ => by simp only [evL]; exact .nil
  | [], _ :: _, _, h, _ => by simp [obs] at h
  | _ :: _, [], _, h, _ => by simp [obs] at h
  | e :: es, x :: xs, l, h, a => by
    simp only [obs, Option.map_eq_some_iff] at h
    obtain ⟨l', h, rfl⟩ := h
    simp only [evL]
    exact .cons (ih g a.cons.1) (obs_ok ih g h a.cons.2)
theorem iter_pi {N : List Str} {k : Itk} {tg iter : Expr} {zs : List Expr} {ss : List Sm} (Gd : Good G N C.sc C.calm X) (h : iterArgs C k tg iter = some zs) (hx : PXs G cu Wi X zs ss) : PI X tg iter (iOf G cu Wi k (evEs ss)) := by
  unfold iterArgs at h
  split at h
  · cases h
    obtain ⟨s, rfl, z⟩ := hx.inv1
    exact pi_seq Gd.K z
  · split at h
    · rename_i hb
      cases h
      simp only [Bool.and_eq_true, decide_eq_true_eq] at hb
      obtain ⟨rfl, z2⟩ := hb
      obtain ⟨s, rfl, z⟩ := hx.inv1
      exact pi_rng1 Gd (glo_of Gd.sc z2) z
    · cases h
  · split at h
    · rename_i hb
      cases h
      simp only [Bool.and_eq_true, decide_eq_true_eq] at hb
      obtain ⟨rfl, z2⟩ := hb
      obtain ⟨s, s2, rfl, z, z'⟩ := hx.inv2
      exact pi_rng2 Gd (glo_of Gd.sc z2) z z'
    · cases h
  · split at h
    · rename_i hb
      cases h
      simp only [Bool.and_eq_true, decide_eq_true_eq] at hb
      obtain ⟨⟨rfl, z2⟩, z3⟩ := hb
      obtain ⟨s, rfl, z⟩ := hx.inv1
      cases tg <;> first | (cases z3; done) | skip
      exact pi_enumW Gd (glo_of Gd.sc z2) z
    · cases h
  · split at h
    · rename_i hb
      cases h
      simp only [Bool.and_eq_true, decide_eq_true_eq] at hb
      obtain ⟨⟨rfl, z2⟩, z3⟩ := hb
      obtain ⟨s, s2, rfl, z, z'⟩ := hx.inv2
      cases tg <;> first | (cases z3; done) | skip
      exact pi_zipW Gd (glo_of Gd.sc z2) z z'
    · cases h
  · split at h
    · rename_i hb
      cases h
      simp only [Bool.and_eq_true, decide_eq_true_eq] at hb
      obtain ⟨⟨⟨⟨rfl, z2⟩, z3⟩, rfl⟩, rfl⟩ := hb
      obtain ⟨s, s2, rfl, z, z'⟩ := hx.inv2
      cases tg <;> first | (cases z3; done) | skip
      exact pi_zipsW Gd (glo_of Gd.sc z2) z z'
    · cases h
  · cases h
theorem ask_of (e : X.env.scope = C.sc) : ∀ {cs : List (Str × Bool)} {xs : List Expr}, askB Γ C cs xs = true → AskN X cs xs ∧ cs.all (qOk Γ) = true
  | [], [], _ => ⟨.nil, rfl⟩
  | [], _ :: _, h => by simp [askB] at h
  | _ :: _, [], h => by simp [askB] at h
  | q :: cs, x :: xs, h => by
    simp only [askB, Bool.and_eq_true] at h
    obtain ⟨i1, i2⟩ := ask_of e h.2
    have h1 := h.1
    split at h1
    · rename_i m p
      simp only [Bool.and_eq_true, decide_eq_true_eq] at h1
      obtain ⟨⟨⟨rfl, h3⟩, h4⟩, h5⟩ := h1
      exact ⟨.cons (glo_of e h3) (dbg_of h4).1 i1, by rw [List.all_cons, h5, i2]; rfl⟩
    · cases h1
theorem sh_prm {p : Prm} {as : List E} {x : Expr} {l : List Ob} (ih : IHn G Γ k n) (g : GC G Γ k cur C cu Wi X) (h : shPrm p as C x = some l) (ha : AllOk Γ n l) : PX G cu Wi X x (ev Γ cur (.prm p as)) := by
  simp only [ev]
  unfold shPrm at h
  split at h
  · replace h := ckL_ok h; obtain ⟨hb, h⟩ := h
    simp only [decide_eq_true_eq] at hb
    subst hb
    obtain ⟨s, t, e, h3, h4⟩ := (obs_ok ih g h ha).inv2
    rw [e]
    exact px_bin g.g.K h3 h4
  · replace h := ckL_ok h; obtain ⟨hb, h⟩ := h
    simp only [Bool.and_eq_true, decide_eq_true_eq, Bool.not_eq_true'] at hb
    obtain ⟨rfl, hm⟩ := hb
    obtain ⟨s, t, e, h3, h4⟩ := (obs_ok ih g h ha).inv2
    rw [e]
    exact px_cmp g.g.K g.g.un h3 h4 hm
  · obtain ⟨s, e, h3⟩ := (obs_ok ih g h ha).inv1
    rw [e]
    exact px_neg g.g.K h3
  · replace h := ckL_ok h; obtain ⟨hb, h⟩ := h
    obtain ⟨s, t, e, h3, h4⟩ := (obs_ok ih g h ha).inv2
    rw [e]
    exact px_idx g.g.K g.g.un h3 h4 hb
  · split at h
    · obtain ⟨s, e, h3⟩ := (obs_ok ih g h ha).inv1
      rw [e]
      exact px_slc0 g.g.K h3
    · obtain ⟨s, t, e, h3, h4⟩ := (obs_ok ih g h ha).inv2
      rw [e]
      exact px_slcL g.g.K h3 h4
    · obtain ⟨s, t, e, h3, h4⟩ := (obs_ok ih g h ha).inv2
      rw [e]
      exact px_slcH g.g.K h3 h4
    · cases h
  · exact px_tup g.g.K (obs_ok ih g h ha)
  · exact px_lst g.g.K (obs_ok ih g h ha)
  · rename_i fz ks keys values pos
    replace h := ckL_ok h; obtain ⟨hb, h⟩ := h
    simp only [Bool.and_eq_true, decide_eq_true_eq] at hb
    obtain ⟨⟨⟨h1, h2⟩, h3⟩, h4⟩ := hb
    have hx := obs_ok ih g h ha
    obtain ⟨k1, k2, k3⟩ := keys_pps (pos := pos) h2 h4 hx
    have hl := hx.length
    cases keys with
    | nil =>
      have e1 : values = [] := List.eq_nil_of_length_eq_zero h4
      have e2 : ks = [] := List.eq_nil_of_length_eq_zero k2.symm
      subst e1 e2
      have e3 : evL Γ cur as = [] := List.eq_nil_of_length_eq_zero hl.symm
      rw [e3]
      exact px_dsp0 g.g.K
    | cons y keys => exact px_dsp g.g.K (g.cuN h1) k1 (by rw [← k2, ← hl, h4]) k2 hl k3 (by simp) h3
  · rename_i b fz f p xs pos
    replace h := ckL_ok h; obtain ⟨hb, h⟩ := h
    simp only [Bool.and_eq_true, decide_eq_true_eq] at hb
    obtain ⟨⟨⟨rfl, h2⟩, h3⟩, h4⟩ := hb
    have hx := obs_ok ih g h ha
    generalize evL Γ cur as = ss at hx ⊢
    cases hx with
    | nil => simp at h4
    | cons k1 k2 => exact px_blt g.g (fun hb => g.g.calm (by simpa [hb] using h3)) (glo_of g.g.sc h2) k1 k2
  · replace h := ckL_ok h; obtain ⟨hb, h⟩ := h
    simp only [Bool.and_eq_true, decide_eq_true_eq] at hb
    obtain ⟨⟨⟨⟨h1, rfl⟩, h3⟩, rfl⟩, h5⟩ := hb
    obtain ⟨s, t, e, h6, h7⟩ := (obs_ok ih g h ha).inv2
    rw [e]
    exact px_lzip g.g (g.g.calm h1) (glo_of g.g.sc h3) (glo_of g.g.sc h5) h6 h7
  · cases h
theorem sh_mth {m : Mt} {fz : Bool} {o : E} {as : List E} {x : Expr} {l : List Ob} (ih : IHn G Γ k n) (g : GC G Γ k cur C cu Wi X) (h : shMth m o as C x = some l) (ha : AllOk Γ n l) : PX G cu Wi X x (ev Γ cur (.mth m fz o as)) := by
  simp only [ev]
  unfold shMth at h
  split at h
  · replace h := ckL_ok h; obtain ⟨hb, h⟩ := h
    simp only [Bool.and_eq_true, decide_eq_true_eq] at hb
    obtain ⟨⟨⟨⟨h1, rfl⟩, h3⟩, h4⟩, h5⟩ := hb
    have hx := obs_ok ih g h ha
    simp only [evL] at hx
    cases hx with
    | cons k1 k2 => exact px_mth g.g.K h1 h3 h4 h5 k1 k2
  · cases h
theorem sh_call {f : Str} {fz : Bool} {as : List E} {ks : List Str} {x : Expr} {l : List Ob} (ih : IHn G Γ k n) (g : GC G Γ k cur C cu Wi X) (h : shCall Γ f as ks C x = some l) (ha : AllOk Γ n l) : PX G cu Wi X x (ev Γ cur (.call f fz as ks)) := by
  simp only [ev]
  unfold shCall at h
  split at h
  · rename_i g' p xs kws pos
    replace h := ckL_ok h; obtain ⟨hb, h⟩ := h
    simp only [Bool.and_eq_true, decide_eq_true_eq] at hb
    obtain ⟨⟨⟨⟨⟨h1, rfl⟩, h3⟩, h4⟩, h5⟩, h6⟩ := hb
    split at h5
    · rename_i fi hfi
      obtain ⟨s, t, e, h8, h9⟩ := (obs_ok ih g h ha).app_inv
      rw [e]
      refine px_call g.g.K g.top ((g.room h1).mono (by omega)) g.tk hfi (glo_of g.g.sc h3) (dbg_of h4).1 h8 h9 h6 ?_
      rw [List.length_append, ← h8.length, ← h9.length, List.length_map]
      exact h5
    · cases h5
  · cases h
theorem sh_make {c : Str} {fz : Bool} {as : List E} {ks : List Str} {x : Expr} {l : List Ob} (ih : IHn G Γ k n) (g : GC G Γ k cur C cu Wi X) (h : shMake Γ c as ks C x = some l) (ha : AllOk Γ n l) : PX G cu Wi X x (ev Γ cur (.make c fz as ks)) := by
  simp only [ev]
  unfold shMake at h
  split at h
  · rename_i g' p xs kws pos
    replace h := ckL_ok h; obtain ⟨hb, h⟩ := h
    simp only [Bool.and_eq_true, decide_eq_true_eq] at hb
    obtain ⟨⟨⟨⟨⟨h1, rfl⟩, h3⟩, h4⟩, h5⟩, h6⟩ := hb
    split at h5
    · rename_i fi hfi
      obtain ⟨s, t, e, h8, h9⟩ := (obs_ok ih g h ha).app_inv
      rw [e]
      refine px_make g.g.K g.top ((g.room h1).mono (by omega)) g.tk hfi (glo_of g.g.sc h3) (dbg_of h4).1 h8 h9 h6 ?_
      rw [List.length_append, ← h8.length, ← h9.length, List.length_map]
      exact h5
    · cases h5
  · cases h
theorem meth_eq {o : Expr} {m : Str} {apos pos : Pos} {xs : List Expr} {kws : List Keyword} {ks : List Str} {ss : List Sm} {env : Env} (he : X.env = env) (hb : baseB o = true) (hl : (apos.endLine == pos.line) = true) (hx : PXs G cu Wi X xs ss) (hn : kws.map (·.arg) = ks.map some) (hlen : xs.length + kws.length < 28) :
    eval (.Call (.Attribute o m apos) xs kws pos) X.env = (do
      let ov ← eval o X.env
      standAt apos.atName
      let (f, first) ← holding [ov] (getMethod ov m (plainOf o X.env))
      callWith pos f first (backTo pos (starEach xs X.env)) (backToKw pos (keywordEach kws X.env))) := by
  have e := hx.stars pos
  have e1 : (backTo pos (starEach xs X.env)).all (fun x => !x.1) = true := by
    rw [List.all_eq_true]
    rw [List.any_eq_false] at e
    intro y hy
    simpa using e y hy
  obtain ⟨e2, _, _⟩ := kw_all (env := X.env) (pos := pos) hn
  have few : methodCallForm (xs.length + kws.length) (backTo pos (starEach xs X.env)) (backToKw pos (keywordEach kws X.env)) = true := by
    unfold methodCallForm
    rw [e1, e2]
    simp only [Bool.and_self, Bool.true_and, decide_eq_true_eq]
    split <;> omega
  have e0 : eval (.Call (.Attribute o m apos) xs kws pos) X.env = (do
      let ov ← attributeBase o m X.env (eval o X.env)
      standAt apos.atName
      methodCall o m apos pos X.env ov (xs.length + kws.length) (backTo pos (starEach xs X.env)) (backToKw pos (keywordEach kws X.env))) := by
    rfl
  rw [e0, base_of hb]
  refine congrArg _ (funext fun ov => ?_)
  refine congrArg _ (funext fun _ => ?_)
  exact mcall_line few hl
theorem sh_meth {c m : Str} {fz : Bool} {o : E} {as : List E} {ks : List Str} {x : Expr} {l : List Ob} (ih : IHn G Γ k n) (g : GC G Γ k cur C cu Wi X) (h : shMeth Γ c m o as ks C x = some l) (ha : AllOk Γ n l) : PX G cu Wi X x (ev Γ cur (.meth c m fz o as ks)) := by
  simp only [ev]
  unfold shMeth at h
  split at h
  · rename_i y f apos xs kws pos
    replace h := ckL_ok h; obtain ⟨hb, h⟩ := h
    simp only [Bool.and_eq_true, decide_eq_true_eq] at hb
    obtain ⟨⟨⟨⟨⟨⟨h1, rfl⟩, h3⟩, h4⟩, h5⟩, h6⟩, h7⟩ := hb
    split at h6
    · rename_i fi hfi
      have hx := obs_ok ih g h ha
      simp only [evL] at hx
      cases hx with
      | cons k1 k2 =>
        obtain ⟨s, t, e, h8, h9⟩ := k2.app_inv
        rw [e]
        refine px_meth g.g.K g.top ((g.room h1).mono (by omega)) g.tk hfi h3 k1 h8 h9 h7 ?_ (meth_eq rfl h3 h4 h8 h7 h5)
        rw [List.length_append, ← h8.length, ← h9.length, List.length_map]
        exact h6
    · cases h6
  · cases h
theorem sh_isi {single : Bool} {cs : List (Str × Bool)} {a : E} {x : Expr} {l : List Ob} (ih : IHn G Γ k n) (g : GC G Γ k cur C cu Wi X) (h : shIsi Γ single cs a C x = some l) (ha : AllOk Γ n l) : PX G cu Wi X x (ev Γ cur (.isi single cs a)) := by
  simp only [ev]
  unfold shIsi at h
  split at h
  · replace h := ckL_ok h; obtain ⟨hb, h⟩ := h
    simp only [Bool.and_eq_true, decide_eq_true_eq] at hb
    obtain ⟨rfl, h2⟩ := hb
    split at h
    · replace h := ckO_ok h; obtain ⟨hb, rfl⟩ := h
      simp only [Bool.and_eq_true, decide_eq_true_eq] at hb
      obtain ⟨⟨⟨rfl, h5⟩, h6⟩, h7⟩ := hb
      exact px_isi1 g.g g.top (ih g ha.cons.1) (glo_of g.g.sc h2) (glo_of g.g.sc h5) (dbg_of h6).1 h7
    · replace h := ckO_ok h; obtain ⟨hb, rfl⟩ := h
      simp only [Bool.and_eq_true, decide_eq_true_eq] at hb
      obtain ⟨h3, h4⟩ := hb
      obtain ⟨h5, h6⟩ := ask_of g.g.sc h3
      exact px_isiT g.g g.top (ih g ha.cons.1) (glo_of g.g.sc h2) h5 h6 (by rw [sizeLine_eq]; omega)
    · cases h
  · cases h
theorem sh_lc {fz : Bool} {own : List (Str × Nat)} {kd : Itk} {src : List E} {t : Tg} {cond : List E} {elt : E} {x : Expr} {l : List Ob} (ih : IHn G Γ k n) (g : GC G Γ k cur C cu Wi X) (h : shLc own kd src t cond elt C x = some l) (ha : AllOk Γ n l) : PX G cu Wi X x (ev Γ cur (.lc fz own kd src t cond elt)) := by
  simp only [ev]
  unfold shLc at h
  split at h
  · rename_i y tg iter ifs scope pos
    replace h := ckL_ok h; obtain ⟨hb, h⟩ := h
    obtain ⟨zs, hz, h⟩ := Option.bind_eq_some_iff.mp h
    obtain ⟨l1, hl1, h⟩ := Option.bind_eq_some_iff.mp h
    obtain ⟨l2, hl2, rfl⟩ := Option.map_eq_some_iff.mp h
    simp only [Bool.and_eq_true, decide_eq_true_eq, List.all_eq_true] at hb
    obtain ⟨⟨⟨⟨⟨h1, h2⟩, h3⟩, h4⟩, h5⟩, h6⟩ := hb
    obtain ⟨a1, a2⟩ := ha.cons
    obtain ⟨a3, a4⟩ := a2.app
    have hcu := g.cuN h1
    subst hcu
    have hcur : cur = none := by rw [← g.cur]; rfl
    subst hcur
    have hb : ∀ (s : Shared) (H : Hp) (C' : Addr) (cl : List (Str × Addr)) (fp : List Addr), GC G Γ k none (blkC C scope) none W0 (X.blk s H scope (compEnvC scope cl C' X.env) fp) := fun s H C' cl fp => g.blk h1
    have hcl : (evL Γ none cond).length ≤ 1 := by rw [evL_length, obs_len hl2]; exact h5
    refine PX.of g.g.K ((pe_lc (own := own) (te := TEof G none W0 (ev Γ none elt).v) (tt := ttOf G (evL Γ none cond)) (g.g.calm h1) (by rw [g.g.xN]; exact g.g.nd) (iter_pi g.g hz (obs_ok ih g hl1 a4)) (by rw [g.g.xN, g.g.sc]; exact blk_of h2)
      (fun s H C' cl fp => okTg_ok (hb s H C' cl fp) h1 h6) (fun s H C' cl fp => pts_of' h5 (obs_ok ih (hb s H C' cl fp) hl2 a3)) (fun s H C' cl fp => (ih (hb s H C' cl fp) a1).pe) (fold_of h4)).imp fun σ H Q q => lc_ok h3 (tt_of hcl) q) (fun _ => rfl) rfl
  · cases h
theorem sh_dc {fz : Bool} {own : List (Str × Nat)} {kd : Itk} {src : List E} {t : Tg} {cond : List E} {key val : E} {x : Expr} {l : List Ob} (ih : IHn G Γ k n) (g : GC G Γ k cur C cu Wi X) (h : shDc own kd src t cond key val C x = some l) (ha : AllOk Γ n l) : PX G cu Wi X x (ev Γ cur (.dc fz own kd src t cond key val)) := by
  simp only [ev]
  unfold shDc at h
  split at h
  · rename_i y z tg iter ifs scope pos
    replace h := ckL_ok h; obtain ⟨hb, h⟩ := h
    obtain ⟨zs, hz, h⟩ := Option.bind_eq_some_iff.mp h
    obtain ⟨l1, hl1, h⟩ := Option.bind_eq_some_iff.mp h
    obtain ⟨l2, hl2, rfl⟩ := Option.map_eq_some_iff.mp h
    simp only [Bool.and_eq_true, decide_eq_true_eq, List.all_eq_true] at hb
    obtain ⟨⟨⟨⟨⟨h1, h2⟩, h3⟩, h4⟩, h5⟩, h6⟩ := hb
    obtain ⟨a1, a2⟩ := ha.cons
    obtain ⟨a0, a2⟩ := a2.cons
    obtain ⟨a3, a4⟩ := a2.app
    have hcu := g.cuN h1
    subst hcu
    have hcur : cur = none := by rw [← g.cur]; rfl
    subst hcur
    have hb : ∀ (s : Shared) (H : Hp) (C' : Addr) (cl : List (Str × Addr)) (fp : List Addr), GC G Γ k none (blkC C scope) none W0 (X.blk s H scope (compEnvC scope cl C' X.env) fp) := fun s H C' cl fp => g.blk h1
    have hcl : (evL Γ none cond).length ≤ 1 := by rw [evL_length, obs_len hl2]; exact h5
    refine PX.of g.g.K ((pe_dc (own := own) (tk := TEof G none W0 (ev Γ none key).v) (tv := TEof G none W0 (ev Γ none val).v) (tt := ttOf G (evL Γ none cond)) (g.g.calm h1) (by rw [g.g.xN]; exact g.g.nd) (iter_pi g.g hz (obs_ok ih g hl1 a4)) (by rw [g.g.xN, g.g.sc]; exact blk_of h2)
      (fun s H C' cl fp => okTg_ok (hb s H C' cl fp) h1 h6) (fun s H C' cl fp => pts_of' h5 (obs_ok ih (hb s H C' cl fp) hl2 a3)) (fun s H C' cl fp => (ih (hb s H C' cl fp) a1).pe) (fun s H C' cl fp => (ih (hb s H C' cl fp) a0).pe) (fold_of h4)).imp fun σ H Q q => dc_ok h3 (tt_of hcl) q) (fun _ => rfl) rfl
  · cases h
theorem sh_len {c : Str} {a : E} {x : Expr} {l : List Ob} (ih : IHn G Γ k n) (g : GC G Γ k cur C cu Wi X) (h : shOwn Γ "len" "__len__" c a C x = some l) (ha : AllOk Γ n l) : PX G cu Wi X x (ev Γ cur (.lenU c a)) := by
  simp only [ev]
  unfold shOwn at h
  split at h
  · obtain ⟨hb, rfl⟩ := ckO_ok h
    simp only [Bool.and_eq_true, decide_eq_true_eq] at hb
    obtain ⟨⟨⟨h1, rfl⟩, h3⟩, h4⟩ := hb
    split at h4
    · rename_i fi hfi
      exact px_lenU g.g g.top ((g.room h1).mono (by omega)) g.tk hfi h4 (glo_of g.g.sc h3) (ih g ha.cons.1)
    · cases h4
  · cases h
theorem sh_repr {c : Str} {a : E} {x : Expr} {l : List Ob} (ih : IHn G Γ k n) (g : GC G Γ k cur C cu Wi X) (h : shOwn Γ "repr" "__repr__" c a C x = some l) (ha : AllOk Γ n l) : PX G cu Wi X x (ev Γ cur (.reprU c a)) := by
  simp only [ev]
  unfold shOwn at h
  split at h
  · obtain ⟨hb, rfl⟩ := ckO_ok h
    simp only [Bool.and_eq_true, decide_eq_true_eq] at hb
    obtain ⟨⟨⟨h1, rfl⟩, h3⟩, h4⟩ := hb
    split at h4
    · rename_i fi hfi
      exact px_reprU g.g g.top ((g.room h1).mono (by omega)) g.tk hfi h4 (glo_of g.g.sc h3) (ih g ha.cons.1)
    · cases h4
  · cases h
theorem px_bad {x : Expr} (h : notStar x = true) : PX G cu Wi X x (.of fun _ _ => .err) :=
  ⟨⟨fun pins s σ H Q I ⟨_, _, _, _, p⟩ => p.elim⟩, ⟨fun pins s σ H Q I ⟨_, _, _, _, p⟩ => (show False from p).elim⟩, h⟩
end
theorem okN_ok (n : Nat) : IHn G Γ k n := by
  induction n with
  | zero =>
    intro e C cur cu Wi X x g h
    simp [okN] at h
  | succ n ih =>
    intro e C cur cu Wi X x g h
    have hsh : ∃ l, shape Γ e C x = some l ∧ AllOk Γ n l := by
      simp only [okN] at h
      split at h
      · rename_i l hl
        exact ⟨l, hl, List.all_eq_true.mp h⟩
      · cases h
    obtain ⟨l, hs, ha⟩ := hsh
    cases e with
    | var i =>
      unfold shape at hs
      dsimp only at hs
      split at hs
      · obtain ⟨hb, rfl⟩ := ckO_ok hs
        simp only [Bool.and_eq_true, decide_eq_true_eq] at hb
        obtain ⟨⟨h1, h2⟩, h3⟩ := hb
        simp only [ev]
        exact px_var g.g.K (by rw [g.g.xN]; exact h1) (by rw [g.g.sc]; exact vis_of h2) (dbg_of h3).1 (dbg_of h3).2
      · cases hs
    | con w =>
      unfold shape at hs
      dsimp only at hs
      simp only [ev]
      split at hs
      · obtain ⟨h, rfl⟩ := ckO_ok hs
        unfold conB at h
        split at h
        · exact px_const g.g.K pe_non (fun _ _ _ => rfl) (fun _ => rfl) rfl
        · simp only [decide_eq_true_eq] at h; subst h; exact px_const g.g.K pe_bl (fun _ _ _ => rfl) (fun _ => rfl) rfl
        · simp only [decide_eq_true_eq] at h; subst h; exact px_const g.g.K pe_int (fun _ _ _ => rfl) (fun _ => rfl) rfl
        · simp only [decide_eq_true_eq] at h; subst h; exact px_const g.g.K pe_str (fun _ _ _ => rfl) (fun _ => rfl) rfl
        · cases h
      · cases hs
    | glo y =>
      unfold shape at hs
      dsimp only at hs
      simp only [ev]
      split at hs
      · obtain ⟨hb, rfl⟩ := ckO_ok hs
        simp only [Bool.and_eq_true, decide_eq_true_eq] at hb
        obtain ⟨⟨⟨rfl, h2⟩, h3⟩, h4⟩ := hb
        exact px_glo g.g.K g.top (glo_of g.g.sc h2) h3 (dbg_of h4).1
      · cases hs
    | prm p as => exact sh_prm ih g hs ha
    | mth m fz o as => exact sh_mth ih g hs ha
    | not a =>
      unfold shape at hs
      dsimp only at hs
      simp only [ev]
      split at hs
      · cases hs
        exact px_not g.g.K (ih g ha.cons.1)
      · cases hs
    | and as =>
      unfold shape at hs
      dsimp only at hs
      simp only [ev]
      split at hs
      · obtain ⟨hb, h⟩ := ckL_ok hs
        have hx := obs_ok ih g h ha
        generalize evL Γ cur as = ss at hx ⊢
        cases hx with
        | nil => simp at hb
        | cons k1 k2 =>
          obtain ⟨z1, z2⟩ := px_and g.g.K k1 k2
          exact ⟨z1, z2.pt, rfl⟩
      · cases hs
    | or as =>
      unfold shape at hs
      dsimp only at hs
      simp only [ev]
      split at hs
      · obtain ⟨hb, h⟩ := ckL_ok hs
        have hx := obs_ok ih g h ha
        generalize evL Γ cur as = ss at hx ⊢
        cases hx with
        | nil => simp at hb
        | cons k1 k2 =>
          obtain ⟨z1, z2⟩ := px_or g.g.K k1 k2
          exact ⟨z1, z2.pt, rfl⟩
      · cases hs
    | slc3 fz a b c =>
      unfold shape at hs
      dsimp only at hs
      simp only [ev]
      split at hs
      · cases hs
        exact px_slcB g.g.K (ih g ha.cons.1) (ih g ha.cons.2.cons.1) (ih g ha.cons.2.cons.2.cons.1)
      · cases hs
    | isi single cs a => exact sh_isi ih g hs ha
    | ife c a b =>
      unfold shape at hs
      dsimp only at hs
      simp only [ev]
      split at hs
      · cases hs
        exact px_ife (ih g ha.cons.1) (ih g ha.cons.2.cons.1) (ih g ha.cons.2.cons.2.cons.1)
      · cases hs
    | chain op1 op2 a b c =>
      unfold shape at hs
      dsimp only at hs
      simp only [ev]
      split at hs
      · obtain ⟨hb, rfl⟩ := ckO_ok hs
        simp only [Bool.and_eq_true, decide_eq_true_eq, Bool.not_eq_true'] at hb
        obtain ⟨⟨rfl, rfl⟩, h3⟩ := hb
        exact px_chain g.g.K g.g.un (ih g ha.cons.1) (ih g ha.cons.2.cons.1) (ih g ha.cons.2.cons.2.cons.1) h3
      · cases hs
    | call f fz as ks => exact sh_call ih g hs ha
    | make c fz as ks => exact sh_make ih g hs ha
    | meth c m fz o as ks => exact sh_meth ih g hs ha
    | lc fz own kd src t cond elt => exact sh_lc ih g hs ha
    | dc fz own kd src t cond key val => exact sh_dc ih g hs ha
    | att a f =>
      unfold shape at hs
      dsimp only at hs
      simp only [ev]
      split at hs
      · obtain ⟨hb, rfl⟩ := ckO_ok hs
        simp only [Bool.and_eq_true, decide_eq_true_eq] at hb
        obtain ⟨rfl, h2⟩ := hb
        exact px_att g.g.K g.top h2 (ih g ha.cons.1)
      · cases hs
    | bad =>
      unfold shape at hs
      obtain ⟨hb, rfl⟩ := ckO_ok hs
      simp only [ev]
      exact px_bad hb
    | prop c f a => cases hs
    | lenU c a => exact sh_len ih g hs ha
    | reprU c a => exact sh_repr ih g hs ha
    | eqU c a b => cases hs
    | exAtt f => cases hs
    | exIs cs => cases hs
theorem okE_ok (e : E) {C : Ck} {cur : Option Cur} {cu : Option Cu} {Wi : WX} {X : Cx} {x : Expr} (g : GC G Γ k cur C cu Wi X) (h : okE Γ e C x = true) : PX G cu Wi X x (ev Γ cur e) := okN_ok 40 g h
theorem okEs_ok (es : List E) {C : Ck} {cur : Option Cur} {cu : Option Cu} {Wi : WX} {X : Cx} {xs : List Expr} (g : GC G Γ k cur C cu Wi X) (h : okEs Γ es C xs = true) : PXs G cu Wi X xs (evL Γ cur es) := by
  unfold okEs at h
  split at h
  · rename_i l hl
    exact obs_ok (okN_ok 40) g hl (List.all_eq_true.mp h)
  · cases h
theorem okE_shape {e : E} {C : Ck} {x : Expr} (h : okE Γ e C x = true) : ∃ l, shape Γ e C x = some l ∧ AllOk Γ 39 l := by
  unfold okE at h
  simp only [okN] at h
  split at h
  · rename_i l hl
    exact ⟨l, hl, List.all_eq_true.mp h⟩
  · cases h
theorem okEs_len {es : List E} {C : Ck} {xs : List Expr} (h : okEs Γ es C xs = true) : es.length = xs.length := by
  unfold okEs at h
  split at h
  · rename_i l hl
    exact obs_len hl
  · cases h
end
end PyI

namespace PyI
open PySem PySem.Spec PyProof.Rows L2
/-! ### what a statement promises -/
def PostS (G : GE) (cu : Option Cu) (Wi : WX) (g : Gh) (M : Store) (H : Hp) (r : SR) (D : Ends) : Prop :=
  match r with
  | .nx l' M' => ∀ g' σ' H', At G cu g' M' H' l' σ' → Evo g M H g' M' H' → D.nx σ' H'
  | .rt w M' => ∀ g' v H', Abs G g' M' H' → Evo g M H g' M' H' → RW G g' M' H' w v → D.rt v H'
  | .bk l' M' => ∀ g' σ' H', At G cu g' M' H' l' σ' → Evo g M H g' M' H' → D.bk σ' H'
  | .ct l' M' => ∀ g' σ' H', At G cu g' M' H' l' σ' → Evo g M H g' M' H' → D.ct σ' H'
  | .exc c ns ws l' M' => ∀ g' σ' cls d H', At G cu g' M' H' l' σ' → Evo g M H g' M' H' → XR G g' M' H' c ns ws cls d → Wi cls d σ' H'
  | .err => False
def TSof (G : GE) (cu : Option Cu) (Wi : WX) (f : LM → Store → SR) : TS := fun D σ H => ∃ g M l, At G cu g M H l σ ∧ PostS G cu Wi g M H (f l M) D
section
variable {G : GE} {Γ : Glo} {cu : Option Cu} {cur : Option Cur} {C : Ck} {Wi : WX} {X : Cx} {g g' g1 g2 : Gh} {M M' M1 M2 : Store} {H H' H1 H2 : Hp} {σ : L2.St} {l : LM} {pos : Pos} {k : Nat} {α β : Type}
theorem PostS.evo {r : SR} {D : Ends} (hl : g.R.length = M.length) (e : Evo g M H g1 M1 H1) (h : PostS G cu Wi g M H r D) : PostS G cu Wi g1 M1 H1 r D := by
  cases r with
  | nx l' M' => exact fun g' σ' H' a e' => h g' σ' H' a (e.trans hl e')
  | rt w M' => exact fun g' v H' a e' => h g' v H' a (e.trans hl e')
  | bk l' M' => exact fun g' σ' H' a e' => h g' σ' H' a (e.trans hl e')
  | ct l' M' => exact fun g' σ' H' a e' => h g' σ' H' a (e.trans hl e')
  | exc c ns ws l' M' => exact fun g' σ' cls d H' a e' => h g' σ' cls d H' a (e.trans hl e')
  | err => exact h
theorem PostS.then {r : Res α} {f : α → Store → SR} {rel : Rel α β} {D : Ends} (a : At G cu g M H l σ) (h : PostS G cu Wi g M H (r.thenS l f) D) :
    Post G Wi rel g M H σ r (fun b H1 => ∃ g1 M1 x, At G cu g1 M1 H1 l σ ∧ Evo g M H g1 M1 H1 ∧ rel g1 M1 H1 x b ∧ PostS G cu Wi g1 M1 H1 (f x M1) D) := by
  cases r with
  | ok w M' => exact fun g' v H' a' e q => ⟨g', M', w, a.evo a' e, e, q, PostS.evo a.abs.len e h⟩
  | exc c ns ws M' => exact fun g' cls d H' a' e x => h g' σ cls d H' (a.evo a' e) e x
  | err => exact h
theorem PostS.need {o : Option α} {f : α → SR} {D : Ends} (h : PostS G cu Wi g M H (needS o f) D) : ∃ a, o = some a ∧ PostS G cu Wi g M H (f a) D := by
  cases o with
  | none => exact h.elim
  | some a => exact ⟨a, rfl, h⟩
/-- the first part by its own reading -/
theorem TSof.bind {rel : Rel α β} {fa : LM → Store → Res α} {f : LM → α → Store → SR} {D : Ends} (h : TSof G cu Wi (fun l M => (fa l M).thenS l (f l)) D σ H) :
    TOf G cu Wi rel fa σ H (fun b H1 => ∃ g1 M1 l x, At G cu g1 M1 H1 l σ ∧ rel g1 M1 H1 x b ∧ PostS G cu Wi g1 M1 H1 (f l x M1) D) := by
  obtain ⟨g, M, l, a, p⟩ := h
  exact ⟨g, M, l, a, (PostS.then (rel := rel) a p).imp fun b H1 ⟨g1, M1, x, a1, _, r1, p1⟩ => ⟨g1, M1, l, x, a1, r1, p1⟩⟩
/-- a statement-level context -/
structure GS (G : GE) (Γ : Glo) (k : Nat) (cur : Option Cur) (C : Ck) (cu : Option Cu) (Wi : WX) (X : Cx) : Prop where
  e : GC G Γ k cur C cu Wi X
  fnl : C.fs = none
  knd : C.sc.kind = .function
  po : C.calm = true → PassesOwn (model X.prog X.w) X.A X.env X.xe

/-! ### swapped stores -/
def isStar : Expr → Bool
  | .Starred _ _ => true
  | _ => false
/-- what swappedStores tells, in a function of that scope (outer none: it is not told) -/
def swp (sc : Scope) (tg e : Expr) : Option (Option (List Str)) :=
  match tg, e with
  | .Tuple ts _ _, .Tuple vs _ _ =>
    if !(ts.length == 2 || ts.length == 3) || vs.length != ts.length then some none
    else if vs.any isStar then some none
    else
      let line := (ts.head?.map (·.pos.line)).getD 0
      let names := ts.filterMap fun
        | .Name id pos => if sc.names.lookup id == some .local && pos.line == line then some id else none
        | _ => none
      if names.length != ts.length || names.eraseDups.length != names.length then some none
      else if vs.all (foldedForSure 8) then some none
      else if vs.all (constantsAlone 8) then none
      else some (some names)
  | .List _ _, _ => none
  | _, _ => some none
theorem swp_ok {env : Env} {tg e : Expr} {r : Option (List Str)} (hk : env.scope.kind = .function) (h : swp env.scope tg e = some r) : swappedStores [tg] e env = pure r := by
  have hb : env.blockKind = .function := by unfold Env.blockKind; rw [hk]; rfl
  have hb2 : (env.blockKind != .function) = false := by rw [hb]; rfl
  unfold swp at h
  split at h
  · rename_i ts x p vs y q
    unfold swappedStores
    dsimp only
    rw [hb2, Bool.or_false]
    split at h
    · rename_i h1
      cases h
      exact if_pos h1
    · rename_i h1
      refine (if_neg h1).trans ?_
      split at h
      · rename_i h2
        cases h
        exact if_pos h2
      · rename_i h2
        refine (if_neg h2).trans ?_
        dsimp only at h
        split at h
        · rename_i h3
          cases h
          exact if_pos h3
        · rename_i h3
          refine (if_neg h3).trans ?_
          split at h
          · rename_i h4
            cases h
            exact if_pos h4
          · rename_i h4
            refine (if_neg h4).trans ?_
            split at h
            · cases h
            · rename_i h5
              cases h
              exact if_neg h5
  · cases h
  · rename_i n1 n2
    cases h
    unfold swappedStores
    split
    · rename_i heq
      split at heq
      · rename_i _ _ _ _ _ _ _ _ _ _ _ e1
        exact (n2 _ _ _ _ _ _ (List.head_eq_of_cons_eq e1) rfl).elim
      · rename_i _ _ _ _ _ _ _ _ _ _ e1
        exact (n1 _ _ (List.head_eq_of_cons_eq e1)).elim
      · cases heq
    · rfl
end
end PyI

namespace PyI
open PySem PySem.Spec PyProof.Rows L2
section
variable {G : GE} {Γ : Glo} {cu : Option Cu} {cur : Option Cur} {C : Ck} {Wi : WX} {X : Cx} {g g' g1 g2 : Gh} {M M' M1 M2 : Store} {H H' H1 H2 : Hp} {σ : L2.St} {l : LM} {pos : Pos} {k : Nat} {α β : Type} {a b c : Expr} {sa sb s_c : Sm}
/-! ### o[i] = v -/
def rSet2 : TSet := fun o i v H Q => rSetL o i v H Q ∨ rSetD o i v H Q
theorem set_2 (hu : X.A.units + 1 < cLine) : PSet X rSet2 := by
  intro pins s σ H o i v ov iv u Q I ro ri rv h
  rcases h with h | h
  · exact set_list pins s σ H o i v ov iv u Q I ro ri rv h
  · exact set_dict hu pins s σ H o i v ov iv u Q I ro ri rv h
theorem putK_rws {q : Key} {v : W} {u : V} (rv : RW G g M H v u) : ∀ {kvs : List (Key × V)} {ws : List W}, RWs G g M H ws (kvs.map (·.2)) →
    RWs G g M H ((kvs.map (·.1)).zipWith (fun a w => if a = q then v else w) ws) ((kvs.map fun kv => if kv.1 = q then (kv.1, u) else kv).map (·.2)) ∧ (kvs.map fun kv => if kv.1 = q then (kv.1, u) else kv).map (·.1) = kvs.map (·.1)
  | [], [], r => ⟨r, rfl⟩
  | [], _ :: _, r => by obtain ⟨_, _, e, _⟩ := r; cases e
  | _ :: _, [], r => by cases (show _ :: _ = ([] : List V) from r)
  | (a, x) :: kvs, w :: ws, r => by
    obtain ⟨x', r', e, h1, h2⟩ := r
    cases e
    obtain ⟨i1, i2⟩ := putK_rws rv h2
    simp only [List.map_cons, List.zipWith_cons_cons]
    by_cases ha : a = q
    · simp only [ha, if_true]
      exact ⟨.cons rv i1, by rw [i2]⟩
    · simp only [ha, if_false]
      exact ⟨.cons h1 i1, by rw [i2]⟩
theorem putW_ok {q : Key} {v : W} {u : V} {kvs : List (Key × V)} {ws : List W} (rv : RW G g M H v u) (r : RWs G g M H ws (kvs.map (·.2))) :
    ∃ ks' ws', putW q v (kvs.map (·.1)) ws = .dct ks' ws' ∧ (putK kvs q u).map (·.1) = ks' ∧ RWs G g M H ws' ((putK kvs q u).map (·.2)) := by
  unfold putW putK
  have e0 : ((kvs.map (·.1)).any fun a => decide (a = q)) = (kvs.any fun kv => decide (kv.1 = q)) := by rw [List.any_map]; rfl
  rw [e0]
  by_cases hk : (kvs.any fun kv => decide (kv.1 = q)) = true
  · rw [if_pos hk, if_pos hk]
    obtain ⟨i1, i2⟩ := putK_rws (q := q) rv r
    exact ⟨_, _, rfl, i2, i1⟩
  · rw [if_neg hk, if_neg hk]
    exact ⟨_, _, rfl, by simp, by rw [List.map_append]; exact r.append (.one rv)⟩
/-- a store into a live list or dict -/
theorem setSub_ok {o i v : W} {ov iv u : V} {Q : Hp → Prop} (ab : Abs G g M H) (ro : RW G g M H o ov) (ri : RW G g M H i iv) (rv : RW G g M H v u) (h : setSubW o i v M = some M') (hQ : ∀ H', Abs G g M' H' → Evo g M H g M' H' → Q H') : rSet2 ov iv u H Q := by
  unfold setSubW at h
  split at h
  · rename_i n
    obtain ⟨p, hp, rfl⟩ := ro
    split at h
    · rename_i ws hc
      obtain ⟨q, hq, h⟩ := Option.bind_eq_some_iff.mp h
      obtain ⟨j, hj, h⟩ := Option.map_eq_some_iff.mp h
      subst h
      obtain ⟨xs, h1, h2⟩ := ab.cell n _ p hc hp
      refine .inl ⟨p, xs, q, j, rfl, intOf_ok hq ri, h1, by rw [← h2.length]; exact hj, ?_⟩
      have e := ab.putE (c1 := .lst (ws.set j v)) (o := .lst (xs.set j u)) hp hc
      obtain ⟨a1, e1⟩ := ab.put (c1 := .lst (ws.set j v)) (o := .lst (xs.set j u)) hp hc ⟨_, upd_same, (h2.set j rv).evo ab.len e⟩
      exact hQ _ a1 e1
    · rename_i ks ws hc
      obtain ⟨q, hq, h⟩ := Option.bind_eq_some_iff.mp h
      split at h
      · rename_i hz
        cases h
        obtain ⟨kvs, h1, rfl, h3⟩ := ab.cell n _ p hc hp
        have hi : iv = kV q := by
          unfold keyOf at hq
          split at hq
          · cases hq; exact ri
          · cases hq; exact ri
          · cases hq
        obtain ⟨ks', ws', e0, e1, r1⟩ := putW_ok (q := q) rv h3
        rw [e0] at hQ
        refine .inr ⟨p, _, rfl, .inl ⟨kvs, q, h1, hi, by simpa using hz.1, rfl⟩, ?_⟩
        have e := ab.putE (c1 := .dct ks' ws') (o := .dK (putK kvs q u)) hp hc
        obtain ⟨a1, e2⟩ := ab.put (c1 := .dct ks' ws') (o := .dK (putK kvs q u)) hp hc ⟨_, upd_same, e1, r1.evo ab.len e⟩
        exact hQ _ a1 e2
      · cases h
    · cases h
  · cases h

/-! ### assignments -/
def compB : Expr → Bool
  | .ListComp _ _ _ _ => true
  | .SetComp _ _ _ _ => true
  | .DictComp _ _ _ _ _ => true
  | _ => false
theorem sw_not {e : Expr} {tg : Option Expr} {n : Nat} {env : Env} (h : compB e = false) : swapsWith e tg n env = pure false := by
  cases e <;> first | rfl | cases h
/-- no swap with the target -/
def swFB (sc : Scope) (tg e : Expr) : Bool := !compB e || (match tg with
  | .Name t _ => !decide (sc.names.lookup t = some .local)
  | _ => true)
theorem sw_F {e tg : Expr} {n : Nat} {env : Env} (h : swFB env.scope tg e = true) : swapsWith e (some tg) n env = pure false := by
  unfold swFB at h
  rw [Bool.or_eq_true] at h
  rcases h with h | h
  · exact sw_not (by simpa using h)
  · split at h
    · rename_i t p
      have hl : (env.kindOf t == some .local) = false := by
        have : ¬ env.scope.names.lookup t = some .local := by simpa using h
        show (env.scope.names.lookup t == some .local) = false
        simpa using this
      cases e <;> first | rfl | (unfold swapsWith; simp only [hl, Bool.and_false, Bool.false_and]; done) | (unfold swapsWith; simp only [hl, Bool.and_false, Bool.false_and]; rfl)
    · rename_i hn
      cases e <;> first | rfl | skip
      all_goals
        cases tg <;> first | rfl | exact absurd rfl (hn _ _)
theorem sw_FS {e tg : Expr} {n : Nat} {env : Env} (h : swFB env.scope tg e = true) : swapsWithSole [tg] e n env = pure false := sw_F h
theorem assign_sub {a b : Expr} {env : Env} {v : Value} (h : plainIxB b = true) : assign (.Subscript a b pos) env v = (do
      let ov ← holding [v] (eval a env)
      let iv ← holding [v, ov] (eval b env)
      standAt pos
      holding [v, ov, iv] (setItem ov iv v)
      release [v, ov, iv] []) := by
  cases b <;> first | rfl | cases h
theorem At.setL (at_ : At G none g M H l σ) {l' : LM} {σ' : L2.St} (lr : LR G g M H l' σ') : At G none g M H l' σ' := ⟨at_.abs, lr, fun c q => by cases q⟩
/-- target = value -/
theorem ps_asgT {tg e : Expr} {t : Tg} (he : PX G none Wi X e sa) (hg : PG X tg (gOf G t)) (hs : swFB X.env.scope tg e = true) (hw : swappedStores [tg] e X.env = pure none) (hn : notStar tg = true) :
    PS X (.Assign [tg] e pos) (TSof G none Wi fun l M => (sa.v l M).thenS l fun w M1 => needS (tgW t w l) fun l1 => .nx l1 M1) := by
  refine (ps_asg he.pe hg (sw_FS hs) hw (by rw [assignEach_cons hn]; rfl)).imp fun D σ H q => ?_
  refine (TSof.bind (fa := sa.v) (f := fun l w M1 => needS (tgW t w l) fun l1 => .nx l1 M1) (rel := RW G) q).imp fun v H1 ⟨g1, M1, l, w, a1, r1, p⟩ => ?_
  obtain ⟨l1, hl, p⟩ := PostS.need p
  exact ⟨g1, M1, l, w, l1, a1.abs, a1.lr, r1, hl, fun σ' _ lr => p g1 σ' H1 (a1.setL lr) Evo.refl⟩
/-- a, b = x, y -/
theorem ps_par2 {i j : Nat} {x y : Str} {px py pt : Pos} {kt k2 : Nat} {pt2 : Pos} (gs : GS G Γ k cur C none Wi X) (hc : C.calm = true) (hi : C.N[i]? = some x) (hj : C.N[j]? = some y) (hij : i ≠ j) (hx : C.sc.names.lookup x = some .local) (hy : C.sc.names.lookup y = some .local)
    (ha : PX G none Wi X a sa) (hb : PX G none Wi X b sb) (hw : swp C.sc (.Tuple [.Name x px, .Name y py] kt pt) (.Tuple [a, b] k2 pt2) = some (some [x, y])) :
    PS X (.Assign [.Tuple [.Name x px, .Name y py] kt pt] (.Tuple [a, b] k2 pt2) pos) (TSof G none Wi fun l M => (evEs [sa, sb] l M).thenS l fun ws M1 => needS (tgWs [.nm i, .nm j] ws l) fun l1 => .nx l1 M1) := by
  have hN := gs.e.g.xN
  refine (ps_par (gs.e.g.calm hc) (by rw [hN]; exact gs.e.g.nd) (by rw [hN]; exact hi) (by rw [hN]; exact hj) hij (by rw [gs.e.g.sc]; exact hx) (by rw [gs.e.g.sc]; exact hy) (PXs.pa (.cons ha (.cons hb .nil))) (swp_ok (by rw [gs.e.g.sc]; exact gs.knd) (by rw [gs.e.g.sc]; exact hw)) rfl).imp fun D σ H q => ?_
  refine (TSof.bind (fa := evEs [sa, sb]) (f := fun l ws M1 => needS (tgWs [.nm i, .nm j] ws l) fun l1 => .nx l1 M1) (rel := RWs G) q).imp fun vs H1 ⟨g1, M1, l, ws, a1, r1, p⟩ => ?_
  obtain ⟨l1, hl, p⟩ := PostS.need p
  match ws, r1, hl with
  | [], _, hl => cases hl
  | [_], _, hl => simp [tgWs, tgW] at hl
  | _ :: _ :: _ :: _, _, hl => simp [tgWs, tgW] at hl
  | [w1, w2], r1, hl =>
    simp [tgWs, tgW] at hl
    obtain ⟨v, u, e, h1, h2⟩ := r1.two_inv
    subst hl
    exact ⟨v, u, e, p g1 _ H1 (a1.setL ((a1.lr.set i h1).set j h2)) Evo.refl⟩
theorem ps_par3' {i j m : Nat} {x y z : Str} {px py pz pt : Pos} {kt k2 : Nat} {pt2 : Pos} (gs : GS G Γ k cur C none Wi X) (hc : C.calm = true) (hi : C.N[i]? = some x) (hj : C.N[j]? = some y) (hm : C.N[m]? = some z) (hij : i ≠ j) (him : i ≠ m) (hjm : j ≠ m) (hx : C.sc.names.lookup x = some .local) (hy : C.sc.names.lookup y = some .local) (hz : C.sc.names.lookup z = some .local)
    (ha : PX G none Wi X a sa) (hb : PX G none Wi X b sb) (hd : PX G none Wi X c s_c) (hw : swp C.sc (.Tuple [.Name x px, .Name y py, .Name z pz] kt pt) (.Tuple [a, b, c] k2 pt2) = some (some [x, y, z])) :
    PS X (.Assign [.Tuple [.Name x px, .Name y py, .Name z pz] kt pt] (.Tuple [a, b, c] k2 pt2) pos) (TSof G none Wi fun l M => (evEs [sa, sb, s_c] l M).thenS l fun ws M1 => needS (tgWs [.nm i, .nm j, .nm m] ws l) fun l1 => .nx l1 M1) := by
  have hN := gs.e.g.xN
  refine (ps_par3 (gs.e.g.calm hc) (by rw [hN]; exact gs.e.g.nd) (by rw [hN]; exact hi) (by rw [hN]; exact hj) (by rw [hN]; exact hm) hij him hjm (by rw [gs.e.g.sc]; exact hx) (by rw [gs.e.g.sc]; exact hy) (by rw [gs.e.g.sc]; exact hz) (PXs.pa (.cons ha (.cons hb (.cons hd .nil)))) (swp_ok (by rw [gs.e.g.sc]; exact gs.knd) (by rw [gs.e.g.sc]; exact hw)) rfl).imp fun D σ H q => ?_
  refine (TSof.bind (fa := evEs [sa, sb, s_c]) (f := fun l ws M1 => needS (tgWs [.nm i, .nm j, .nm m] ws l) fun l1 => .nx l1 M1) (rel := RWs G) q).imp fun vs H1 ⟨g1, M1, l, ws, a1, r1, p⟩ => ?_
  obtain ⟨l1, hl, p⟩ := PostS.need p
  match ws, r1, hl with
  | [], _, hl => cases hl
  | [_], _, hl => simp [tgWs, tgW] at hl
  | [_, _], _, hl => simp [tgWs, tgW] at hl
  | _ :: _ :: _ :: _ :: _, _, hl => simp [tgWs, tgW] at hl
  | [w1, w2, w3], r1, hl =>
    simp [tgWs, tgW] at hl
    obtain ⟨v, u, z, e, h1, h2, h3⟩ := r1.three_inv
    subst hl
    exact ⟨v, u, z, e, p g1 _ H1 (a1.setL (((a1.lr.set i h1).set j h2).set m h3)) Evo.refl⟩
/-- o[i] = e -/
theorem ps_sub' {tpos : Pos} (hu : X.A.units + 200 < cLine) (ho : PX G none Wi X a sa) (hi : PX G none Wi X b sb) (he : PX G none Wi X c s_c) (hp : plainIxB b = true) :
    PS X (.Assign [.Subscript a b tpos] c pos) (TSof G none Wi fun l M => (s_c.v l M).thenS l fun w M1 => (sa.v l M1).thenS l fun x M2 => (sb.v l M2).thenS l fun y M3 => needS (setSubW x y w M3) fun M4 => .nx l M4) := by
  refine (ps_asg he.pe (pg_sub ho.pe hi.pe (set_2 (by omega)) (fun v => assign_sub hp)) (sw_FS (by simp [swFB])) rfl rfl).imp fun D σ H q => ?_
  refine (TSof.bind (fa := s_c.v) (f := fun l w M1 => (sa.v l M1).thenS l fun x M2 => (sb.v l M2).thenS l fun y M3 => needS (setSubW x y w M3) fun M4 => .nx l M4) (rel := RW G) q).imp fun v H1 ⟨g1, M1, l, w, a1, r1, p⟩ => ?_
  refine ⟨g1, M1, l, a1, (PostS.then (rel := RW G) a1 p).imp fun x H2 ⟨g2, M2, wx, a2, e2, r2, p2⟩ => ?_⟩
  refine ⟨g2, M2, l, a2, (PostS.then (rel := RW G) a2 p2).imp fun y H3 ⟨g3, M3, wy, a3, e3, r3, p3⟩ => ?_⟩
  obtain ⟨M4, hM, p4⟩ := PostS.need p3
  exact setSub_ok a3.abs (r2.evo a2.abs.len e3) r3 ((r1.evo a1.abs.len e2).evo a2.abs.len e3) hM fun H' a4 e4 => p4 g3 σ H' (a3.evo a4 e4) e4
/-- o.f = e -/
theorem putF_keys {f : Str} {y : V} : ∀ {fs : List (Str × V)}, (putF f y fs).map (·.1) = putN f (fs.map (·.1))
  | [] => rfl
  | (h, x) :: r => by
    show ((if h = f then (h, y) :: r else (h, x) :: putF f y r)).map (·.1) = if h = f then h :: r.map (·.1) else h :: putN f (r.map (·.1))
    split
    · rfl
    · rw [List.map_cons, putF_keys]
theorem putV_ok {f : Str} {y : V} {w : W} (ry : RW G g M H w y) : ∀ {fs : List (Str × V)} {ws : List W}, RWs G g M H ws (fs.map (·.2)) → RWs G g M H (putV f w (fs.map (·.1)) ws) ((putF f y fs).map (·.2))
  | [], ws, r => .one ry
  | (h, x) :: fs, ws, r => by
    cases ws with
    | nil => cases (show _ :: _ = ([] : List V) from r)
    | cons u us =>
      obtain ⟨x', r', e, h1, h2⟩ := r
      cases e
      show RWs G g M H (if h = f then w :: us else u :: putV f w (fs.map (·.1)) us) ((if h = f then (h, y) :: fs else (h, x) :: putF f y fs).map (·.2))
      split
      · exact .cons ry h2
      · exact .cons h1 (putV_ok ry h2)
theorem ps_att' {f : Str} {tpos : Pos} {kk : Nat} (hK : X.K = G.K) (T : Tops G Γ X.prog X.w X.mg X.base kk) (ho : PX G none Wi X a sa) (he : PX G none Wi X c s_c) :
    PS X (.Assign [.Attribute a f tpos] c pos) (TSof G none Wi fun l M => (s_c.v l M).thenS l fun w M1 => (sa.v l M1).thenS l fun x M2 => needS (setAttW Γ.fld x f w M2) fun M3 => .nx l M3) := by
  refine (ps_fld ho.pe he.pe (sw_F (by simp [swFB]))).imp fun D σ H q => ?_
  refine (TSof.bind (fa := s_c.v) (f := fun l w M1 => (sa.v l M1).thenS l fun x M2 => needS (setAttW Γ.fld x f w M2) fun M3 => .nx l M3) (rel := RW G) q).imp fun v H1 ⟨g1, M1, l, w, a1, r1, p⟩ => ?_
  refine ⟨g1, M1, l, a1, (PostS.then (rel := RW G) a1 p).imp fun x H2 ⟨g2, M2, wx, a2, e2, r2, p2⟩ => ?_⟩
  obtain ⟨M3, hM, p3⟩ := PostS.need p2
  unfold setAttW at hM
  split at hM
  · rename_i n
    obtain ⟨p, hp, rfl⟩ := r2
    split at hM
    · rename_i cn ns ws hc
      split at hM
      · rename_i hb
        cases hM
        obtain ⟨C, dx, fs, hC, hI, hns, hws⟩ := a2.abs.cell n _ p hc hp
        obtain ⟨C', k1, k2, k3⟩ := T.fld cn f hb.1
        rw [hC] at k1; cases k1
        have hlen : fs.length < 1000 := by rw [← hns] at hb; simpa using hb.2
        refine ⟨p, C, dx, fs, rfl, hI, by rw [hK]; exact k2, by rw [hK]; exact k3, hlen, ?_⟩
        subst hns
        have e := a2.abs.putE (c1 := .obj cn (putN f (fs.map (·.1))) (putV f w (fs.map (·.1)) ws)) (o := .ins C dx (putF f v fs)) hp hc
        obtain ⟨a3, e3⟩ := a2.abs.put (c1 := .obj cn (putN f (fs.map (·.1))) (putV f w (fs.map (·.1)) ws)) (o := .ins C dx (putF f v fs)) hp hc
          ⟨C, dx, _, hC, upd_same, putF_keys, (putV_ok (r1.evo a1.abs.len e2) hws).evo a2.abs.len e⟩
        exact p3 g2 σ _ (a2.evo a3 e3) e3
      · cases hM
    · cases hM
  · cases hM
/-- o[i], j = e -/
theorem ps_subNm {j : Nat} {y : Str} {tpos npos tp : Pos} {kt : Nat} (gs : GS G Γ k cur C none Wi X) (hc : C.calm = true) (hj : C.N[j]? = some y) (hst : stoB C y = true) (ho : PX G none Wi X a sa) (hi : PX G none Wi X b sb) (he : PX G none Wi X c s_c) (hp : plainIxB b = true) (hcp : swp C.sc (.Tuple [.Subscript a b tpos, .Name y npos] kt tp) c = some none) :
    PS X (.Assign [.Tuple [.Subscript a b tpos, .Name y npos] kt tp] c pos) (TSof G none Wi fun l M => (s_c.v l M).thenS l fun w M1 => match w with
    | .tup [u, v] => (sa.v l M1).thenS l fun x M2 => (sb.v l M2).thenS l fun y M3 => needS (setSubW x y u M3) fun M4 => .nx (l.set j (some v)) M4
    | _ => .err) := by
  obtain ⟨s1, s2⟩ := sto_of gs.e hst
  have hK := gs.e.g.K
  refine (ps_asg he.pe (pg_tup (n := 2) (gs.e.g.calm hc) (pgs_cons (pg_sub ho.pe hi.pe (set_2 (by have := gs.e.g.un; omega)) (fun v => assign_sub hp)) (pgs_cons (pg_name (by rw [gs.e.g.xN]; exact gs.e.g.nd) (by rw [gs.e.g.xN]; exact hj) s1 s2) pgs_nil rfl) rfl) rfl rfl) (sw_FS (by simp [swFB])) (swp_ok (by rw [gs.e.g.sc]; exact gs.knd) (by rw [gs.e.g.sc]; exact hcp)) rfl).imp fun D σ H q => ?_
  refine (TSof.bind (fa := s_c.v) (f := fun l w M1 => match w with
    | .tup [u, v] => (sa.v l M1).thenS l fun x M2 => (sb.v l M2).thenS l fun y M3 => needS (setSubW x y u M3) fun M4 => .nx (l.set j (some v)) M4
    | _ => .err) (rel := RW G) q).imp fun v H1 ⟨g1, M1, l, w, a1, r1, p⟩ => ?_
  split at p
  · rename_i w1 w2
    obtain ⟨q, vs, rfl, h1, h2⟩ := r1
    obtain ⟨v1, v2, rfl, k1, k2⟩ := h2.two_inv
    refine ⟨q, [v1, v2], rfl, by rw [hK]; exact h1.sq, rfl, v1, [v2], rfl, ?_⟩
    refine ⟨g1, M1, l, a1, (PostS.then (rel := RW G) a1 p).imp fun x H2 ⟨g2, M2, wx, a2, e2, r2, p2⟩ => ?_⟩
    refine ⟨g2, M2, l, a2, (PostS.then (rel := RW G) a2 p2).imp fun y H3 ⟨g3, M3, wy, a3, e3, r3, p3⟩ => ?_⟩
    obtain ⟨M4, hM, p4⟩ := PostS.need p3
    refine setSub_ok a3.abs (r2.evo a2.abs.len e3) r3 ((k1.evo a1.abs.len e2).evo a2.abs.len e3) hM fun H' a4 e4 => ⟨v2, [], rfl, rfl, ?_⟩
    have a5 := a3.evo a4 e4
    exact p4 g3 _ H' (a5.setL (a5.lr.set j (((k2.evo a1.abs.len e2).evo a2.abs.len e3).evo a3.abs.len e4))) e4
  · exact p.elim
/-- x op= e -/
theorem ps_aug' {i : Nat} {x : Str} {op : Operator} {pos' : Pos} (gs : GS G Γ k cur C none Wi X) (hop : op = .Add ∨ op = .Sub) (hi : C.N[i]? = some x) (hst : stoB C x = true) (he : PX G none Wi X a sa) :
    PS X (.AugAssign (.Name x pos') op a pos) (TSof G none Wi fun l M => match l[i]? with
      | some (some w) => (sa.v l M).thenS l fun v M1 => (augW op w v M1).thenS l fun r M2 => .nx (l.set i (some r)) M2
      | _ => .err) := by
  obtain ⟨s1, s2⟩ := sto_of gs.e hst
  have N1 : X.N.Nodup := by rw [gs.e.g.xN]; exact gs.e.g.nd
  have N2 : X.N[i]? = some x := by rw [gs.e.g.xN]; exact hi
  have key : ∀ {f : Int → Int → Int}, PIp X op (ipI f) → (∀ p q M, augW op (.int p) (.int q) M = .ok (.int (f p q)) M) → (∀ w v M, (∃ p q, w = .int p ∧ v = .int q) ∨ augW op w v M = .err) →
      PS X (.AugAssign (.Name x pos') op a pos) (TSof G none Wi fun l M => match l[i]? with
      | some (some w) => (sa.v l M).thenS l fun v M1 => (augW op w v M1).thenS l fun r M2 => .nx (l.set i (some r)) M2
      | _ => .err) := by
    intro f hp hf hf2
    refine (ps_aug N1 N2 s1 he.pe hp s2).imp fun D σ H ⟨g, M, l, a, p⟩ => ?_
    dsimp only at p
    split at p
    · rename_i w hw
      obtain ⟨v, hv, rv⟩ := a.lr.2 i w hw
      refine ⟨v, hv, g, M, l, a, (PostS.then (rel := RW G) a p).imp fun y H1 ⟨g1, M1, w1, a1, e1, r1, p1⟩ => ?_⟩
      rcases hf2 w w1 M1 with ⟨i1, i2, rfl, rfl⟩ | he
      · rw [hf] at p1
        exact ⟨i1, i2, rv, r1, p1 g1 _ H1 (a1.setL (a1.lr.set i rfl)) Evo.refl⟩
      · rw [he] at p1
        exact p1.elim
    · exact p.elim
  rcases hop with rfl | rfl
  · exact key ip_add (fun _ _ _ => rfl) fun w v M => by cases w <;> cases v <;> first | exact .inl ⟨_, _, rfl, rfl⟩ | exact .inr rfl
  · exact key ip_sub (fun _ _ _ => rfl) fun w v M => by cases w <;> cases v <;> first | exact .inl ⟨_, _, rfl, rfl⟩ | exact .inr rfl
end
end PyI

namespace PyI
open PySem PySem.Spec PyProof.Rows L2
section
variable {G : GE} {Γ : Glo} {cu : Option Cu} {cur : Option Cur} {C : Ck} {Wi : WX} {X : Cx} {g g' g1 g2 : Gh} {M M' M1 M2 : Store} {H H' H1 H2 : Hp} {σ : L2.St} {l : LM} {pos : Pos} {k : Nat} {α β : Type} {a b c : Expr} {sa sb s_c : Sm}
/-! ### loops -/
theorem LR.length_eq (h : LR G g M H l σ) : l.length = σ.length := h.1
open Classical in
theorem for_ok {kd : Itk} {t : Tg} {ss : List Sm} {body : LM → Store → SR} {D : Ends}
    (h : TSof G none Wi (fun l M => (evEs ss l M).thenS l fun vs M1 => needS (itemsW kd vs M1) fun items => forW (tgW t) body (Still kd vs items) items l M1) D σ H) :
    tFor (iOf G none Wi kd (evEs ss)) (gOf G t) (TSof G none Wi body) D σ H := by
  refine (TSof.bind (fa := evEs ss) (f := fun l vs M1 => needS (itemsW kd vs M1) fun items => forW (tgW t) body (Still kd vs items) items l M1) (rel := RWs G) h).imp fun xs H1 ⟨g1, M1, l1, vs, a1, r1, p1⟩ => ?_
  obtain ⟨items, hit, p1⟩ := PostS.need p1
  refine ⟨g1, M1, vs, items, a1.abs, r1, hit, fun J hJ => ?_⟩
  refine ⟨fun i m σ H => ∃ g M l, i ≤ items.length ∧ m = items.length - i ∧ At G none g M H l σ ∧ RWs G g M H vs xs ∧ PostS G none Wi g M H (forW (tgW t) body (Still kd vs items) (items.drop i) l M) D ∧ itemsW kd vs M = some items, ?_, ?_⟩
  · exact ⟨_, g1, M1, l1, Nat.zero_le _, rfl, a1, r1, p1, hit⟩
  · rintro i m σ H ⟨g, M, l, hi, rfl, at_, rs, p, hit'⟩
    obtain ⟨hgo, hstop⟩ := hJ g M H at_.abs rs hit'
    by_cases hlt : i = items.length
    · subst hlt
      left
      refine ⟨hstop, ?_⟩
      rw [List.drop_length] at p
      exact p g σ H at_ Evo.refl
    · right
      have hi2 : i < items.length := by omega
      obtain ⟨w, hw⟩ : ∃ w, items[i]? = some w := ⟨_, List.getElem?_eq_getElem hi2⟩
      have hdrop : items.drop i = w :: items.drop (i + 1) := by
        have h1 : w = items[i] := by rw [List.getElem?_eq_getElem hi2] at hw; exact (Option.some.inj hw).symm
        rw [h1]; exact List.drop_eq_getElem_cons hi2
      rw [hdrop] at p
      obtain ⟨hg, hy⟩ := hgo i w hw
      refine ⟨hg, fun σ' H' => ∃ m', m' < items.length - i ∧ ∃ g M l, i + 1 ≤ items.length ∧ m' = items.length - (i + 1) ∧ At G none g M H' l σ' ∧ RWs G g M H' vs xs ∧ PostS G none Wi g M H' (forW (tgW t) body (Still kd vs items) (items.drop (i + 1)) l M) D ∧ itemsW kd vs M = some items, fun σ' H' h => h, fun x H2 hyl => ?_⟩
      obtain ⟨a2, e2, rw2⟩ := hy x H2 hyl
      unfold forW at p
      obtain ⟨l2, htw, p⟩ := PostS.need p
      refine ⟨g, M, l, w, l2, a2, at_.lr.evo at_.abs.len e2, rw2, htw, fun σ2 _ lr2 => ?_⟩
      have at2 : At G none g M H2 l2 σ2 := ⟨a2, lr2, fun c q => by cases q⟩
      have rs2 := rs.evo at_.abs.len e2
      have p2 := PostS.evo at_.abs.len e2 p
      refine ⟨g, M, l2, at2, ?_⟩
      cases hb : body l2 M with
      | nx l3 M3 =>
        rw [hb] at p2
        simp only at p2
        split at p2
        · rename_i hst
          exact fun g3 σ3 H3 a3 e3 => ⟨_, by omega, g3, M3, l3, by omega, rfl, a3, rs2.evo a2.len e3, PostS.evo a2.len e3 p2, hst⟩
        · exact p2.elim
      | ct l3 M3 =>
        rw [hb] at p2
        simp only at p2
        split at p2
        · rename_i hst
          exact fun g3 σ3 H3 a3 e3 => ⟨_, by omega, g3, M3, l3, by omega, rfl, a3, rs2.evo a2.len e3, PostS.evo a2.len e3 p2, hst⟩
        · exact p2.elim
      | bk l3 M3 =>
        rw [hb] at p2
        exact fun g3 σ3 H3 a3 e3 => p2 g3 σ3 H3 a3 e3
      | rt v M3 => rw [hb] at p2; exact p2
      | exc cc ns ws l3 M3 => rw [hb] at p2; exact p2
      | err => rw [hb] at p2; exact p2
theorem while_ok {cond : Sm} {body : LM → Store → SR} {D : Ends} (h : TSof G none Wi (whlW cond.t body) D σ H) : tWhile (TTof G none Wi cond.t) (TSof G none Wi body) D σ H := by
  obtain ⟨g, M, l, at_, p⟩ := h
  have p : PostS G none Wi g M H (whlW cond.t body l M) D := p
  unfold whlW at p
  split at p
  · rename_i hex
    refine ⟨fun m σ H => ∃ g M l, At G none g M H l σ ∧ PostS G none Wi g M H (whlN cond.t body m l M) D, ⟨_, g, M, l, at_, p⟩, ?_⟩
    rintro m σ H ⟨g, M, l, a, p⟩
    cases m with
    | zero => exact p.elim
    | succ n =>
      have p : PostS G none Wi g M H ((cond.t l M).thenS l fun b M1 => if b then (match body l M1 with
        | .nx l2 M2 => whlN cond.t body n l2 M2
        | .ct l2 M2 => whlN cond.t body n l2 M2
        | .bk l2 M2 => .nx l2 M2
        | r => r) else .nx l M1) D := p
      refine ⟨g, M, l, a, (PostS.then (rel := relB) a p).imp fun b H1 ⟨g1, M1, b', a1, e1, r1, p1⟩ => ?_⟩
      have eb : b' = b := r1
      subst eb
      cases b' with
      | false => exact p1 g1 σ H1 a1 Evo.refl
      | true =>
        refine ⟨fun σ' H' => ∃ g M l, At G none g M H' l σ' ∧ PostS G none Wi g M H' (whlN cond.t body n l M) D, fun σ' H' h => ⟨n, Nat.lt_succ_self n, h⟩, g1, M1, l, a1, ?_⟩
        simp only [if_true] at p1
        cases hb : body l M1 with
        | nx l3 M3 =>
          rw [hb] at p1
          exact fun g3 σ3 H3 a3 e3 => ⟨g3, M3, l3, a3, PostS.evo a1.abs.len e3 p1⟩
        | ct l3 M3 =>
          rw [hb] at p1
          exact fun g3 σ3 H3 a3 e3 => ⟨g3, M3, l3, a3, PostS.evo a1.abs.len e3 p1⟩
        | bk l3 M3 => rw [hb] at p1; exact fun g3 σ3 H3 a3 e3 => p1 g3 σ3 H3 a3 e3
        | rt v M3 => rw [hb] at p1; exact p1
        | exc cc ns ws l3 M3 => rw [hb] at p1; exact p1
        | err => rw [hb] at p1; exact p1
  · exact p.elim
end

/-! ### the check of statements -/
section
variable (Γ : Glo)
/-- x = [..], the swapped way -/
def swTB (sc : Scope) (tg e : Expr) : Bool := match tg, e with
  | .Name t p, .ListComp _ _ s p2 => decide (sc.names.lookup t = some .local) && (p.line == p2.line) && !(s.names.any fun (n, k) => n == t && (k == .local || k == .cell))
  | _, _ => false
mutual
def okS : S → Ck → Stmt → Bool
  | .expr e, C, x => match x with
    | .Expr y _ => (match e, y with
      | .con _, .Constant (.str _) _ _ => okE Γ e C y
      | _, _ => !compB y && okE Γ e C y)
    | _ => false
  | .asg t e, C, x => match x with
    | .Assign [tg] y _ => C.calm && notStar tg && okTg C t tg && okE Γ e C y && (swTB C.sc tg y || (swFB C.sc tg y && decide (swp C.sc tg y = some none)))
    | _ => false
  | .par is es, C, x => match is, x with
    | [i, j], .Assign [.Tuple [.Name x px, .Name y py] kt pt] (.Tuple [a, b] k2 pt2) _ => C.calm && decide (C.N[i]? = some x) && decide (C.N[j]? = some y) && decide (i ≠ j) && decide (C.sc.names.lookup x = some .local) && decide (C.sc.names.lookup y = some .local) &&
        decide (swp C.sc (.Tuple [.Name x px, .Name y py] kt pt) (.Tuple [a, b] k2 pt2) = some (some [x, y])) && okEs Γ es C [a, b]
    | [i, j, m], .Assign [.Tuple [.Name x px, .Name y py, .Name z pz] kt pt] (.Tuple [a, b, c] k2 pt2) _ => C.calm && decide (C.N[i]? = some x) && decide (C.N[j]? = some y) && decide (C.N[m]? = some z) && decide (i ≠ j) && decide (i ≠ m) && decide (j ≠ m) &&
        decide (C.sc.names.lookup x = some .local) && decide (C.sc.names.lookup y = some .local) && decide (C.sc.names.lookup z = some .local) &&
        decide (swp C.sc (.Tuple [.Name x px, .Name y py, .Name z pz] kt pt) (.Tuple [a, b, c] k2 pt2) = some (some [x, y, z])) && okEs Γ es C [a, b, c]
    | _, _ => false
  | .setSub o i e, C, x => match x with
    | .Assign [.Subscript a b _] c _ => C.calm && plainIxB b && okE Γ o C a && okE Γ i C b && okE Γ e C c
    | _ => false
  | .subNm o i j e, C, x => match x with
    | .Assign [.Tuple [.Subscript a b tp, .Name y np] kt pt] c _ => C.calm && plainIxB b && decide (C.N[j]? = some y) && stoB C y && decide (swp C.sc (.Tuple [.Subscript a b tp, .Name y np] kt pt) c = some none) && okE Γ o C a && okE Γ i C b && okE Γ e C c
    | _ => false
  | .aug i op e, C, x => match x with
    | .AugAssign (.Name y _) op' a _ => C.calm && decide (op = op') && (decide (op = .Add) || decide (op = .Sub)) && decide (C.N[i]? = some y) && stoB C y && okE Γ e C a
    | _ => false
  | .ife c a b, C, x => match x with
    | .If y u v _ => okE Γ c C y && okSs a C u && okSs b C v
    | _ => false
  | .for kd src t body, C, x => match x with
    | .For tg iter bd [] _ => C.calm && foldB iter && okTg C t tg && okSs body C bd && (match iterArgs C kd tg iter with
      | some zs => okEs Γ src C zs
      | none => false)
    | _ => false
  | .setAtt o f e, C, x => match x with
    | .Assign [.Attribute a f' _] c _ => C.calm && decide (f = f') && okE Γ o C a && okE Γ e C c
    | _ => false
  | .bad, _, _ => true
  | .whl c body, C, x => match x with
    | .While y bd [] _ => C.calm && okE Γ c C y && okSs body C bd
    | _ => false
  | .ret e, C, x => match x with
    | .Return (some y) _ => okE Γ e C y
    | _ => false
  | .retN, _, x => match x with
    | .Return none _ => true
    | _ => false
  | .pass, _, x => match x with
    | .Pass _ => true
    | _ => false
  | .brk, _, x => match x with
    | .Break _ => true
    | _ => false
  | .cont, _, x => match x with
    | .Continue _ => true
    | _ => false
  | _, _, _ => false
def okSs : List S → Ck → List Stmt → Bool
  | [], _, [] => true
  | s :: ss, C, x :: xs => okS s C x && okSs ss C xs
  | _, _, _ => false
end
end
end PyI

namespace PyI
open PySem PySem.Spec PyProof.Rows L2
section
variable {G : GE} {Γ : Glo} {k : Nat} {cur : Option Cur} {C : Ck} {cu : Option Cu} {Wi : WX} {X : Cx}
theorem GC.cu0 (g : GC G Γ k cur C cu Wi X) (hc : C.calm = true) : cu = none ∧ cur = none := by
  have h := g.cuN hc
  exact ⟨h, by rw [← g.cur, h]; rfl⟩
/-- x = [..], stored the swapped way -/
theorem lc_stmt {fz : Bool} {own : List (Str × Nat)} {kd : Itk} {src cond : List E} {t : Tg} {elt : E} {i : Nat} {x : Str} {px spos pos : Pos} {y tg iter : Expr} {ifs : List Expr} {scope : Scope} (g : GC G Γ k none C none Wi X)
    (h : okE Γ (.lc fz own kd src t cond elt) C (.ListComp y [⟨tg, iter, ifs, 0⟩] scope pos) = true) (hi : C.N[i]? = some x) (hl : C.sc.names.lookup x = some .local) (hline : (px.line == pos.line) = true) (hk : C.sc.kind = .function)
    (hA : (scope.names.any fun (n, k) => n == x && (k == .local || k == .cell)) = false) :
    PS X (.Assign [.Name x px] (.ListComp y [⟨tg, iter, ifs, 0⟩] scope pos) spos) (TSof G none Wi fun l M => ((ev Γ none (.lc fz own kd src t cond elt)).v l M).thenS l fun w M1 => needS (tgW (.nm i) w l) fun l1 => .nx l1 M1) := by
  obtain ⟨l, hs, ha⟩ := okE_shape h
  simp only [ev]
  unfold shape shLc at hs
  dsimp only at hs
  obtain ⟨hb, hs⟩ := ckL_ok hs
  obtain ⟨zs, hz, hs⟩ := Option.bind_eq_some_iff.mp hs
  obtain ⟨l1, hl1, hs⟩ := Option.bind_eq_some_iff.mp hs
  obtain ⟨l2, hl2, rfl⟩ := Option.map_eq_some_iff.mp hs
  simp only [Bool.and_eq_true, decide_eq_true_eq, List.all_eq_true] at hb
  obtain ⟨⟨⟨⟨⟨h1, h2⟩, h3⟩, h4⟩, h5⟩, h6⟩ := hb
  obtain ⟨a1, a2⟩ := ha.cons
  obtain ⟨a3, a4⟩ := a2.app
  have ih : IHn G Γ k 39 := okN_ok 39
  have hb : ∀ (s : Shared) (H : Hp) (C' : Addr) (cl : List (Str × Addr)) (fp : List Addr), GC G Γ k none (blkC C scope) none W0 (X.blk s H scope (compEnvC scope cl C' X.env) fp) := fun s H C' cl fp => g.blk h1
  have hcl : (evL Γ none cond).length ≤ 1 := by rw [evL_length, obs_len hl2]; exact h5
  have hit := iter_pi g.g hz (obs_ok ih g hl1 a4)
  refine (ps_setLc (own := own) (te := TEof G none W0 (ev Γ none elt).v) (tt := ttOf G (evL Γ none cond)) (g.g.calm h1) (by rw [g.g.xN]; exact g.g.nd) (by rw [g.g.xN]; exact hi) (by rw [g.g.sc]; exact hl)
    (sw_true (by rw [g.g.sc]; exact hk) (by rw [g.g.sc]; exact hl) hline hA) hit (by rw [g.g.xN, g.g.sc]; exact blk_of h2)
    (fun s H C' cl fp => okTg_ok (hb s H C' cl fp) h1 h6) (fun s H C' cl fp => pts_of' h5 (obs_ok ih (hb s H C' cl fp) hl2 a3)) (fun s H C' cl fp => (ih (hb s H C' cl fp) a1).pe) (fold_of h4)).imp fun D σ H q => ?_
  refine lc_ok h3 (tt_of hcl) ((TSof.bind (fa := evLc fz own kd (evL Γ none src) t (evL Γ none cond) (ev Γ none elt)) (f := fun l w M1 => needS (tgW (.nm i) w l) fun l1 => .nx l1 M1) (rel := RW G) q).imp fun v H1 ⟨g1, M1, l, w, a1, r1, p⟩ => ?_)
  obtain ⟨l1, hl1, p⟩ := PostS.need p
  cases hl1
  exact p g1 _ H1 (a1.setL (a1.lr.set i r1)) Evo.refl
theorem comp_is {e : E} {y : Expr} {gs : List Comprehension} {scope : Scope} {pos : Pos} (h : okE Γ e C (.ListComp y gs scope pos) = true) : e = .bad ∨ ∃ fz own kd src t cond elt tg iter ifs, e = .lc fz own kd src t cond elt ∧ gs = [⟨tg, iter, ifs, 0⟩] := by
  obtain ⟨l, hs, _⟩ := okE_shape h
  unfold shape at hs
  cases e with
  | lc fz own kd src t cond elt =>
    dsimp only at hs
    unfold shLc at hs
    split at hs
    · rename_i heq
      cases heq
      exact .inr ⟨_, _, _, _, _, _, _, _, _, _, rfl, rfl⟩
    · cases hs
  | bad => exact .inl rfl
  | prm p as => cases p <;> cases hs
  | _ => cases hs
theorem bad_ts {f : W → LM → Store → SR} {st : Stmt} (f : LM → W → Store → SR) : PS X st (TSof G cu Wi fun l M => ((ev Γ cur .bad).v l M).thenS l (f l)) :=
  ⟨fun pins s σ H D I ⟨_, _, _, _, p⟩ => by simp only [ev] at p; exact p.elim⟩
mutual
theorem okS_ok : ∀ (s : S) {C : Ck} {cur : Option Cur} {cu : Option Cu} {Wi : WX} {X : Cx} {x : Stmt}, GS G Γ k cur C cu Wi X → okS Γ s C x = true → PS X x (TSof G cu Wi (evS Γ s cur))
  | .expr e, C, cur, cu, Wi, X, x, gs, h => by
    simp only [okS] at h
    split at h
    · rename_i y pos
      have fin : ∀ {y : Expr}, compB y = false → okE Γ e C y = true → PS X (.Expr y pos) (TSof G cu Wi (evS Γ (.expr e) cur)) := fun {y} h1 h2 => by
        refine (ps_expr (okE_ok e gs.e h2).pe (sw_not h1)).imp fun D σ H q => ?_
        simp only [evS] at q
        exact (TSof.bind (fa := (ev Γ cur e).v) (f := fun l _ M1 => .nx l M1) (rel := RW G) q).imp fun v H1 ⟨g1, M1, l, w, a1, r1, p⟩ => p g1 σ H1 a1 Evo.refl
      split at h
      · exact fin rfl h
      · simp only [Bool.and_eq_true, Bool.not_eq_true'] at h
        exact fin h.1 h.2
    · cases h
  | .asg t e, C, cur, cu, Wi, X, x, gs, h => by
    simp only [okS] at h
    split at h
    · rename_i tg y pos
      simp only [Bool.and_eq_true, Bool.or_eq_true, decide_eq_true_eq] at h
      obtain ⟨⟨⟨⟨h1, h2⟩, h3⟩, h4⟩, h5⟩ := h
      obtain ⟨rfl, rfl⟩ := gs.e.cu0 h1
      simp only [evS]
      rcases h5 with h5 | ⟨h5, h6⟩
      · unfold swTB at h5
        split at h5
        · rename_i n p y' gens s p2
          simp only [Bool.and_eq_true, decide_eq_true_eq, Bool.not_eq_true'] at h5
          obtain ⟨⟨k1, k2⟩, k3⟩ := h5
          rcases comp_is h4 with rfl | ⟨fz, own, kd, src, t', cond, elt, tg', iter, ifs, rfl, rfl⟩
          · exact bad_ts (f := fun _ _ _ => .err) _
          · cases t with
            | tup ts => simp [okTg] at h3
            | nm i =>
              simp only [okTg, Bool.and_eq_true, decide_eq_true_eq] at h3
              exact lc_stmt gs.e h4 h3.1 k1 k2 gs.knd k3
        · cases h5
      · exact ps_asgT (okE_ok e gs.e h4) (okTg_ok gs.e h1 h3) (by rw [gs.e.g.sc]; exact h5) (swp_ok (by rw [gs.e.g.sc]; exact gs.knd) (by rw [gs.e.g.sc]; exact h6)) h2
    · cases h
  | .par is es, C, cur, cu, Wi, X, x, gs, h => by
    simp only [okS] at h
    split at h
    · simp only [Bool.and_eq_true, decide_eq_true_eq] at h
      obtain ⟨⟨⟨⟨⟨⟨⟨h1, h2⟩, h3⟩, h4⟩, h5⟩, h6⟩, h7⟩, h8⟩ := h
      obtain ⟨rfl, rfl⟩ := gs.e.cu0 h1
      obtain ⟨s, t, e, z1, z2⟩ := (okEs_ok es gs.e h8).inv2
      simp only [evS]
      rw [e]
      exact ps_par2 gs h1 h2 h3 h4 h5 h6 z1 z2 h7
    · simp only [Bool.and_eq_true, decide_eq_true_eq] at h
      obtain ⟨⟨⟨⟨⟨⟨⟨⟨⟨⟨⟨h1, h2⟩, h3⟩, h4⟩, h5⟩, h6⟩, h7⟩, h8⟩, h9⟩, h10⟩, h11⟩, h12⟩ := h
      obtain ⟨rfl, rfl⟩ := gs.e.cu0 h1
      have hx := okEs_ok es gs.e h12
      simp only [evS]
      generalize evL Γ none es = ss at hx ⊢
      cases hx with
      | cons z1 hx =>
        obtain ⟨s, t, e, z2, z3⟩ := hx.inv2
        subst e
        exact ps_par3' gs h1 h2 h3 h4 h5 h6 h7 h8 h9 h10 z1 z2 z3 h11
    · cases h
  | .setSub o i e, C, cur, cu, Wi, X, x, gs, h => by
    simp only [okS] at h
    split at h
    · simp only [Bool.and_eq_true] at h
      obtain ⟨⟨⟨⟨h1, h2⟩, h3⟩, h4⟩, h5⟩ := h
      obtain ⟨rfl, rfl⟩ := gs.e.cu0 h1
      simp only [evS]
      exact ps_sub' gs.e.g.un (okE_ok o gs.e h3) (okE_ok i gs.e h4) (okE_ok e gs.e h5) h2
    · cases h
  | .subNm o i j e, C, cur, cu, Wi, X, x, gs, h => by
    simp only [okS] at h
    split at h
    · simp only [Bool.and_eq_true, decide_eq_true_eq] at h
      obtain ⟨⟨⟨⟨⟨⟨⟨h1, h2⟩, h3⟩, h4⟩, h5⟩, h6⟩, h7⟩, h8⟩ := h
      obtain ⟨rfl, rfl⟩ := gs.e.cu0 h1
      simp only [evS]
      exact ps_subNm gs h1 h3 h4 (okE_ok o gs.e h6) (okE_ok i gs.e h7) (okE_ok e gs.e h8) h2 h5
    · cases h
  | .aug i op e, C, cur, cu, Wi, X, x, gs, h => by
    simp only [okS] at h
    split at h
    · simp only [Bool.and_eq_true, decide_eq_true_eq, Bool.or_eq_true] at h
      obtain ⟨⟨⟨⟨⟨h1, rfl⟩, h3⟩, h4⟩, h5⟩, h6⟩ := h
      obtain ⟨rfl, rfl⟩ := gs.e.cu0 h1
      simp only [evS]
      exact ps_aug' gs h3 h4 h5 (okE_ok e gs.e h6)
    · cases h
  | .ife c a b, C, cur, cu, Wi, X, x, gs, h => by
    simp only [okS] at h
    split at h
    · simp only [Bool.and_eq_true] at h
      refine (ps_if (okE_ok c gs.e h.1.1).pt (okSs_ok a gs h.1.2) (okSs_ok b gs h.2)).imp fun D σ H q => ?_
      simp only [evS] at q
      refine (TSof.bind (fa := (ev Γ cur c).t) (f := fun l k M1 => if k then evSs Γ a cur l M1 else evSs Γ b cur l M1) (rel := relB) q).imp fun kk H1 ⟨g1, M1, l, k', a1, r1, p⟩ => ?_
      have e : k' = kk := r1
      subst e
      cases k' with
      | true => exact ⟨g1, M1, l, a1, p⟩
      | false => exact ⟨g1, M1, l, a1, p⟩
    · cases h
  | .for kd src t body, C, cur, cu, Wi, X, x, gs, h => by
    simp only [okS] at h
    split at h
    · rename_i tg iter bd pos
      simp only [Bool.and_eq_true] at h
      obtain ⟨⟨⟨⟨h1, h2⟩, h3⟩, h4⟩, h5⟩ := h
      obtain ⟨rfl, rfl⟩ := gs.e.cu0 h1
      have hit : PI X tg iter (iOf G none Wi kd (evEs (evL Γ none src))) := by
        split at h5
        · rename_i zs hz
          exact iter_pi gs.e.g hz (okEs_ok src gs.e h5)
        · cases h5
      refine (ps_for (gs.po h1) (gs.e.g.calm h1) hit (okTg_ok gs.e h1 h3) (okSs_ok body gs h4) (fold_of h2)).imp fun D σ H q => ?_
      simp only [evS] at q
      exact for_ok q
    · cases h
  | .whl c body, C, cur, cu, Wi, X, x, gs, h => by
    simp only [okS] at h
    split at h
    · simp only [Bool.and_eq_true] at h
      obtain ⟨⟨h1, h2⟩, h3⟩ := h
      obtain ⟨rfl, rfl⟩ := gs.e.cu0 h1
      refine (ps_while (gs.po h1) (okE_ok c gs.e h2).pt (okSs_ok body gs h3)).imp fun D σ H q => ?_
      simp only [evS] at q
      exact while_ok q
    · cases h
  | .ret e, C, cur, cu, Wi, X, x, gs, h => by
    simp only [okS] at h
    split at h
    · refine (ps_ret (okE_ok e gs.e h).pe).imp fun D σ H q => ?_
      simp only [evS] at q
      exact (TSof.bind (fa := (ev Γ cur e).v) (f := fun l w M1 => .rt w M1) (rel := RW G) q).imp fun v H1 ⟨g1, M1, l, w, a1, r1, p⟩ => p g1 v H1 a1.abs Evo.refl r1
    · cases h
  | .retN, C, cur, cu, Wi, X, x, gs, h => by
    simp only [okS] at h
    split at h
    · refine ps_retN.imp fun D σ H ⟨g, M, l, a, p⟩ => ?_
      simp only [evS] at p
      exact p g .non H a.abs Evo.refl rfl
    · cases h
  | .pass, C, cur, cu, Wi, X, x, gs, h => by
    simp only [okS] at h
    split at h
    · refine ps_pass.imp fun D σ H ⟨g, M, l, a, p⟩ => ?_
      simp only [evS] at p
      exact p g σ H a Evo.refl
    · cases h
  | .brk, C, cur, cu, Wi, X, x, gs, h => by
    simp only [okS] at h
    split at h
    · refine ps_break.imp fun D σ H ⟨g, M, l, a, p⟩ => ?_
      simp only [evS] at p
      exact p g σ H a Evo.refl
    · cases h
  | .cont, C, cur, cu, Wi, X, x, gs, h => by
    simp only [okS] at h
    split at h
    · refine ps_continue.imp fun D σ H ⟨g, M, l, a, p⟩ => ?_
      simp only [evS] at p
      exact p g σ H a Evo.refl
    · cases h
  | .setAtt o f e, C, cur, cu, Wi, X, x, gs, h => by
    simp only [okS] at h
    split at h
    · simp only [Bool.and_eq_true, decide_eq_true_eq] at h
      obtain ⟨⟨⟨h1, rfl⟩, h2⟩, h3⟩ := h
      obtain ⟨rfl, rfl⟩ := gs.e.cu0 h1
      simp only [evS]
      exact ps_att' gs.e.g.K gs.e.top (okE_ok o gs.e h2) (okE_ok e gs.e h3)
    · cases h
  | .bad, C, cur, cu, Wi, X, x, gs, h => ⟨fun pins s σ H D I ⟨_, _, _, _, p⟩ => by simp only [evS] at p; exact p.elim⟩
  | .raise _ _, _, _, _, _, _, _, _, h => by simp [okS] at h
  | .raiseIn _ _, _, _, _, _, _, _, _, h => by simp [okS] at h
  | .tri _ _, _, _, _, _, _, _, _, h => by simp [okS] at h
theorem okSs_ok : ∀ (ss : List S) {C : Ck} {cur : Option Cur} {cu : Option Cu} {Wi : WX} {X : Cx} {xs : List Stmt}, GS G Γ k cur C cu Wi X → okSs Γ ss C xs = true → PSs X xs (TSof G cu Wi (evSs Γ ss cur))
  | [], C, cur, cu, Wi, X, [], gs, h => by
    refine pss_nil.imp fun D σ H ⟨g, M, l, a, p⟩ => ?_
    simp only [evSs] at p
    exact p g σ H a Evo.refl
  | [], C, cur, cu, Wi, X, _ :: _, gs, h => by simp [okSs] at h
  | s :: ss, C, cur, cu, Wi, X, [], gs, h => by simp [okSs] at h
  | s :: ss, C, cur, cu, Wi, X, x :: xs, gs, h => by
    simp only [okSs, Bool.and_eq_true] at h
    refine (pss_cons (okS_ok s gs h.1) (okSs_ok ss gs h.2)).imp fun D σ H ⟨g, M, l, a, p⟩ => ?_
    simp only [evSs] at p
    refine ⟨g, M, l, a, ?_⟩
    cases hr : evS Γ s cur l M with
    | nx l1 M1 =>
      rw [hr] at p
      exact fun g1 σ1 H1 a1 e1 => ⟨g1, M1, l1, a1, PostS.evo a.abs.len e1 p⟩
    | rt w M1 => rw [hr] at p; exact p
    | bk l1 M1 => rw [hr] at p; exact p
    | ct l1 M1 => rw [hr] at p; exact p
    | exc c ns ws l1 M1 => rw [hr] at p; exact p
    | err => rw [hr] at p; exact p
end
end
end PyI

namespace PyI
open PySem PySem.Spec PyProof.Rows L2
/-! ### a def keeps its promise -/
/-- FnScope, as a check -/
def scopeB (N P : List Str) (sc : Scope) : Bool := decide (sc.kind = .function) && !sc.isCoroutine && !sc.isGenerator && decide N.Nodup && decide (N.take P.length = P) &&
  (P.all fun x => decide (sc.names.lookup x = some .local) || decide (sc.names.lookup x = some .cell)) && (sc.names.all fun y => !decide (y.2 = .free))
theorem scope_of {N P : List Str} {sc : Scope} (h : scopeB N P sc = true) : FnScope N P sc := by
  simp only [scopeB, Bool.and_eq_true, decide_eq_true_eq, List.all_eq_true, Bool.or_eq_true, Bool.not_eq_true', decide_eq_false_iff_not] at h
  obtain ⟨⟨⟨⟨⟨⟨h1, h2⟩, h3⟩, h4⟩, h5⟩, h6⟩, h7⟩ := h
  exact ⟨h1, h2, h3, h4, h5, h6, h7⟩
theorem FnScope.len {N P : List Str} {sc : Scope} (S : FnScope N P sc) : P.length ≤ N.length := by
  have := congrArg List.length S.pre
  rw [List.length_take] at this
  omega
section
variable {G : GE} {Γ : Glo} {P : Program} {w : World} {mg : Str → Option Value} {base : Heap} {k : Nat}
theorem start_lr {g : Gh} {M : Store} {H : Hp} {N : List Str} {ws : List W} {vs : List V} (r : RWs G g M H ws vs) : LR G g M H (ws.map some ++ List.replicate (N.length - ws.length) none) (L2.start N vs) := by
  have hl := r.length
  refine ⟨by simp [L2.start, hl], fun i x q => ?_⟩
  by_cases hi : i < ws.length
  · rw [List.getElem?_append_left (by simpa using hi), List.getElem?_map] at q
    obtain ⟨y, hy, e⟩ := Option.map_eq_some_iff.mp q
    cases e
    obtain ⟨v, h1, h2⟩ := r.get hy
    refine ⟨v, ?_, h2⟩
    unfold L2.start
    rw [List.getElem?_append_left (by simp; omega), List.getElem?_map, h1]; rfl
  · rw [List.getElem?_append_right (by simp; omega)] at q
    rw [List.getElem?_replicate] at q
    split at q <;> cases q
/-- what the check of a def asks -/
def defB (Γ : Glo) (D : Df) (np : Nat) (params : Arguments) (body : List Stmt) (scope : Scope) : Bool :=
  plainP params && decide (parNames params = D.ps) && decide (params.args.length = np) && scopeB D.N D.ps scope && okSs Γ D.body ⟨D.N, scope, none, true⟩ body
theorem def_ok {x qual : Str} {params : Arguments} {body : List Stmt} {scope : Scope} {kws : List (Str × V)} {f : Addr} {fd : FuncData} {D : Df} {np : Nat} (F : FunD G.K x qual params body scope [] kws f fd)
    (T : Tops G Γ P w mg base k) (hb : ∀ x ∈ bltNames, mg x = none) (h : defB Γ D np params body scope = true) : FnP G P w mg base (k + 4) f ⟨D.ps, np, runW Γ D⟩ := by
  simp only [defB, Bool.and_eq_true, decide_eq_true_eq] at h
  obtain ⟨⟨⟨⟨h1, h2⟩, h3⟩, h4⟩, h5⟩ := h
  have S := scope_of h4
  refine ⟨⟨fd, fnG_of F S fun cdv A outer s H vs Q E hr hl hsp => ?_, fun s us ws ks hk hkl hn => ?_⟩, F.kp⟩
  · obtain ⟨g, M, ws, a, r, hlen, p⟩ := hsp
    have gs : GS G Γ k none ⟨D.N, scope, none, true⟩ none (fun cls d _ H => E cls d H) (cxOf (CX P w) P w G.K mg base D.N qual scope f cdv A outer s H E) := by
      refine ⟨⟨⟨rfl, rfl, S.nd, rfl, hb, hr.gd, ?_, fun _ => rfl⟩, T, fun _ => hr, fun x _ => rfl, takes_of rfl rfl rfl rfl, fun _ => rfl, rfl⟩, rfl, S.kind, fun _ => passes_of rfl⟩
      have := hr.room.un
      show (A.deeper _).units + 200 < cLine
      omega
    refine ⟨_, okSs_ok D.body gs h5, g, M, ws.map some ++ List.replicate (D.N.length - ws.length) none, ⟨a, start_lr r, fun c q => by cases q⟩, ?_⟩
    have p : PostF G g M H (runW Γ D ws M) Q E := p
    unfold runW at p
    rw [if_pos hlen] at p
    cases hr : evSs Γ D.body none (ws.map some ++ List.replicate (D.N.length - ws.length) none) M with
    | nx l1 M1 => rw [hr] at p; exact fun g' σ' H' a' e' => p g' .non H' a'.abs e' rfl
    | rt v M1 => rw [hr] at p; exact fun g' v H' a' e' rv => p g' v H' a' e' rv
    | bk l1 M1 => rw [hr] at p; exact p.elim
    | ct l1 M1 => rw [hr] at p; exact p.elim
    | exc c ns us l1 M1 => rw [hr] at p; exact fun g' σ' cls d H' a' e' x => p g' cls d H' a'.abs e' x
    | err => rw [hr] at p; exact p.elim
  · obtain ⟨oc, od, dV, kV, doc, pm, an, cdv, ct, osl, rfl, lk, hcd, hD, hK⟩ := F.ex
    have hd : dV = .none := by
      rcases hD with ⟨_, e⟩ | ⟨e, _⟩
      · exact e
      · exact absurd rfl e
    subst hd
    rw [← h2, ← h3] at hk
    rw [← h2] at hn
    have := bind_zip (fd := PySem.W.fnOf x qual params body scope .none kV doc pm an cdv ct) h1 rfl hk hkl hn
    rw [h2] at this
    exact BindsTo.of_eq this
end

/-! ### the law -/
theorem law_callG {P : Program} {w : World} {G : GE} {mg mb : Str → Option Value} {k : Nat} {fa a : Addr} {fi : FnI} {x : Str} {s₁ : Shared} {vs : List Value} {ns : List Int} {M' : Store}
    (KX : G.K.In s₁.heap) (hns : s₁.heap.Ns mainGlobals mg) (hb : s₁.heap.Ns builtinsNs mb) (hbb : ∀ x : Str, x ≠ "__name__" → mb x = bootBuiltins x) (hlim : s₁.heap.NoLimit) (hg : s₁.gens = #[])
    (ha : s₁.heap.get? a = some { cls := .type "list", data := .seq vs.toArray }) (hi : IntsAre vs ns) (hl : ns.length ≤ sizeLine) (hr : Room k callerA)
    (F : ∀ base : Heap, G.K.In base → base.Ns mainGlobals mg → FnP G P w mg base k fa fi) (hps : fi.ps = [x]) (hnp : fi.np = 1) (hsem : fi.sem [.scr ns] [] = .ok (.bl true) M') :
    codeAny (model P w) callerA (.call (.ref fa) ⟨[.ref a], []⟩) (fun r s' => r = .ok (.ret (.bool true)) ∧ OldK s₁.heap s'.heap ∧ s'.os = s₁.os ∧ AllBare s'.gens) s₁ := by
  have rv := vals_ints hi
  have lenV := hi.length
  have core : ∀ H : Hp, Only H → SqL G.K H a (ns.map V.int) → HOk P w H s₁.heap → (∀ b, H b ≠ none → b = a) → (H a ≠ none → G.K.lookup a = none) →
      codeAny (model P w) callerA (.call (.ref fa) ⟨[.ref a], []⟩) (fun r s' => r = .ok (.ret (.bool true)) ∧ OldK s₁.heap s'.heap ∧ s'.os = s₁.os ∧ AllBare s'.gens) s₁ := by
    intro H hO hS hok hA hK
    have base_of : ∀ {b : Addr} {o : Obj}, s₁.heap.get? b = some o → H b = none → (hidT s₁.heap H).get? b = some o := fun e n => hidT_get e n
    have noA : ∀ {b : Addr} {o : Obj} {es : Array DictEntry} {ep : Nat}, s₁.heap.get? b = some o → o.data = .dict es ep → H b = none := fun {b o es ep} e d => by
      cases q : H b with
      | none => rfl
      | some u =>
        have e' : b = a := hA b (by rw [q]; simp)
        subst e'
        rw [ha] at e; cases e
        have d' : Data.seq vs.toArray _ = Data.dict es ep := d
        cases d'
    have nsK : ∀ {b : Addr} {m : Str → Option Value}, s₁.heap.Ns b m → (hidT s₁.heap H).Ns b m := fun {b m} ⟨o, es, ep, e, d, r⟩ => ⟨o, es, ep, base_of e (noA e d), d, r⟩
    have hKb : G.K.In (hidT s₁.heap H) := fun b o e => base_of (KX b o e) (by
      cases q : H b with
      | none => rfl
      | some u =>
        have e' : b = a := hA b (by rw [q]; simp)
        subst e'
        rw [hK (by rw [q]; simp)] at e; cases e)
    have hM : Mod G.K mg (hidT s₁.heap H) := ⟨hKb, nsK hns, ⟨mb, nsK hb, hbb⟩, let ⟨mc, h1, h2⟩ := hlim; ⟨mc, nsK h1, h2⟩⟩
    have e0 : Env0 P w G.K mg (hidT s₁.heap H) callerA [] s₁ H := ⟨rfl, hM, fun b o e => of_hidT e, Nat.le_of_eq (hidT_size _ _), trivial, fun b hb => absurd (show b ∈ ([] : List Addr) from hb) (by simp), hok, .of_eq hg⟩
    obtain ⟨fd, F1, F2⟩ := (F _ hKb (nsK hns)).ex
    have hps1 : fi.ps.length = 1 := by rw [hps]; rfl
    have bnd : BindsTo s₁ fd ⟨[.ref a], []⟩ (fi.ps.zip [.ref a]) := by
      have := F2 s₁ [.ref a] [] [] (kwFit_nil (by rw [hps, hnp]; exact Nat.le_refl _) (by rw [hps]; simp) (by rw [hps1]; rfl)) rfl (by rw [hps1]; rfl)
      exact this
    have hsp : spOf G fi.ps.length fi.sem [.ref a] H (fun v _ => v = .bl true) (fun _ _ _ => False) := by
      refine ⟨⟨[], []⟩, [], [.scr ns], ⟨rfl, by simp, by simp, by simp, by simp⟩, ⟨.ref a, [], rfl, ⟨a, rfl, ?_⟩, rfl⟩, by rw [hps1]; rfl, ?_⟩
      · rcases hS with h | h
        · exact .inl ⟨h, by simp, fun i c h1 => by simp at h1⟩
        · exact .inr h
      · rw [hsem]
        exact fun g' v H' _ _ rv => rv
    refine codeAny_mono (F1.run callerA [] s₁ H ⟨[.ref a], []⟩ [.ref a] [.ref a] _ _ ⟨hr, rfl⟩ e0 (by rw [hps1]; rfl) bnd (.cons rfl .nil) hsp) fun r s' h => ?_
    cases r with
    | error e =>
      obtain ⟨_, _, _, _, _, _, _, _, _, _, _, _, h⟩ := h
      exact h.elim
    | ok fl =>
      cases fl with
      | next => exact False.elim h
      | brk => exact False.elim h
      | cont => exact False.elim h
      | ret u =>
        obtain ⟨v, H', os, bare, un, hok', r', q⟩ := h
        have q' : v = .bl true := q
        subst q'
        obtain rfl : u = Value.bool true := r'
        refine ⟨rfl, OldK.of_keep fun b o e => ?_, os, bare⟩
        cases q : H b with
        | none => exact un.keep b o e q (by intro z; exact absurd (show b ∈ ([] : List Addr) from z) (by simp)) (by simp)
        | some u =>
          rcases hO b with z | ⟨ob, xs, z⟩
          · rw [q] at z; cases z
          · have z2 := un.frzs b ob _ z
            obtain ⟨e1, _⟩ := hok b _ z
            obtain ⟨e2, _⟩ := hok' b _ z2
            rw [e] at e1; cases e1
            exact e2
  cases hk : G.K.lookup a with
  | some o =>
    have e := KX a o hk
    rw [ha] at e
    cases e
    refine core (fun _ => none) (fun _ => .inl rfl) (.inr ⟨_, vs.toArray, _, hk, rfl, rfl, rfl, by rw [List.size_toArray, lenV]; exact hl, by simpa using rv⟩) (fun b u z => by have z' : (none : Option HO) = some u := z; cases z') (fun b z => absurd rfl z) fun z => absurd rfl z
  | none =>
    refine core (fun b => if b = a then some (.frz { cls := .type "list", data := .seq vs.toArray } (.lst (ns.map V.int))) else none) (fun b => ?_) (.inl (.inr ⟨{ cls := .type "list", data := .seq vs.toArray }, if_pos rfl⟩)) (fun b u z => ?_) (fun b z => ?_) fun _ => hk
    · by_cases hb : b = a
      · exact .inr ⟨_, _, if_pos hb⟩
      · exact .inl (if_neg hb)
    · by_cases hb : b = a
      · have z' := (if_pos hb).symm.trans z
        cases z'
        subst hb
        exact ⟨ha, by rw [List.length_map]; exact hl, vs, _, rv, ha⟩
      · have z' := (if_neg hb).symm.trans z
        cases z'
    · by_cases hb : b = a
      · exact hb
      · exact absurd (if_neg hb) z
theorem walk_G {l : PySem.W.OpenLaw} {n k : Nat} {q : Program} {loose : List Str} {XP : (Str → Option Value) → Heap → Prop} {YP : World → Heap → Prop} {d : DefRec} {x : Str}
    (hn : l.most = some n) (hn2 : n ≤ sizeLine) (hdf : d.params.defaults = []) (hr : Room k callerA)
    (F : ∀ (w : World) (mg : Str → Option Value) (fa : Addr) (h : Heap), YP w h → h.Ns mainGlobals mg → mg d.name = some (.ref fa) →
      ∃ (G : GE) (fi : FnI), G.K.In h ∧ fi.ps = [x] ∧ fi.np = 1 ∧ (∀ ns : List Int, ns.length ≤ n → ∃ M', fi.sem [.scr ns] [] = .ok (.bl true) M') ∧
        ∀ base : Heap, G.K.In base → base.Ns mainGlobals mg → FnP G l.prog w mg base k fa fi) :
    PySem.W.WalkO q loose XP YP l.row.toRowW d [] (fun f vs => PySem.call f vs) := by
  refine Att.attach_call hn hdf fun w s₀ s₁ mg mb fa o pm cd doc a vs ns Gt Y ho hd hcd hmg hobj hints hlen hg => ?_
  obtain ⟨G, fi, KX, hps, hnp, hsem, hF⟩ := F w mg fa _ Y Gt.T.g hmg
  obtain ⟨M', hM⟩ := hsem ns hlen
  exact law_callG KX Gt.T.g Gt.T.b Gt.T.builtins Gt.T.nolimit hg hobj hints (Nat.le_trans hlen hn2) hr hF hps hnp hM
end PyI

namespace PyI
open PySem PySem.Spec PyProof.Rows L2
/-- a text's global names: its defs, its constants, its classes' methods, constants, fields; the plain classes -/
structure GloD where
  fns : List (Str × FnI) := []
  cons : List (Str × W) := []
  mets : List ((Str × Str) × FnI) := []
  atts : List ((Str × Str) × W) := []
  flds : List (Str × Str) := []
  pls : List Str := []
def mkGlo (d : GloD) : Glo where
  fn := fun x => d.fns.lookup x
  mt := fun c m => d.mets.lookup (c, m)
  con := fun x => d.cons.lookup x
  pl := fun c => decide (c ∈ d.pls)
  att := fun c f => d.atts.lookup (c, f)
  fld := fun c f => decide ((c, f) ∈ d.flds)
  exc := fun _ => none
  kin := fun _ _ => false
theorem mem_of_lookup {α β : Type} [BEq β] [LawfulBEq β] {x : β} {y : α} : ∀ {l : List (β × α)}, l.lookup x = some y → (x, y) ∈ l
  | [], h => by cases h
  | q :: l, h => by
    rw [List.lookup_cons] at h
    split at h
    · rename_i e
      have : x = q.1 := by simpa using e
      cases h
      rw [this]; exact List.mem_cons_self ..
    · exact List.mem_cons_of_mem _ (mem_of_lookup h)
/-! ### facts of the written part -/
mutual
def dvW : W → Option He.Dv
  | .non => some .non
  | .bl b => some (.bl b)
  | .int i => some (.int i)
  | .str x => some (.str x)
  | _ => none
end
def dvWs : List W → Option (List He.Dv)
  | [] => some []
  | w :: ws => (dvW w).bind fun d => (dvWs ws).map (d :: ·)
theorem dvW_ok {G : GE} {w : W} {d : He.Dv} (h : dvW w = some d) : ∀ g M H, RW G g M H w (d.v G.K) := by
  unfold dvW at h
  split at h <;> first | (cases h; exact fun _ _ _ => rfl) | cases h
theorem dvWs_ok {G : GE} : ∀ {ws : List W} {ds : List He.Dv}, dvWs ws = some ds → ∀ g M H, RWs G g M H ws (ds.map (He.Dv.v G.K))
  | [], _, h => by cases h; exact fun _ _ _ => rfl
  | w :: ws, ds, h => by
    simp only [dvWs, Option.bind_eq_some_iff, Option.map_eq_some_iff] at h
    obtain ⟨d, h1, ds', h2, rfl⟩ := h
    exact fun g M H => .cons (dvW_ok h1 g M H) (dvWs_ok h2 g M H)
/-- a constant of the top: a number, a text, a class, a tuple of numbers and texts -/
def conKB (K : PySem.W.Frag) (q : Str × W) : Bool := match q.2 with
  | .int i => (He.Fa.int q.1 i).ok K
  | .str x => (He.Fa.str q.1 x).ok K
  | .cls c => decide (q.1 = c) && (He.Fa.glo c).ok K
  | .tup ws => (He.Fa.glo q.1).ok K && (match dvWs ws with
    | some ds => He.tupB K q.1 ds
    | none => false)
  | _ => false
def insKB (K : PySem.W.Frag) (C : Addr) : Bool := He.eqO (PySem.W.findIn K (.ref C) "__class__") (some (some (.builtin "object.__class__"))) && He.eqO (PySem.W.specialIn K (.builtin "object.__class__") "__get__") (some (some (.builtin "getset_descriptor.__get__"))) &&
  decide (PySem.W.takesIn K (.builtin "object.__class__") = some true) && decide (PySem.W.mroIn K C (.type "object") = some true) && bTypes.all fun t => decide (PySem.W.kitOne K (.ref C) (.type t) = some false) && decide (PySem.W.kitOne K (.type t) (.ref C) = some false)
def plsKB (K : PySem.W.Frag) (pls : List Str) : Bool := pls.all fun c => (He.Fa.glo c).ok K && (He.Fa.cls c).ok K && insKB K (He.ga K c) && pls.all fun d => decide (PySem.W.kitOne K (.ref (He.ga K c)) (.ref (He.ga K d)) = some (decide (c = d)))
def fldKB (K : PySem.W.Frag) (q : Str × Str) : Bool := (He.Fa.cls q.1).ok K && (He.Fa.noat q.1 q.2).ok K
def metKB (K : PySem.W.Frag) (q : Str × Str) : Bool := (He.Fa.glo q.1).ok K && (He.Fa.cls q.1).ok K && (He.Fa.meth q.1 q.2).ok K && (!decide (q.2 = "__init__") || (He.Fa.mkr q.1).ok K)
def attKB (K : PySem.W.Frag) (q : (Str × Str) × W) : Bool := (He.Fa.cls q.1.1).ok K && !PySem.W.copiedNames.contains q.1.2 && (match dvW q.2 with
  | some d => He.conB K q.1.1 q.1.2 d
  | none => false) && PySem.W.readsIn K (He.ga K q.1.1) (.type "type") && He.eqO (PySem.W.specialIn K (.ref (He.ga K q.1.1)) "__getattribute__") (some (some (.builtin "type.__getattribute__"))) && (match PySem.W.findIn K (.ref (He.ga K q.1.1)) q.1.2, PySem.W.findCls K (.ref (He.ga K q.1.1)) (.type "type") q.1.2 with
  | some (some u), some (.val u') => decide (u = u')
  | _, _ => false)
section
variable {G : GE} {P : Program} {w : World} {mg : Str → Option Value} {base : Heap} {k : Nat}
/-- where the classes lie -/
structure CAt (G : GE) (c : Str) : Prop where
  eq : G.cA c = some (He.ga G.K c)
/-- one def's promise, by name -/
def FnAt (G : GE) (P : Program) (w : World) (mg : Str → Option Value) (base : Heap) (k : Nat) (q : Str × FnI) : Prop := ∃ f, mg q.1 = some (.ref f) ∧ FnP G P w mg base k f q.2
def MetAt (G : GE) (P : Program) (w : World) (mg : Str → Option Value) (base : Heap) (k : Nat) (q : (Str × Str) × FnI) : Prop :=
  G.cA q.1.1 = some (He.ga G.K q.1.1) ∧ metKB G.K q.1 = true ∧ mg q.1.1 = some (.ref (He.ga G.K q.1.1)) ∧ FnP G P w mg base k (He.ma G.K (He.ga G.K q.1.1) q.1.2) q.2
def ConAt (G : GE) (mg : Str → Option Value) (q : Str × W) : Prop := ∃ u v, mg q.1 = some u ∧ RelV v u ∧ ∀ g M H, RW G g M H q.2 v
def AttAt (G : GE) (q : (Str × Str) × W) : Prop := G.cA q.1.1 = some (He.ga G.K q.1.1) ∧ attKB G.K q = true
def FldAt (G : GE) (q : Str × Str) : Prop := G.cA q.1 = some (He.ga G.K q.1) ∧ fldKB G.K q = true
def PlsAt (G : GE) (mg : Str → Option Value) (pls : List Str) : Prop := (∀ c ∈ pls, G.cA c = some (He.ga G.K c) ∧ mg c = some (.ref (He.ga G.K c))) ∧ plsKB G.K pls = true
theorem conAt_of {h : Heap} {q : Str × W} (X : G.K.In h) (Gn : h.Ns mainGlobals mg) (hc : ∀ c, q.2 = .cls c → G.cA c = some (He.ga G.K c)) (e : conKB G.K q = true) : ConAt G mg q := by
  obtain ⟨x, w⟩ := q
  unfold conKB at e
  unfold ConAt
  dsimp only at e ⊢
  split at e
  · obtain ⟨t, e⟩ := He.int_ok X Gn e
    exact ⟨_, .int _, e, ⟨t, rfl⟩, fun _ _ _ => rfl⟩
  · obtain ⟨t, e⟩ := He.str_ok X Gn e
    exact ⟨_, .str _, e, ⟨t, rfl⟩, fun _ _ _ => rfl⟩
  · simp only [Bool.and_eq_true, decide_eq_true_eq] at e
    obtain ⟨rfl, e⟩ := e
    exact ⟨_, .ref (He.ga G.K _), He.glo_ok X Gn e, rfl, fun _ _ _ => ⟨_, hc _ rfl, rfl⟩⟩
  · rename_i ws
    simp only [Bool.and_eq_true] at e
    obtain ⟨e1, e2⟩ := e
    split at e2
    · rename_i ds hds
      have e3 := He.tupB_ok e2 (fun _ => none)
      refine ⟨_, .ref (He.ga G.K x), He.glo_ok X Gn e1, rfl, fun g M H => ⟨_, _, rfl, .inr ?_, dvWs_ok hds g M H⟩⟩
      rcases e3 with e3 | e3
      · rcases e3 with z | ⟨o, z⟩ <;> cases z
      · exact e3
    · cases e2
  · cases e
theorem tops_mk {d : GloD} (hf : ∀ q ∈ d.fns, FnAt G P w mg base k q) (hc : ∀ q ∈ d.cons, ConAt G mg q) (hm : ∀ q ∈ d.mets, MetAt G P w mg base k q) (ha : ∀ q ∈ d.atts, AttAt G q) (hl : ∀ q ∈ d.flds, FldAt G q) (hp : PlsAt G mg d.pls) :
    Tops G (mkGlo d) P w mg base k := by
  have mcl : ∀ {c : Str}, (He.Fa.cls c).ok G.K = true → Cls G.K (He.ga G.K c) := fun h => He.cls_ok h
  refine ⟨fun x c h => hc _ (mem_of_lookup h), fun x fi h => hf _ (mem_of_lookup h), fun c fi h => ?_, fun c h => ?_, fun c f h => ?_, fun c f r h => ?_, fun c m fi h => ?_⟩
  · obtain ⟨h1, h2, h3, h4⟩ := hm _ (mem_of_lookup h)
    simp only [metKB, Bool.and_eq_true, Bool.or_eq_true] at h2
    obtain ⟨⟨⟨_, _⟩, _⟩, h5⟩ := h2
    have h5 := h5.resolve_left (by simp)
    exact ⟨_, _, h1, h3, He.mkr_ok h5, h4⟩
  · have hc : c ∈ d.pls := of_decide_eq_true h
    obtain ⟨h1, h2⟩ := hp.1 c hc
    have h3 := List.all_eq_true.mp hp.2 c hc
    simp only [Bool.and_eq_true, List.all_eq_true, decide_eq_true_eq, insKB] at h3
    obtain ⟨⟨⟨h4, h5⟩, ⟨⟨⟨h6, h7⟩, h8⟩, h9⟩, h10⟩, h11⟩ := h3
    refine ⟨_, h1, h2, ⟨mcl h5, He.eqO_ok h6, He.eqO_ok h7, h8, h9⟩, fun t ht => h10 t ht, fun e D he hD => ?_⟩
    have he : e ∈ d.pls := of_decide_eq_true he
    have := (hp.1 e he).1
    rw [hD] at this
    cases this
    exact h11 e he
  · obtain ⟨h1, h2⟩ := hl _ (of_decide_eq_true h)
    simp only [fldKB, Bool.and_eq_true] at h2
    exact ⟨_, h1, mcl h2.1, He.noat_ok h2.2⟩
  · obtain ⟨h1, h2⟩ := ha _ (mem_of_lookup h)
    simp only [attKB, Bool.and_eq_true, Bool.not_eq_true'] at h2
    obtain ⟨⟨⟨⟨⟨h3, h4⟩, h5⟩, h6⟩, h7⟩, h8⟩ := h2
    split at h5
    · rename_i dv hdv
      obtain ⟨u, hu⟩ := He.conB_ok h5 h4
      split at h8
      · rename_i u1 u2 e1 e2
        have e3 : u1 = u2 := of_decide_eq_true h8
        subst e3
        have e4 : u = u1 := by
          have := hu.at_
          rw [e1] at this
          cases this; rfl
        subst e4
        exact ⟨_, _, u, h1, mcl h3, hu, ⟨_, ⟨h6, He.eqO_ok h7⟩, ⟨e2, hu.rel⟩⟩, dvW_ok hdv⟩
      · cases h8
    · cases h5
  · obtain ⟨h1, h2, h3, h4⟩ := hm _ (mem_of_lookup h)
    simp only [metKB, Bool.and_eq_true] at h2
    obtain ⟨⟨⟨_, h5⟩, h6⟩, _⟩ := h2
    exact ⟨_, _, h1, mcl h5, He.meth_ok h6, h4⟩
theorem FnAt.mono {j : Nat} {q : Str × FnI} (h : FnAt G P w mg base j q) (hj : j ≤ k) : FnAt G P w mg base k q := let ⟨f, a, b⟩ := h; ⟨f, a, b.mono hj⟩
theorem MetAt.mono {j : Nat} {q : (Str × Str) × FnI} (h : MetAt G P w mg base j q) (hj : j ≤ k) : MetAt G P w mg base k q := let ⟨a, b, c, e⟩ := h; ⟨a, b, c, e.mono hj⟩
/-- a def of the top -/
theorem at_ok {x : Str} {params : Arguments} {body : List Stmt} {scope : Scope} {kws : List (Str × V)} {f : Addr} {D : Df} {np : Nat} {d : GloD} (hF : ∃ fd, FunD G.K x x params body scope [] kws f fd)
    (hm : mg x = some (.ref f)) (T : Tops G (mkGlo d) P w mg base k) (hb : ∀ x ∈ bltNames, mg x = none) (h : defB (mkGlo d) D np params body scope = true) : FnAt G P w mg base (k + 4) (x, ⟨D.ps, np, runW (mkGlo d) D⟩) :=
  let ⟨_, F⟩ := hF
  ⟨f, hm, def_ok F T hb h⟩
/-- a method -/
theorem met_ok {c x qual : Str} {params : Arguments} {body : List Stmt} {scope : Scope} {kws : List (Str × V)} {D : Df} {np : Nat} {d : GloD} (hF : ∃ fd, FunD G.K x qual params body scope [] kws (He.ma G.K (He.ga G.K c) x) fd)
    (hC : G.cA c = some (He.ga G.K c)) (hk : metKB G.K (c, x) = true) (hm : mg c = some (.ref (He.ga G.K c))) (T : Tops G (mkGlo d) P w mg base k) (hb : ∀ x ∈ bltNames, mg x = none) (h : defB (mkGlo d) D np params body scope = true) :
    MetAt G P w mg base (k + 4) ((c, x), ⟨D.ps, np, runW (mkGlo d) D⟩) :=
  let ⟨_, F⟩ := hF
  ⟨hC, hk, hm, def_ok F T hb h⟩
end
/-! ### what the head looks at -/
def asM (g : Addr → Option Obj) (n : Nat) : List Addr := He.asD g n ++ [cStatics]
abbrev AlM : Type := He.AlD × Bool
def obsM (n : Nat) (fa : List He.Fa) (fn : List He.DefD) (ex : PySem.W.Frag → Bool) (g : Addr → Option Obj) : AlM := (He.obsD fa fn (He.frG g (asM g n)), ex (He.frG g (asM g n)))
def hookM (n : Nat) (fa : List He.Fa) (fn : List He.DefD) (ex : PySem.W.Frag → Bool) : PySem.W.Hook where
  α := AlM
  obs := fun s => obsM n fa fn ex s.heap.get?
  val := fun _ => (He.valD fn, true)
  says := fun _ h => ∃ K : PySem.W.Frag, K.In h ∧ He.SaysD fa fn K ∧ ex K = true
  of := fun _ _ e => ⟨_, He.frG_in, congrArg (fun z : AlM => z.1) e, congrArg (fun z : AlM => z.2) e⟩
  keeps := fun _ _ _ ⟨K, hK, c⟩ k => ⟨K, PySem.W.Frag.In.keeps hK k, c⟩
theorem obsM_eq {n : Nat} {fa : List He.Fa} {fn : List He.DefD} {ex : PySem.W.Frag → Bool} {g : Addr → Option Obj} {s : Shared} (h : ∀ a, g a = s.heap.get? a) : obsM n fa fn ex g = (hookM n fa fn ex).obs s := by
  rw [show g = s.heap.get? from funext h]; rfl
/-! ### the row's text -/
def topOf (p : Program) (i : Nat) : Stmt := p.main.body.getD i (.Pass ⟨0, 0, 0, 0⟩)
def clsBody : Stmt → List Stmt
  | .ClassDef _ _ _ body _ _ _ _ _ _ _ => body
  | _ => []
def metOf (p : Program) (i j : Nat) : Stmt := (clsBody (topOf p i)).getD j (.Pass ⟨0, 0, 0, 0⟩)
def dOf (p : Program) (x : Str) (i : Nat) : He.DefD := ⟨(x, none), x, x, C8.fnArgs (topOf p i), C8.fnBody (topOf p i), C8.fnScope (topOf p i), [], []⟩
def dOfM (p : Program) (c x : Str) (i j : Nat) : He.DefD := ⟨(c, some x), x, c ++ "." ++ x, C8.fnArgs (metOf p i j), C8.fnBody (metOf p i j), C8.fnScope (metOf p i j), [], []⟩
end PyI

namespace PyI
open PySem PySem.Spec PyProof.Rows L2
/-! ### reading the evaluator: calls, loops -/
/-- values without references -/
def flatW (vs : List W) : Bool := vs.all fun v => pureW v
theorem flat_refs : ∀ {vs : List W}, flatW vs = true → refsOf vs = [] ∧ (∀ k, renum k vs = vs) ∧ (vs.all fun v => isRef v || pureW v) = true
  | [], _ => ⟨rfl, fun _ => rfl, rfl⟩
  | v :: vs, h => by
    simp only [flatW, List.all_cons, Bool.and_eq_true] at h
    obtain ⟨h1, h2, h3⟩ := flat_refs (vs := vs) h.2
    have hr : isRef v = false := by cases v <;> first | rfl | (exact absurd h.1 (by simp [pureW]))
    refine ⟨?_, fun k => ?_, by rw [List.all_cons, h3, h.1]; simp⟩
    · cases v <;> first | exact h1 | cases hr
    · cases v <;> first | (cases hr; done) | (show _ :: renum k vs = _; rw [h2])
/-- a call without references, that makes no cell -/
theorem call_flat {f : List W → Store → Res W} {fz : Bool} {vs : List W} {w : W} (M : Store) {Mx : Store} (h : flatW vs = true) (hw : pureW w = true) (hf : f vs [] = .ok w Mx) : callW f fz vs M = .ok w M := by
  obtain ⟨h1, h2, h3⟩ := flat_refs h
  unfold callW
  simp only [h1, h2, List.mapM_nil, Option.pure_def, need, hf]
  rw [if_pos ⟨by simp, by simp, h3⟩]
  simp only [List.length_nil, List.take_zero, List.all_nil, Nat.zero_le, and_self, if_true]
  unfold takeW
  rw [if_pos hw]
  rfl
/-- a call without references, its answer a new cell -/
theorem call_new {f : List W → Store → Res W} {vs : List W} (M : Store) {Mx : Store} {j : Nat} {c : Cell} (h : flatW vs = true) (hf : f vs [] = .ok (.ref j) Mx) (hj : Mx[j]? = some c) (hc : pureC c = true) : callW f false vs M = .ok (.ref M.length) (M ++ [c]) := by
  obtain ⟨h1, h2, h3⟩ := flat_refs h
  unfold callW
  simp only [h1, h2, List.mapM_nil, Option.pure_def, need, hf]
  rw [if_pos ⟨by simp, by simp, h3⟩]
  simp only [List.length_nil, List.take_zero, List.all_nil, Nat.zero_le, and_self, if_true]
  unfold takeW
  rw [if_neg (by simp [pureW])]
  simp only [Bool.false_eq_true, if_false, List.getElem?_nil, hj, need, hc, if_true, putBack]
/-- a call on one cell -/
theorem call_ref {f : List W → Store → Res W} {fz : Bool} {n : Nat} {vs : List W} {w : W} {M : Store} {c c' : Cell} {Mx : Store} (h : flatW vs = true) (hn : M[n]? = some c) (hc : pureC c = true) (hc' : pureC c' = true) (hw : pureW w = true) (hf : f (.ref 0 :: vs) [c] = .ok w (c' :: Mx)) :
    callW f fz (.ref n :: vs) M = .ok w (M.set n c') := by
  obtain ⟨h1, h2, h3⟩ := flat_refs h
  unfold callW
  simp only [refsOf, renum, h1, h2, List.mapM_cons, List.mapM_nil, Option.pure_def, Option.bind_eq_bind, hn, Option.bind_some, need, hf]
  rw [if_pos ⟨by simp, by simp [hc], by rw [List.all_cons, h3]; rfl⟩]
  simp only [List.length_cons, List.length_nil, Nat.zero_add, List.take_succ_cons, List.take_zero, List.all_cons, hc', List.all_nil, Bool.and_true, Nat.le_add_left, and_self, if_true]
  unfold takeW
  rw [if_pos hw]
  rfl
open Classical in
theorem lcW_nil {tg : W → Option LM} {cond : LM → Store → Res Bool} {elt : LM → Store → Res W} {still : Store → Prop} {M : Store} : lcW tg cond elt still [] M = .ok [] M := rfl
open Classical in
/-- turns that keep the store -/
theorem lcW_map {tg : W → Option LM} {cond : LM → Store → Res Bool} {elt : LM → Store → Res W} {still : Store → Prop} {M : Store} {f : W → W} (hs : still M) : ∀ {items : List W}, (∀ x ∈ items, ∃ l, tg x = some l ∧ cond l M = .ok true M ∧ elt l M = .ok (f x) M) → lcW tg cond elt still items M = .ok (items.map f) M
  | [], _ => rfl
  | x :: xs, h => by
    obtain ⟨l, h1, h2, h3⟩ := h x (by simp)
    unfold lcW
    have ih := lcW_map (items := xs) hs fun y hy => h y (List.mem_cons_of_mem _ hy)
    simp only [h1, need, h2, Res.bind, if_true, h3, if_pos hs, ih, List.map_cons]
open Classical in
/-- turns by an invariant of the store -/
theorem lcW_inv {tg : W → Option LM} {cond : LM → Store → Res Bool} {elt : LM → Store → Res W} {still : Store → Prop} (P : Store → Prop) (R : W → Prop) : ∀ {items : List W} {M : Store}, P M → (∀ x ∈ items, ∀ M, P M → ∃ l y M', tg x = some l ∧ cond l M = .ok true M ∧ elt l M = .ok y M' ∧ P M' ∧ still M' ∧ R y) →
    ∃ ys M', lcW tg cond elt still items M = .ok ys M' ∧ P M' ∧ ys.length = items.length ∧ ∀ y ∈ ys, R y
  | [], M, hP, _ => ⟨[], M, rfl, hP, rfl, by simp⟩
  | x :: xs, M, hP, h => by
    obtain ⟨l, y, M', h1, h2, h3, h4, h5, h6⟩ := h x (by simp) M hP
    obtain ⟨ys, M2, k1, k2, k3, k4⟩ := lcW_inv P R (items := xs) h4 fun z hz => h z (by simp [hz])
    refine ⟨y :: ys, M2, ?_, k2, by simp [k3], fun z hz => ?_⟩
    · unfold lcW
      simp only [h1, need, h2, Res.bind, if_true, h3, if_pos h5, k1]
    · rcases List.mem_cons.mp hz with e | e
      · rw [e]; exact h6
      · exact k4 z e
open Classical in
/-- a loop by an invariant: no turn leaves it -/
theorem forW_inv {tg : W → LM → Option LM} {body : LM → Store → SR} {still : Store → Prop} (P : LM → Store → Prop) : ∀ {items : List W} {l : LM} {M : Store}, P l M → (∀ x ∈ items, ∀ l M, P l M → ∃ l1 l2 M2, tg x l = some l1 ∧ body l1 M = .nx l2 M2 ∧ P l2 M2 ∧ still M2) →
    ∃ l' M', forW tg body still items l M = .nx l' M' ∧ P l' M'
  | [], l, M, hP, _ => ⟨l, M, rfl, hP⟩
  | x :: xs, l, M, hP, h => by
    obtain ⟨l1, l2, M2, h1, h2, h3, h4⟩ := h x (by simp) l M hP
    obtain ⟨l', M', k1, k2⟩ := forW_inv P (items := xs) h3 fun z hz => h z (by simp [hz])
    refine ⟨l', M', ?_, k2⟩
    unfold forW
    simp only [h1, needS, h2, if_pos h4, k1]
open Classical in
theorem evLc_map {fz : Bool} {own : List (Str × Nat)} {k : Itk} {src : List Sm} {t : Tg} {cond : List Sm} {elt : Sm} {l : LM} {M : Store} {vs items : List W} (f : W → W) (h1 : evEs src l M = .ok vs M) (h2 : itemsW k vs M = some items) (hl : items.length ≤ sizeLine)
    (h : ∀ x ∈ items, ∃ l', tgW t x (wipeW l (own.map (·.2))) = some l' ∧ evAndT cond l' M = .ok true M ∧ elt.v l' M = .ok (f x) M) : evLc fz own k src t cond elt l M = newL fz (items.map f) M := by
  have e := lcW_map (tg := fun x => tgW t x (wipeW l (own.map (·.2)))) (cond := evAndT cond) (elt := elt.v) (still := Still k vs items) (M := M) (f := f) h2 h
  unfold evLc
  simp only [h1, Res.bind, h2, need, e, Res.calm, List.length_map, if_pos hl]
open Classical in
theorem evLc_inv {fz : Bool} {own : List (Str × Nat)} {k : Itk} {src : List Sm} {t : Tg} {cond : List Sm} {elt : Sm} {l : LM} {M M1 : Store} {vs items : List W} (P : Store → Prop) (R : W → Prop) (h1 : evEs src l M = .ok vs M1) (h2 : itemsW k vs M1 = some items) (hl : items.length ≤ sizeLine) (hP : P M1)
    (h : ∀ x ∈ items, ∀ M, P M → ∃ l' y M', tgW t x (wipeW l (own.map (·.2))) = some l' ∧ evAndT cond l' M = .ok true M ∧ elt.v l' M = .ok y M' ∧ P M' ∧ itemsW k vs M' = some items ∧ R y) :
    ∃ ys M', evLc fz own k src t cond elt l M = newL fz ys M' ∧ P M' ∧ ys.length = items.length ∧ ∀ y ∈ ys, R y := by
  obtain ⟨ys, M', e1, e2, e3, e4⟩ := lcW_inv (tg := fun x => tgW t x (wipeW l (own.map (·.2)))) (cond := evAndT cond) (elt := elt.v) (still := Still k vs items) P R hP h
  refine ⟨ys, M', ?_, e2, e3, e4⟩
  unfold evLc
  simp only [h1, Res.bind, h2, need, e1, Res.calm]
  rw [if_pos (by rw [e3]; exact hl)]
theorem sm_v {v : LM → Store → Res W} : (Sm.of v).v = v := rfl
theorem sm_t {v : LM → Store → Res W} : (Sm.of v).t = dflT v := rfl
theorem ask_str : List.lookup ("str" : Str) askTys = some "str" := by rfl
theorem ask_int : List.lookup ("int" : Str) askTys = some "int" := by rfl
theorem ask_tuple : List.lookup ("tuple" : Str) askTys = some "tuple" := by rfl
theorem ask_list : List.lookup ("list" : Str) askTys = some "list" := by rfl
theorem ask_dict : List.lookup ("dict" : Str) askTys = some "dict" := by rfl
theorem ask_bool : List.lookup ("bool" : Str) askTys = some "bool" := by rfl
theorem evlc_v {Γ : Glo} {cur : Option Cur} {fz : Bool} {own : List (Str × Nat)} {k : Itk} {src cond : List E} {t : Tg} {elt : E} {l : LM} {M : Store} : (ev Γ cur (.lc fz own k src t cond elt)).v l M = evLc fz own k (evL Γ cur src) t (evL Γ cur cond) (ev Γ cur elt) l M := by
  simp only [ev]; rfl
theorem evlc_t {Γ : Glo} {cur : Option Cur} {fz : Bool} {own : List (Str × Nat)} {k : Itk} {src cond : List E} {t : Tg} {elt : E} {l : LM} {M : Store} : (ev Γ cur (.lc fz own k src t cond elt)).t l M = dflT (evLc fz own k (evL Γ cur src) t (evL Γ cur cond) (ev Γ cur elt)) l M := by
  simp only [ev]; rfl
/-- an item by a place from the front -/
theorem atI_nat {α : Type} {xs : List α} {i : Int} (h0 : 0 ≤ i) (h1 : i < xs.length) : ∃ x, x ∈ xs ∧ xs[i.toNat]? = some x ∧ atI xs i = some x := by
  have hi : i.toNat < xs.length := by omega
  refine ⟨xs[i.toNat], List.getElem_mem hi, List.getElem?_eq_getElem hi, ?_⟩
  unfold atI ixN
  rw [if_pos h0, if_pos h1]
  exact List.getElem?_eq_getElem hi
open Classical in
theorem evS_for {Γ : Glo} {cur : Option Cur} {k : Itk} {src : List E} {t : Tg} {body : List S} {l : LM} {M M1 : Store} {vs items : List W} (P : LM → Store → Prop) (h1 : evEs (evL Γ cur src) l M = .ok vs M1) (h2 : itemsW k vs M1 = some items) (hP : P l M1)
    (h : ∀ x ∈ items, ∀ l M, P l M → ∃ l1 l2 M2, tgW t x l = some l1 ∧ evSs Γ body cur l1 M = .nx l2 M2 ∧ P l2 M2 ∧ itemsW k vs M2 = some items) : ∃ l' M', evS Γ (.for k src t body) cur l M = .nx l' M' ∧ P l' M' := by
  obtain ⟨l', M', e1, e2⟩ := forW_inv (tg := tgW t) (body := evSs Γ body cur) (still := Still k vs items) P hP h
  refine ⟨l', M', ?_, e2⟩
  simp only [evS, h1, Res.thenS, h2, needS]
  exact e1
theorem evSs_cons {Γ : Glo} {cur : Option Cur} {s : S} {ss : List S} {l l1 : LM} {M M1 : Store} (h : evS Γ s cur l M = .nx l1 M1) : evSs Γ (s :: ss) cur l M = evSs Γ ss cur l1 M1 := by
  simp only [evSs, h]
theorem rng_items {j : Int} {M : Store} (h0 : 0 ≤ j) (h : j ≤ 1000000) : itemsW .range [.int j] M = some ((List.range j.toNat).map fun (i : Nat) => W.int (i : Int)) := by
  show (if _ then _ else _) = _
  rw [if_pos (by omega)]
theorem bindW_nil {α : Type} {ps : List Str} {as : List α} : bindW ps [] as = as := rfl
theorem eqW_str {M : Store} {a b : Str} : eqW M (.str a) (.str b) = some (decide (a = b)) := rfl
end PyI

namespace PyI
open PySem PySem.Spec PyProof.Rows L2
/-! ### what a run comes to -/
def WPd {α : Type} (r : Res α) (Q : α → Store → Prop) : Prop := match r with
  | .ok a M => Q a M
  | _ => False
structure WP {α : Type} (r : Res α) (Q : α → Store → Prop) : Prop where
  h : WPd r Q
structure K4 where
  nx : LM → Store → Prop
  rt : W → Store → Prop
  bk : LM → Store → Prop
  ct : LM → Store → Prop
def WSd (r : SR) (D : K4) : Prop := match r with
  | .nx l M => D.nx l M
  | .rt w M => D.rt w M
  | .bk l M => D.bk l M
  | .ct l M => D.ct l M
  | _ => False
structure WS (r : SR) (D : K4) : Prop where
  h : WSd r D
theorem WP_eq {α : Type} {r : Res α} {Q : α → Store → Prop} : WP r Q = WPd r Q := propext ⟨fun h => h.h, fun h => ⟨h⟩⟩
theorem WS_eq {r : SR} {D : K4} : WS r D = WSd r D := propext ⟨fun h => h.h, fun h => ⟨h⟩⟩
section
variable {α β : Type} {Q Q' : α → Store → Prop} {M : Store} {l : LM} {D : K4} {Γ : Glo} {cur : Option Cur}
theorem WP_congr {r r' : Res α} (h : r = r') : WP r Q = WP r' Q := by rw [h]
theorem WS_congr {r r' : SR} (h : r = r') : WS r D = WS r' D := by rw [h]
theorem bind_congr' {r r' : Res α} {f : α → Store → Res β} (h : r = r') : r.bind f = r'.bind f := by rw [h]
theorem thenS_congr {r r' : Res α} {f : α → Store → SR} (h : r = r') : r.thenS l f = r'.thenS l f := by rw [h]
theorem need_congr {o o' : Option α} {f : α → Res β} (h : o = o') : need o f = need o' f := by rw [h]
theorem needS_congr {o o' : Option α} {f : α → SR} (h : o = o') : needS o f = needS o' f := by rw [h]
theorem WP_ok {a : α} : WP (.ok a M) Q = Q a M := by rw [WP_eq]; rfl
theorem WP_err : WP (.err : Res α) Q = False := by rw [WP_eq]; rfl
theorem WP_bind {r : Res β} {f : β → Store → Res α} : WP (r.bind f) Q = WP r fun a M => WP (f a M) Q := by simp only [WP_eq]; cases r <;> rfl
theorem WP_ite {c : Prop} [Decidable c] {a b : Res α} : WP (if c then a else b) Q = if c then WP a Q else WP b Q := by split <;> rfl
theorem WP_need {o : Option β} {f : β → Res α} : WP (need o f) Q = ∃ a, o = some a ∧ WP (f a) Q := by
  cases o with
  | none => simp [need, WP_eq, WPd]
  | some a => simp [need]
theorem need_some {a : β} {f : β → Res α} : need (some a) f = f a := rfl
theorem needS_some {a : β} {f : β → SR} : needS (some a) f = f a := rfl
theorem res_ok {a : β} {f : β → Store → Res α} : (Res.ok a M).bind f = f a M := rfl
theorem thenS_ok {a : β} {f : β → Store → SR} : (Res.ok a M).thenS l f = f a M := rfl
theorem WP.imp {r : Res α} (h : WP r Q) (k : ∀ a M, Q a M → Q' a M) : WP r Q' := by
  rw [WP_eq] at h ⊢
  cases r <;> first | exact k _ _ h | exact h
theorem WP.and {r : Res α} (h : WP r Q) (h' : WP r Q') : WP r fun a M => Q a M ∧ Q' a M := by
  rw [WP_eq] at h h' ⊢
  cases r <;> first | exact ⟨h, h'⟩ | exact h
theorem WP.get {r : Res α} (h : WP r Q) : ∃ a M, r = .ok a M ∧ Q a M := by
  rw [WP_eq] at h
  cases r <;> first | exact ⟨_, _, rfl, h⟩ | exact h.elim
theorem WP.of_eq {r : Res α} {a : α} (e : r = .ok a M) (h : Q a M) : WP r Q := by rw [e, WP_ok]; exact h
theorem WS_thenS {r : Res β} {f : β → Store → SR} : WS (r.thenS l f) D = WP r fun a M => WS (f a M) D := by simp only [WP_eq, WS_eq]; cases r <;> rfl
theorem WS_needS {o : Option β} {f : β → SR} : WS (needS o f) D = ∃ a, o = some a ∧ WS (f a) D := by
  cases o with
  | none => simp [needS, WS_eq, WSd]
  | some a => simp [needS]
theorem WS_ite {c : Prop} [Decidable c] {a b : SR} : WS (if c then a else b) D = if c then WS a D else WS b D := by split <;> rfl
theorem WS_nx : WS (.nx l M) D = D.nx l M := by rw [WS_eq]; rfl
theorem WS_rt {w : W} : WS (.rt w M) D = D.rt w M := by rw [WS_eq]; rfl
theorem WS_bk : WS (.bk l M) D = D.bk l M := by rw [WS_eq]; rfl
theorem WS_ct : WS (.ct l M) D = D.ct l M := by rw [WS_eq]; rfl
theorem WS_err : WS .err D = False := by rw [WS_eq]; rfl
theorem WS_nil : WS (evSs Γ [] cur l M) D = D.nx l M := by simp only [evSs]; rw [WS_eq]; rfl
theorem WS_cons {s : S} {ss : List S} : WS (evSs Γ (s :: ss) cur l M) D = WS (evS Γ s cur l M) ⟨fun l1 M1 => WS (evSs Γ ss cur l1 M1) D, D.rt, D.bk, D.ct⟩ := by
  simp only [evSs, WS_eq]
  cases evS Γ s cur l M <;> rfl
theorem WS.imp {r : SR} {D' : K4} (h : WS r D) (h1 : ∀ l M, D.nx l M → D'.nx l M) (h2 : ∀ l M, D.rt l M → D'.rt l M) (h3 : ∀ l M, D.bk l M → D'.bk l M) (h4 : ∀ l M, D.ct l M → D'.ct l M) : WS r D' := by
  rw [WS_eq] at h ⊢
  cases r <;> first | exact h1 _ _ h | exact h2 _ _ h | exact h3 _ _ h | exact h4 _ _ h | exact h
/-- a def's run -/
theorem WP_run {Df : Df} {vs : List W} {Q : W → Store → Prop} (hl : vs.length = Df.ps.length)
    (h : WS (evSs Γ Df.body none (vs.map some ++ List.replicate (Df.N.length - vs.length) none) M) ⟨fun _ M1 => Q .non M1, fun w M1 => Q w M1, fun _ _ => False, fun _ _ => False⟩) : WP (runW Γ Df vs M) Q := by
  unfold runW
  rw [if_pos hl]
  revert h
  simp only [WP_eq, WS_eq]
  cases evSs Γ Df.body none (vs.map some ++ List.replicate (Df.N.length - vs.length) none) M <;> exact fun h => h
/-! ### statements -/
theorem WS_expr {e : E} : WS (evS Γ (.expr e) cur l M) D = WP ((ev Γ cur e).v l M) fun _ M1 => D.nx l M1 := by simp only [evS, WS_thenS, WS_nx]
theorem WS_asg {t : Tg} {e : E} : WS (evS Γ (.asg t e) cur l M) D = WP ((ev Γ cur e).v l M) fun w M1 => WS (needS (tgW t w l) fun l1 => .nx l1 M1) D := by simp only [evS, WS_thenS]
theorem WS_par {is : List Nat} {es : List E} : WS (evS Γ (.par is es) cur l M) D = WP (evEs (evL Γ cur es) l M) fun ws M1 => WS (needS (tgWs (is.map .nm) ws l) fun l1 => .nx l1 M1) D := by simp only [evS, WS_thenS]
theorem WS_setSub {o i e : E} : WS (evS Γ (.setSub o i e) cur l M) D = WP ((ev Γ cur e).v l M) fun w M1 => WP ((ev Γ cur o).v l M1) fun x M2 => WP ((ev Γ cur i).v l M2) fun y M3 => WS (needS (setSubW x y w M3) fun M4 => .nx l M4) D := by
  simp only [evS, WS_thenS]
theorem WS_setAtt {o e : E} {f : Str} : WS (evS Γ (.setAtt o f e) cur l M) D = WP ((ev Γ cur e).v l M) fun w M1 => WP ((ev Γ cur o).v l M1) fun x M2 => WS (needS (setAttW Γ.fld x f w M2) fun M3 => .nx l M3) D := by
  simp only [evS, WS_thenS]
theorem WS_ife {c : E} {a b : List S} : WS (evS Γ (.ife c a b) cur l M) D = WP ((ev Γ cur c).t l M) fun k M1 => if k = true then WS (evSs Γ a cur l M1) D else WS (evSs Γ b cur l M1) D := by
  simp only [evS, WS_thenS, WS_ite]
theorem WS_ret {e : E} : WS (evS Γ (.ret e) cur l M) D = WP ((ev Γ cur e).v l M) fun w M1 => D.rt w M1 := by simp only [evS, WS_thenS, WS_rt]
theorem WS_retN : WS (evS Γ .retN cur l M) D = D.rt .non M := by simp only [evS, WS_rt]
theorem WS_aug {i : Nat} {op : Operator} {e : E} {w : W} (h : l[i]? = some (some w)) : WS (evS Γ (.aug i op e) cur l M) D = WP ((ev Γ cur e).v l M) fun v M1 => WP (augW op w v M1) fun r M2 => D.nx (l.set i (some r)) M2 := by
  simp only [evS, h, WS_thenS, WS_nx]
/-- what is left of a loop behind its source -/
def ForOb (Γ : Glo) (cur : Option Cur) (k : Itk) (t : Tg) (body : List S) (l : LM) (D : K4) (vs : List W) (M1 : Store) : Prop := ∃ items, itemsW k vs M1 = some items ∧ ∃ I : Nat → LM → Store → Prop, I 0 l M1 ∧
      (∀ i x l2 M2, items[i]? = some x → I i l2 M2 → ∃ l3, tgW t x l2 = some l3 ∧ WS (evSs Γ body cur l3 M2) ⟨fun l4 M4 => itemsW k vs M4 = some items ∧ I (i + 1) l4 M4, D.rt, D.nx, fun l4 M4 => itemsW k vs M4 = some items ∧ I (i + 1) l4 M4⟩) ∧
      ∀ l4 M4, I items.length l4 M4 → D.nx l4 M4
open Classical in
theorem WS_for {k : Itk} {src : List E} {t : Tg} {body : List S} (h : WP (evEs (evL Γ cur src) l M) fun vs M1 => ForOb Γ cur k t body l D vs M1) : WS (evS Γ (.for k src t body) cur l M) D := by
  simp only [evS, WS_thenS]
  refine h.imp fun vs M1 ⟨items, hit, I, h0, hs, he⟩ => ?_
  rw [hit]
  show WS (forW (tgW t) (evSs Γ body cur) (Still k vs items) items l M1) D
  have key : ∀ (rest : List W) (i : Nat) (l2 : LM) (M2 : Store), items.drop i = rest → i ≤ items.length → I i l2 M2 → WS (forW (tgW t) (evSs Γ body cur) (Still k vs items) rest l2 M2) D := by
    intro rest
    induction rest with
    | nil =>
      intro i l2 M2 hd hi hI
      have : i = items.length := by
        have := List.drop_eq_nil_iff.mp hd
        omega
      subst this
      rw [show forW (tgW t) (evSs Γ body cur) (Still k vs items) [] l2 M2 = .nx l2 M2 from rfl, WS_nx]
      exact he _ _ hI
    | cons x xs ih =>
      intro i l2 M2 hd hi hI
      have hx : items[i]? = some x := by
        have := congrArg (·[0]?) hd
        simpa using this
      have hi2 := (List.getElem?_eq_some_iff.mp hx).1
      have hd2 : items.drop (i + 1) = xs := by
        rw [← List.drop_drop, hd]; rfl
      obtain ⟨l3, ht, hb⟩ := hs i x l2 M2 hx hI
      unfold forW
      rw [ht]
      show WS (match evSs Γ body cur l3 M2 with
        | .nx l2 M2 => if Still k vs items M2 then forW (tgW t) (evSs Γ body cur) (Still k vs items) xs l2 M2 else .err
        | .ct l2 M2 => if Still k vs items M2 then forW (tgW t) (evSs Γ body cur) (Still k vs items) xs l2 M2 else .err
        | .bk l2 M2 => .nx l2 M2
        | r => r) D
      revert hb
      rw [WS_eq, WS_eq]
      cases evSs Γ body cur l3 M2 with
      | nx l4 M4 => exact fun hb => by dsimp only; rw [if_pos (show Still k vs items M4 from hb.1), ← WS_eq]; exact ih (i + 1) l4 M4 hd2 (by omega) hb.2
      | ct l4 M4 => exact fun hb => by dsimp only; rw [if_pos (show Still k vs items M4 from hb.1), ← WS_eq]; exact ih (i + 1) l4 M4 hd2 (by omega) hb.2
      | bk l4 M4 => exact fun hb => hb
      | rt w M4 => exact fun hb => hb
      | exc c ns ws l4 M4 => exact fun hb => hb
      | err => exact fun hb => hb
  exact key items 0 l M1 rfl (Nat.zero_le _) h0
/-! ### comprehensions -/
open Classical in
theorem lcW_wp {tg : W → Option LM} {cond : LM → Store → Res Bool} {elt : LM → Store → Res W} {still : Store → Prop} {items : List W} (I : Nat → List W → Store → Prop)
    (hs : ∀ i x ys M2, items[i]? = some x → I i ys M2 → ∃ l1, tg x = some l1 ∧ WP (cond l1 M2) fun b M3 => if b = true then WP (elt l1 M3) fun y M4 => still M4 ∧ I (i + 1) (ys ++ [y]) M4 else still M3 ∧ I (i + 1) ys M3) :
    ∀ (rest : List W) (i : Nat) (ys : List W) (M2 : Store), items.drop i = rest → i ≤ items.length → I i ys M2 → WP (lcW tg cond elt still rest M2) fun zs M4 => zs.length ≤ rest.length ∧ I items.length (ys ++ zs) M4 := by
  intro rest
  induction rest with
  | nil =>
    intro i ys M2 hd hi hI
    have : i = items.length := by
      have := List.drop_eq_nil_iff.mp hd
      omega
    subst this
    exact ⟨Nat.le_refl _, by simpa using hI⟩
  | cons x xs ih =>
    intro i ys M2 hd hi hI
    have hx : items[i]? = some x := by
      have := congrArg (·[0]?) hd
      simpa using this
    have hi2 := (List.getElem?_eq_some_iff.mp hx).1
    have hd2 : items.drop (i + 1) = xs := by
      rw [← List.drop_drop, hd]; rfl
    obtain ⟨l3, ht, hb⟩ := hs i x ys M2 hx hI
    unfold lcW
    rw [ht, need_some, WP_bind]
    refine hb.imp fun b M3 hb => ?_
    cases b with
    | true =>
      simp only [if_true, WP_bind] at hb ⊢
      refine hb.imp fun y M4 ⟨hst, hI4⟩ => ?_
      rw [if_pos hst, WP_bind]
      refine (ih (i + 1) (ys ++ [y]) M4 hd2 (by omega) hI4).imp fun zs M5 ⟨h1, h2⟩ => ?_
      exact ⟨by simpa using h1, by simpa using h2⟩
    | false =>
      simp only [Bool.false_eq_true, if_false] at hb ⊢
      rw [if_pos hb.1]
      exact (ih (i + 1) ys M3 hd2 (by omega) hb.2).imp fun zs M5 ⟨h1, h2⟩ => ⟨by simp; omega, h2⟩
/-- what is left of a comprehension behind its source -/
def LcOb (Γ : Glo) (cur : Option Cur) (fz : Bool) (own : List (Str × Nat)) (k : Itk) (t : Tg) (cond : List E) (elt : E) (l : LM) (Q : W → Store → Prop) (vs : List W) (M1 : Store) : Prop := ∃ items, itemsW k vs M1 = some items ∧ items.length ≤ sizeLine ∧ ∃ I : Nat → List W → Store → Prop, I 0 [] M1 ∧
      (∀ i x ys M2, items[i]? = some x → I i ys M2 → ∃ l1, tgW t x (wipeW l (own.map (·.2))) = some l1 ∧ WP (evAndT (evL Γ cur cond) l1 M2) fun b M3 => if b = true then WP ((ev Γ cur elt).v l1 M3) fun y M4 => itemsW k vs M4 = some items ∧ I (i + 1) (ys ++ [y]) M4 else itemsW k vs M3 = some items ∧ I (i + 1) ys M3) ∧
      ∀ ys M4, ys.length ≤ items.length → I items.length ys M4 → WP (newL fz ys M4) Q
theorem WP_lc {fz : Bool} {own : List (Str × Nat)} {k : Itk} {src cond : List E} {t : Tg} {elt : E} {Q : W → Store → Prop}
    (h : WP (evEs (evL Γ cur src) l M) fun vs M1 => LcOb Γ cur fz own k t cond elt l Q vs M1) : WP ((ev Γ cur (.lc fz own k src t cond elt)).v l M) Q := by
  rw [evlc_v]
  unfold evLc
  rw [WP_bind]
  refine h.imp fun vs M1 ⟨items, hit, hsz, I, h0, hs, he⟩ => ?_
  rw [hit, need_some, WP_bind]
  have := lcW_wp (tg := fun x => tgW t x (wipeW l (own.map (·.2)))) (cond := evAndT (evL Γ cur cond)) (elt := (ev Γ cur elt).v) (still := Still k vs items) I hs items 0 [] M1 rfl (Nat.zero_le _) h0
  obtain ⟨zs, M5, e, h1, h2⟩ := this.get
  rw [e]
  rw [show (Res.ok zs M5).calm = .ok zs M5 from rfl, WP_ok, if_pos (Nat.le_trans h1 hsz)]
  exact he zs M5 h1 (by simpa using h2)
def MapOb (Γ : Glo) (cur : Option Cur) (fz : Bool) (own : List (Str × Nat)) (k : Itk) (t : Tg) (elt : E) (f : W → W) (l : LM) (Q : W → Store → Prop) (vs : List W) (M1 : Store) : Prop := ∃ items, itemsW k vs M1 = some items ∧ items.length ≤ sizeLine ∧
  (∀ x ∈ items, ∃ l1, tgW t x (wipeW l (own.map (·.2))) = some l1 ∧ WP ((ev Γ cur elt).v l1 M1) fun y M4 => y = f x ∧ M4 = M1) ∧ WP (newL fz (items.map f) M1) Q
def FilterOb (Γ : Glo) (cur : Option Cur) (fz : Bool) (own : List (Str × Nat)) (k : Itk) (t : Tg) (cond : List E) (elt : E) (p : W → Bool) (f : W → W) (l : LM) (Q : W → Store → Prop) (vs : List W) (M1 : Store) : Prop := ∃ items, itemsW k vs M1 = some items ∧ items.length ≤ sizeLine ∧
  (∀ x ∈ items, ∃ l1, tgW t x (wipeW l (own.map (·.2))) = some l1 ∧ WP (evAndT (evL Γ cur cond) l1 M1) fun b M4 => b = p x ∧ M4 = M1 ∧ (b = true → WP ((ev Γ cur elt).v l1 M1) fun y M4 => y = f x ∧ M4 = M1)) ∧ WP (newL fz ((items.filter p).map f) M1) Q
/-- a comprehension that is a map, the store as it was -/
theorem WP_lcMap {fz : Bool} {own : List (Str × Nat)} {k : Itk} {src : List E} {t : Tg} {elt : E} {Q : W → Store → Prop} (f : W → W)
    (h : WP (evEs (evL Γ cur src) l M) fun vs M1 => MapOb Γ cur fz own k t elt f l Q vs M1) :
    WP ((ev Γ cur (.lc fz own k src t [] elt)).v l M) Q := by
  refine WP_lc (h.imp fun vs M1 ⟨items, h1, h2, h3, h4⟩ => ⟨items, h1, h2, fun i ys M2 => ys = (items.take i).map f ∧ M2 = M1, ⟨by simp, rfl⟩, ?_, ?_⟩)
  · rintro i x ys M2 hx ⟨rfl, rfl⟩
    obtain ⟨l1, k1, k2⟩ := h3 x (List.mem_of_getElem? hx)
    refine ⟨l1, k1, ?_⟩
    simp only [evL, evAndT, WP_ok, if_true]
    refine k2.imp fun y M4 ⟨e1, e2⟩ => ⟨by rw [e2]; exact h1, ?_, e2⟩
    rw [e1, List.take_add_one, hx]
    simp
  · rintro ys M4 _ ⟨rfl, rfl⟩
    rw [List.take_length]
    exact h4
/-- .. that keeps those that a test tells -/
theorem WP_lcFilter {fz : Bool} {own : List (Str × Nat)} {k : Itk} {src cond : List E} {t : Tg} {elt : E} {Q : W → Store → Prop} (p : W → Bool) (f : W → W)
    (h : WP (evEs (evL Γ cur src) l M) fun vs M1 => FilterOb Γ cur fz own k t cond elt p f l Q vs M1) :
    WP ((ev Γ cur (.lc fz own k src t cond elt)).v l M) Q := by
  refine WP_lc (h.imp fun vs M1 ⟨items, h1, h2, h3, h4⟩ => ⟨items, h1, h2, fun i ys M2 => ys = ((items.take i).filter p).map f ∧ M2 = M1, ⟨by simp, rfl⟩, ?_, ?_⟩)
  · rintro i x ys M2 hx ⟨rfl, rfl⟩
    obtain ⟨l1, k1, k2⟩ := h3 x (List.mem_of_getElem? hx)
    refine ⟨l1, k1, k2.imp fun b M3 ⟨e1, e2, e3⟩ => ?_⟩
    subst e2
    cases b with
    | true =>
      simp only [if_true]
      refine (e3 rfl).imp fun y M4 ⟨e4, e5⟩ => ⟨by rw [e5]; exact h1, ?_, e5⟩
      rw [e4, List.take_add_one, hx]
      simp [← e1]
    | false =>
      simp only [Bool.false_eq_true, if_false]
      refine ⟨h1, ?_, trivial⟩
      rw [List.take_add_one, hx]
      simp [← e1]
  · rintro ys M4 _ ⟨rfl, rfl⟩
    rw [List.take_length]
    exact h4
end
open Classical in
theorem dcW_wp {tg : W → Option LM} {cond : LM → Store → Res Bool} {key val : LM → Store → Res W} {still : Store → Prop} {items : List W} (I : Nat → List Key × List W → Store → Prop)
    (hs : ∀ i x p M2, items[i]? = some x → I i p M2 → ∃ l1, tg x = some l1 ∧ WP (cond l1 M2) fun b M3 => if b = true then WP (key l1 M3) fun kw M4 => ∃ k, keyOf kw = some k ∧ WP (val l1 M4) fun y M5 => still M5 ∧ p.1.length < sizeLine ∧ I (i + 1) (putP k y p) M5 else still M3 ∧ I (i + 1) p M3) :
    ∀ (rest : List W) (i : Nat) (p : List Key × List W) (M2 : Store), items.drop i = rest → i ≤ items.length → I i p M2 → WP (dcW tg cond key val still rest p M2) fun r M4 => I items.length r M4 := by
  intro rest
  induction rest with
  | nil =>
    intro i p M2 hd hi hI
    have : i = items.length := by
      have := List.drop_eq_nil_iff.mp hd
      omega
    subst this
    show WP (Res.ok p M2) _
    rw [WP_ok]; exact hI
  | cons x xs ih =>
    intro i p M2 hd hi hI
    have hx : items[i]? = some x := by
      have := congrArg (·[0]?) hd
      simpa using this
    have hi2 := (List.getElem?_eq_some_iff.mp hx).1
    have hd2 : items.drop (i + 1) = xs := by
      rw [← List.drop_drop, hd]; rfl
    obtain ⟨l3, ht, hb⟩ := hs i x p M2 hx hI
    unfold dcW
    rw [ht, need_some, WP_bind]
    refine hb.imp fun b M3 hb => ?_
    cases b with
    | true =>
      simp only [if_true, WP_bind] at hb ⊢
      refine hb.imp fun kw M4 ⟨k, hk, hv⟩ => ?_
      rw [hk, need_some, WP_bind]
      refine hv.imp fun y M5 ⟨h1, h2, h3⟩ => ?_
      rw [if_pos ⟨h1, h2⟩]
      exact ih (i + 1) _ M5 hd2 (by omega) h3
    | false =>
      simp only [Bool.false_eq_true, if_false] at hb ⊢
      rw [if_pos hb.1]
      exact ih (i + 1) p M3 hd2 (by omega) hb.2
def DcOb (Γ : Glo) (cur : Option Cur) (fz : Bool) (own : List (Str × Nat)) (k : Itk) (t : Tg) (cond : List E) (key val : E) (l : LM) (Q : W → Store → Prop) (vs : List W) (M1 : Store) : Prop := ∃ items, itemsW k vs M1 = some items ∧ ∃ I : Nat → List Key × List W → Store → Prop, I 0 ([], []) M1 ∧
      (∀ i x p M2, items[i]? = some x → I i p M2 → ∃ l1, tgW t x (wipeW l (own.map (·.2))) = some l1 ∧ WP (evAndT (evL Γ cur cond) l1 M2) fun b M3 => if b = true then WP ((ev Γ cur key).v l1 M3) fun kw M4 => ∃ kk, keyOf kw = some kk ∧ WP ((ev Γ cur val).v l1 M4) fun y M5 => itemsW k vs M5 = some items ∧ p.1.length < sizeLine ∧ I (i + 1) (putP kk y p) M5 else itemsW k vs M3 = some items ∧ I (i + 1) p M3) ∧
      ∀ r M4, I items.length r M4 → WP (newD fz r.1 r.2 M4) Q
theorem WP_dc {fz : Bool} {own : List (Str × Nat)} {k : Itk} {src cond : List E} {t : Tg} {key val : E} {Q : W → Store → Prop} {Γ : Glo} {cur : Option Cur} {l : LM} {M : Store}
    (h : WP (evEs (evL Γ cur src) l M) fun vs M1 => DcOb Γ cur fz own k t cond key val l Q vs M1) : WP ((ev Γ cur (.dc fz own k src t cond key val)).v l M) Q := by
  have e : (ev Γ cur (.dc fz own k src t cond key val)).v l M = evDc fz own k (evL Γ cur src) t (evL Γ cur cond) (ev Γ cur key) (ev Γ cur val) l M := by simp only [ev]; rfl
  rw [e]
  unfold evDc
  rw [WP_bind]
  refine h.imp fun vs M1 ⟨items, hit, I, h0, hs, he⟩ => ?_
  rw [hit, need_some, WP_bind]
  have := dcW_wp (tg := fun x => tgW t x (wipeW l (own.map (·.2)))) (cond := evAndT (evL Γ cur cond)) (key := (ev Γ cur key).v) (val := (ev Γ cur val).v) (still := Still k vs items) I hs items 0 ([], []) M1 rfl (Nat.zero_le _) h0
  obtain ⟨r, M5, e, h2⟩ := this.get
  rw [e]
  rw [show (Res.ok r M5).calm = .ok r M5 from rfl, WP_ok]
  exact he r M5 h2
theorem kind_append {w : W} {M : Store} : kindW .append w M = (vL M w).isSome := rfl
theorem kind_extend {w : W} {M : Store} : kindW .extend w M = (vL M w).isSome := rfl
theorem kind_pop {w : W} {M : Store} : kindW .pop w M = (vL M w).isSome := rfl
theorem kind_popAt {w : W} {M : Store} : kindW .popAt w M = (vL M w).isSome := rfl
theorem kind_reverse {w : W} {M : Store} : kindW .reverse w M = (vL M w).isSome := rfl
theorem kind_clear {w : W} {M : Store} : kindW .clear w M = (vL M w).isSome := rfl
theorem kind_insert {w : W} {M : Store} : kindW .insert w M = (vL M w).isSome := rfl
theorem kind_index {w : W} {M : Store} : kindW .index w M = (vL M w).isSome := rfl
theorem kind_join {w : W} {M : Store} : kindW .join w M = isStrW w := rfl
theorem kind_split {w : W} {M : Store} : kindW .split w M = isStrW w := rfl
theorem kind_upper {w : W} {M : Store} : kindW .upper w M = isStrW w := rfl
theorem kind_startswith {w : W} {M : Store} : kindW .startswith w M = isStrW w := rfl
theorem kind_count {w : W} {M : Store} : kindW .count w M = isStrW w := rfl
theorem tgW_nm {i : Nat} {w : W} {l : LM} : tgW (.nm i) w l = some (l.set i (some w)) := by simp only [tgW]
theorem tgW_tup {ts : List Tg} {ws : List W} {l : LM} : tgW (.tup ts) (.tup ws) l = tgWs ts ws l := by simp only [tgW]
theorem tgWs_nil {l : LM} : tgWs [] [] l = some l := by simp only [tgWs]
theorem tgWs_cons {t : Tg} {w : W} {ts : List Tg} {ws : List W} {l : LM} : tgWs (t :: ts) (w :: ws) l = (tgW t w l).bind fun l' => tgWs ts ws l' := by simp only [tgWs]
end PyI

namespace PyI
open PySem PySem.Spec PyProof.Rows L2
/-! ### calls -/
/-- an answer, as the caller has it -/
def outW (M : Store) (k : Nat) (w : W) : W := if pureW w then w else openW M k (openW M k w)
theorem openW_pure {M : Store} {k : Nat} : ∀ w : W, pureW w = true → openW M k w = w := by
  have key : ∀ n, (∀ w : W, sizeOf w < n → pureW w = true → openW M k w = w) ∧ (∀ ws : List W, sizeOf ws < n → pureWs ws = true → openWs M k ws = ws) := by
    intro n
    induction n with
    | zero => exact ⟨fun w h => by omega, fun w h => by omega⟩
    | succ n ih =>
      refine ⟨fun w hw hp => ?_, fun ws hw hp => ?_⟩
      · cases w <;> first | rfl | (simp [pureW] at hp; done) | skip
        all_goals
          simp only [pureW] at hp
          simp only [openW]
          rw [ih.2 _ (by simp at hw ⊢; omega) hp]
      · cases ws with
        | nil => rfl
        | cons w ws =>
          simp only [pureWs, Bool.and_eq_true] at hp
          simp only [openWs]
          rw [ih.1 w (by simp at hw ⊢; omega) hp.1, ih.2 ws (by simp at hw ⊢; omega) hp.2]
  exact fun w hw => (key (sizeOf w + 1)).1 w (by omega) hw
theorem outW_pure {M : Store} {k : Nat} {w : W} (h : pureW w = true) : outW M k w = w := if_pos h
theorem outW_str {M : Store} {k : Nat} {s : Str} : outW M k (.str s) = .str s := rfl
theorem outW_int {M : Store} {k : Nat} {s : Int} : outW M k (.int s) = .int s := rfl
theorem outW_bl {M : Store} {k : Nat} {s : Bool} : outW M k (.bl s) = .bl s := rfl
theorem outW_non {M : Store} {k : Nat} : outW M k .non = .non := rfl
theorem outW_lst {M : Store} {k n : Nat} {b : Bool} {ws : List W} (hk : k ≤ n) (h : M[n]? = some ⟨b, .lst ws⟩) (hp : pureWs ws = true) : outW M k (.ref n) = .lst ws := by
  have e1 : openW M k (.ref n) = .lst ws := by
    simp only [openW, if_pos hk, h, Con.frz]
  have e2 : ∀ w : W, pureW w = true → openW M k w = w := by
    have key : ∀ n, (∀ w : W, sizeOf w < n → pureW w = true → openW M k w = w) ∧ (∀ ws : List W, sizeOf ws < n → pureWs ws = true → openWs M k ws = ws) := by
      intro n
      induction n with
      | zero => exact ⟨fun w h => by omega, fun w h => by omega⟩
      | succ n ih =>
        refine ⟨fun w hw hp => ?_, fun ws hw hp => ?_⟩
        · cases w <;> first | rfl | (simp [pureW] at hp; done) | skip
          all_goals
            simp only [pureW] at hp
            simp only [openW]
            rw [ih.2 _ (by simp at hw ⊢; omega) hp]
        · cases ws with
          | nil => rfl
          | cons w ws =>
            simp only [pureWs, Bool.and_eq_true] at hp
            simp only [openWs]
            rw [ih.1 w (by simp at hw ⊢; omega) hp.1, ih.2 ws (by simp at hw ⊢; omega) hp.2]
    exact fun w hw => (key (sizeOf w + 1)).1 w (by omega) hw
  unfold outW
  rw [if_neg (by simp [pureW]), e1, e2 _ (by simpa [pureW] using hp)]
section
variable {M : Store} {f : List W → Store → Res W} {Q : W → Store → Prop}
theorem take_out {ns : List Nat} {w : W} {M' M1 : Store} (hp : pureW (outW M' ns.length w) = true) (h : Q (outW M' ns.length w) M1) : WP (takeW true ns w M' M1) Q := by
  unfold takeW
  by_cases hw : pureW w = true
  · rw [if_pos hw]
    rw [outW_pure hw] at h
    rw [WP_ok]; exact h
  · rw [if_neg hw]
    simp only [if_true]
    unfold outW at hp h
    rw [if_neg hw] at hp h
    rw [if_pos hp, WP_ok]
    exact h
/-- values alone -/
theorem wp_flat {vs : List W} {fz : Bool} (h : flatW vs = true) (hf : WP (f vs []) fun w _ => pureW w = true ∧ Q w M) : WP (callW f fz vs M) Q := by
  obtain ⟨w, M', e, h1, h2⟩ := hf.get
  rw [call_flat M h h1 e, WP_ok]
  exact h2
theorem wp_flatO {vs : List W} (h : flatW vs = true) (hf : WP (f vs []) fun w M' => pureW (outW M' 0 w) = true ∧ Q (outW M' 0 w) M) : WP (callW f true vs M) Q := by
  obtain ⟨w, M', e, h1, h2⟩ := hf.get
  obtain ⟨k1, k2, k3⟩ := flat_refs h
  unfold callW
  simp only [k1, k2, List.mapM_nil, Option.pure_def, need, e]
  rw [if_pos ⟨by simp, by simp, k3⟩]
  simp only [List.length_nil, List.take_zero, List.all_nil, Nat.zero_le, and_self, if_true]
  exact take_out (ns := []) h1 h2
/-- one cell and values -/
theorem wp_ref1 {n : Nat} {vs : List W} {c : Cell} (hn : M[n]? = some c) (h : flatW vs = true) (hc : pureC c = true)
    (hf : WP (f (.ref 0 :: vs) [c]) fun w M' => ∃ c' r, M' = c' :: r ∧ pureC c' = true ∧ pureW (outW M' 1 w) = true ∧ Q (outW M' 1 w) (M.set n c')) : WP (callW f true (.ref n :: vs) M) Q := by
  obtain ⟨w, M', e, c', r, rfl, h1, h2, h3⟩ := hf.get
  obtain ⟨k1, k2, k3⟩ := flat_refs h
  unfold callW
  simp only [refsOf, renum, k1, k2, List.mapM_cons, List.mapM_nil, Option.pure_def, Option.bind_eq_bind, hn, Option.bind_some, need, e]
  rw [if_pos ⟨by simp, by simp [hc], by rw [List.all_cons, k3]; rfl⟩]
  simp only [List.length_cons, List.length_nil, Nat.zero_add, List.take_succ_cons, List.take_zero, List.all_cons, h1, List.all_nil, Bool.and_true, Nat.le_add_left, and_self, if_true]
  exact take_out (ns := [n]) h2 h3
/-- two cells and values -/
theorem wp_ref2 {a b : Nat} {vs : List W} {c d : Cell} (hab : a ≠ b) (ha : M[a]? = some c) (hb : M[b]? = some d) (h : flatW vs = true) (hc : pureC c = true) (hd : pureC d = true)
    (hf : WP (f (.ref 0 :: .ref 1 :: vs) [c, d]) fun w M' => ∃ c' d' r, M' = c' :: d' :: r ∧ pureC c' = true ∧ pureC d' = true ∧ pureW (outW M' 2 w) = true ∧ Q (outW M' 2 w) ((M.set b d').set a c')) : WP (callW f true (.ref a :: .ref b :: vs) M) Q := by
  obtain ⟨w, M', e, c', d', r, rfl, h1, h1', h2, h3⟩ := hf.get
  obtain ⟨k1, k2, k3⟩ := flat_refs h
  unfold callW
  simp only [refsOf, renum, k1, k2, List.mapM_cons, List.mapM_nil, Option.pure_def, Option.bind_eq_bind, ha, hb, Option.bind_some, need, e]
  rw [if_pos ⟨by simp [hab], by simp [hc, hd], by rw [List.all_cons, List.all_cons, k3]; rfl⟩]
  simp only [List.length_cons, List.length_nil, Nat.zero_add, List.take_succ_cons, List.take_zero, List.all_cons, h1, h1', List.all_nil, Bool.and_true, Nat.reduceAdd, and_self, if_true, Bool.and_self]
  rw [if_pos (by simp)]
  exact take_out (ns := [a, b]) h2 h3
end
/-- an instance is made of values alone, frozen -/
theorem wp_make {f : List W → Store → Res W} {c : Str} {vs : List W} {M : Store} {Q : W → Store → Prop} (h : flatW vs = true)
    (hf : WP (f (.ref 0 :: vs) [⟨true, .obj c [] []⟩]) fun w M' => w = .non ∧ ∃ o r, M' = o :: r ∧ pureW o.con.frz = true ∧ Q o.con.frz M) : WP (makeW f c true vs M) Q := by
  obtain ⟨w, M', e, rfl, o, r, rfl, h1, h2⟩ := hf.get
  obtain ⟨k1, k2, k3⟩ := flat_refs h
  unfold makeW
  simp only [k1, k2, List.mapM_nil, Option.pure_def, need_some, e]
  rw [if_pos ⟨by simp, by simp, k3⟩]
  simp only [List.length_nil, List.length_cons, List.take_zero, List.all_nil, Nat.add_zero, Nat.le_add_left, and_self, if_true, List.getElem?_cons_zero, need_some, putBack]
  have e2 : openW (o :: r) 1 (openW (o :: r) 1 o.con.frz) = o.con.frz := by rw [openW_pure _ h1, openW_pure _ h1]
  simp only [e2, h1, if_true, WP_ok]
  exact h2
/-! ### the pot -/
/-- the pot alone in its store -/
def Pot (c : Cell) : Prop := ∃ x y : Int, 0 ≤ x ∧ 0 ≤ y ∧ y < 2147483648 ∧ c = ⟨true, .lst [.int x, .int y]⟩
theorem Pot.pure {c : Cell} (h : Pot c) : pureC c = true := by
  obtain ⟨x, y, _, _, _, rfl⟩ := h; rfl
/-! ### texts in lists -/
abbrev sOk (x : Str) : Bool := PyData.strOk x
theorem shaped_str {x : Str} (h : sOk x = true) : SeqAt.shaped (.str x) = true := by
  unfold SeqAt.shaped
  simp only [PyData.canLay0, PyData.depth]
  rw [show PyData.strOk x = true from h]
  rfl
theorem eqW_strs {M : Store} {a b : Str} (ha : sOk a = true) (hb : sOk b = true) : eqW M (.str a) (.str b) = some (decide (a = b)) := rfl
theorem eqW_ints {M : Store} {a b : Int} : eqW M (.int a) (.int b) = some (decide (a = b)) := by
  have : eqW M (.int a) (.int b) = if SeqAt.shaped (.int a) && SeqAt.shaped (.int b) then some (PyData.eqv (.int a) (.int b)) else none := rfl
  rw [this]
  have h : ∀ a, SeqAt.shaped (.int a) = true := fun a => by
    unfold SeqAt.shaped
    simp only [PyData.canLay0, PyData.depth]
    rfl
  rw [h, h]
  simp only [Bool.and_self, if_true, PyData.eqv]
  by_cases h : a = b
  · subst h; simp
  · simp [h]
theorem res1s_str {M : Store} : ∀ ss : List Str, res1s M (ss.map .str) = ss.map .str
  | [] => rfl
  | s :: ss => by simp only [List.map_cons, res1s, res1, res1s_str ss]
theorem dataWs_str : ∀ ss : List Str, dataWs (ss.map .str) = some (ss.map PyData.str)
  | [] => rfl
  | s :: ss => by simp only [List.map_cons, dataWs, dataW, Option.bind_some, dataWs_str ss, Option.map_some]
theorem canLay_strs : ∀ {ss : List Str}, (∀ s ∈ ss, sOk s = true) → PyData.canLayAll0 (ss.map PyData.str) = true
  | [], _ => by simp only [List.map_nil, PyData.canLayAll0]
  | s :: ss, h => by
    simp only [List.map_cons, PyData.canLayAll0, PyData.canLay0, Bool.and_eq_true]
    exact ⟨h s (by simp), canLay_strs fun t ht => h t (by simp [ht])⟩
theorem depth_strs : ∀ ss : List Str, PyData.depthAll (ss.map PyData.str) = 0
  | [] => by simp only [List.map_nil, PyData.depthAll]
  | s :: ss => by simp only [List.map_cons, PyData.depthAll, PyData.depth, depth_strs ss]; rfl
theorem any_strs {s : Str} : ∀ ss : List Str, ((ss.map PyData.str).any fun z => PyData.eqv z (.str s)) = decide (s ∈ ss)
  | [] => by simp
  | t :: ss => by
    simp only [List.map_cons, List.any_cons, PyData.eqv, any_strs ss, List.mem_cons]
    by_cases h : t = s
    · subst h; simp
    · have h' : ¬ s = t := fun e => h e.symm
      simp [h, h']
theorem inW_strs {M : Store} {b : W} {ss : List Str} {s : Str} (h0 : ∀ z, b ≠ .str z) (hd : vD M b = none) (hb : vS M b = some (ss.map .str)) (h1 : ∀ t ∈ ss, sOk t = true) (h2 : sOk s = true) : inW M (.str s) b = some (decide (s ∈ ss)) := by
  have e : inW M (.str s) b = (vS M b).bind fun ws => (dataM M (.str s)).bind fun d => (dataM M (.lst ws)).bind fun e => match e with
      | .list ds => if SeqAt.shaped d && SeqAt.shaped (.list ds) then some (ds.any fun z => PyData.eqv z d) else none
      | _ => none := by
    unfold inW
    split
    · exact absurd rfl (h0 _)
    · split
      · rename_i h; rw [hd] at h; cases h
      · rfl
  rw [e, hb]
  simp only [Option.bind_some, dataM, res1, dataW, res1s_str, dataWs_str, Option.map_some]
  have hs : SeqAt.shaped (.list (ss.map PyData.str)) = true := by
    unfold SeqAt.shaped
    simp only [PyData.canLay0, PyData.depth, canLay_strs h1, depth_strs]
    rfl
  rw [shaped_str h2, hs]
  simp only [Bool.and_self, if_true, any_strs]
/-! ### words -/
/-- letters a to z -/
def Let (s : Str) : Prop := ∀ c ∈ s.cps.toList, 97 ≤ c ∧ c ≤ 122
structure Wd (s : Str) : Prop where
  one : 1 ≤ s.length
  most : s.length ≤ 8
  let_ : Let s
theorem Let.ok {s : Str} (h : Let s) : sOk s = true := by
  unfold sOk PyData.strOk
  rw [Array.all_eq_true_iff_forall_mem]
  intro c hc
  have := h c (Array.mem_toList_iff.mpr hc)
  exact decide_eq_true (by omega)
theorem Wd.ok {s : Str} (h : Wd s) : sOk s = true := h.let_.ok
/-- a letter a to z -/
def letB (c : W) : Bool := match c with
  | .str x => !(Builtin.Str.occurrences (Str.ofString "abcdefghijklmnopqrstuvwxyz") x 0 (Str.ofString "abcdefghijklmnopqrstuvwxyz").length 1).isEmpty
  | _ => false
def wordB (s : Str) : Bool := decide (1 ≤ s.length ∧ s.length ≤ 8) && (chars s).all letB
theorem let_ok : ∀ k : Fin 26, letB (.str ⟨#[97 + k.val]⟩) = true := by decide +kernel
theorem let_at {c : Nat} (h1 : 97 ≤ c) (h2 : c ≤ 122) : letB (.str ⟨#[c]⟩) = true := by
  have := let_ok ⟨c - 97, by omega⟩
  rw [show 97 + (c - 97) = c from by omega] at this
  exact this
theorem Wd.b {s : Str} (h : Wd s) : wordB s = true := by
  unfold wordB
  rw [Bool.and_eq_true, decide_eq_true_eq, List.all_eq_true]
  refine ⟨⟨h.one, h.most⟩, fun x hx => ?_⟩
  simp only [chars, List.mem_map] at hx
  obtain ⟨c, hc, rfl⟩ := hx
  exact let_at (h.let_ c hc).1 (h.let_ c hc).2
theorem alpha_at : ∀ k : Fin 26, (Str.ofString "abcdefghijklmnopqrstuvwxyz").cps.toList[k.val]? = some (97 + k.val) := by decide +kernel
theorem alpha_len : (Str.ofString "abcdefghijklmnopqrstuvwxyz").length = 26 := by decide +kernel
/-- a letter, by its number -/
def letter (k : Nat) : Str := ⟨#[97 + k]⟩
theorem letter_let {k : Nat} (h : k < 26) : Let (letter k) := by
  intro c hc
  have : c = 97 + k := by simpa [letter] using hc
  omega
theorem letter_wd {k : Nat} (h : k < 26) : Wd (letter k) := ⟨by show 1 ≤ 1; omega, by show 1 ≤ 8; omega, letter_let h⟩
theorem alpha_chars : chars (Str.ofString "abcdefghijklmnopqrstuvwxyz") = (List.range 26).map fun k => .str (letter k) := by rfl
theorem glued_let {ss : List Str} (h : ∀ s ∈ ss, Let s) : Let (Builtin.Str.glued (Str.ofString "") ss) := by
  have key : ∀ (rest : List Str) (acc : Array Nat), (∀ c ∈ acc.toList, 97 ≤ c ∧ c ≤ 122) → (∀ s ∈ rest, Let s) → ∀ c ∈ (rest.foldl (fun acc p => acc ++ (Str.ofString "").cps ++ p.cps) acc).toList, 97 ≤ c ∧ c ≤ 122 := by
    intro rest
    induction rest with
    | nil => intro acc ha _; exact ha
    | cons p r ih =>
      intro acc ha hr
      rw [List.foldl_cons]
      refine ih _ (fun c hc => ?_) fun s hs => hr s (by simp [hs])
      have e : (Str.ofString "").cps.toList = [] := by decide +kernel
      simp only [Array.toList_append, e, List.append_nil, List.mem_append] at hc
      rcases hc with hc | hc
      · exact ha c hc
      · exact hr p (by simp) c hc
  cases ss with
  | nil =>
    intro c hc
    have : (Builtin.Str.glued (Str.ofString "") []).cps.toList = [] := by decide +kernel
    rw [this] at hc
    cases hc
  | cons p r => exact key r p.cps (h p (by simp)) fun s hs => h s (by simp [hs])
theorem letter_inj {i j : Nat} (h : letter i = letter j) : i = j := by
  have := congrArg (fun s : Str => s.cps.toList) h
  simp [letter] at this
  exact this
/-- an item by a place from the front -/
theorem atI_get {α : Type} {xs : List α} {i : Int} (h0 : 0 ≤ i) (h1 : i < xs.length) : atI xs i = xs[i.toNat]? := by
  unfold atI ixN
  rw [if_pos h0, if_pos h1]
  rfl
theorem atI_nat' {α : Type} {xs : List α} (i : Nat) : atI xs (i : Int) = xs[i]? := by
  by_cases h : i < xs.length
  · rw [atI_get (by omega) (by omega)]
    simp
  · unfold atI ixN
    rw [if_pos (by omega), if_neg (by omega), List.getElem?_eq_none (by omega)]
    rfl
theorem atI_0 {α : Type} {x : α} {xs : List α} : atI (x :: xs) 0 = some x := atI_nat' 0
theorem atI_1 {α : Type} {x y : α} {xs : List α} : atI (x :: y :: xs) 1 = some y := atI_nat' 1
theorem atI_2 {α : Type} {x y z : α} {xs : List α} : atI (x :: y :: z :: xs) 2 = some z := atI_nat' 2
/-- a text that is none of these -/
def freeB (ss : List Str) : W → Bool
  | .str t => decide (t ∉ ss)
  | _ => false
theorem rng_it {M : Store} {j : Int} (h : j < 1000000) (h0 : -1000000 < j) : itemsW .range [.int j] M = some ((List.range j.toNat).map fun (i : Nat) => W.int (i : Int)) := by
  show (if _ then _ else _) = _
  rw [if_pos (by omega)]
theorem idx_lst {M : Store} {ws : List W} {i : Int} {w : W} (h : atI ws i = some w) : idxW (.lst ws) (.int i) M = .ok w M := by
  unfold idxW
  simp only [vD, vS, h, need_some]
theorem idx_tup {M : Store} {ws : List W} {i : Int} {w : W} (h : atI ws i = some w) : idxW (.tup ws) (.int i) M = .ok w M := by
  unfold idxW
  simp only [vD, vS, h, need_some]
theorem idx_ref {M : Store} {n : Nat} {b : Bool} {ws : List W} {i : Int} {w : W} (hn : M[n]? = some ⟨b, .lst ws⟩) (h : atI ws i = some w) : idxW (.ref n) (.int i) M = .ok w M := by
  unfold idxW
  simp only [vD, vS, hn, Option.bind_some, conD, conL, h, need_some]
theorem pureWs_map {α : Type} {f : α → W} (h : ∀ a, pureW (f a) = true) : ∀ l : List α, pureWs (l.map f) = true
  | [] => rfl
  | a :: l => by simp [pureWs, h, pureWs_map h l]
theorem pureWs_iff : ∀ {ws : List W}, pureWs ws = true ↔ ∀ w ∈ ws, pureW w = true
  | [] => by simp [pureWs]
  | w :: ws => by simp [pureWs, pureWs_iff (ws := ws)]
theorem erase_perm {α : Type} : ∀ {l : List α} {i : Nat} {x : α}, l[i]? = some x → (x :: l.eraseIdx i).Perm l
  | [], _, _, h => by simp at h
  | a :: l, 0, x, h => by
    have : a = x := by simpa using h
    subst this
    exact List.Perm.refl _
  | a :: l, i + 1, x, h => by
    have h' : l[i]? = some x := by simpa using h
    exact (List.Perm.swap a x _).trans ((erase_perm h').cons a)
theorem popAt_ok {M : Store} {n : Nat} {ws : List W} {d : Int} (hn : M[n]? = some ⟨true, .lst ws⟩) (h0 : 0 ≤ d) (h1 : d < ws.length) (hs : ws.length ≤ 16777216) :
    ∃ w, ws[d.toNat]? = some w ∧ (w :: ws.eraseIdx d.toNat).Perm ws ∧ mthW .popAt true [.ref n, .int d] M = .ok w (M.set n ⟨true, .lst (ws.eraseIdx d.toNat)⟩) := by
  have hd : d.toNat < ws.length := by omega
  refine ⟨ws[d.toNat], List.getElem?_eq_getElem hd, erase_perm (List.getElem?_eq_getElem hd), ?_⟩
  have e : seqIndex? d ws.length = some d.toNat := by
    unfold seqIndex?
    have : ¬ d < 0 := by omega
    simp [this, h0, h1]
  simp only [mthW, mth1, putL, hn]
  rw [if_pos (by omega), e]
  simp only [Option.bind_some, List.getElem?_eq_getElem hd, Option.map_some, need_some]
/-! ### fields: names and kinds -/
abbrev Fd : Type := Str × Str
def fdW (f : Fd) : W := .tup [.str f.1, .str f.2]
def fdsW (fs : List Fd) : List W := fs.map fdW
def kinds3 : List Str := ["mine", "theirs", "counter"]
def isC (k : Str) : Bool := decide (k = "counter")
structure FdsOk (fs : List Fd) : Prop where
  wd : ∀ f ∈ fs, Wd f.1
  nd : (fs.map (·.1)).Nodup
  kd : ∀ f ∈ fs, f.2 ∈ kinds3
theorem fdsW_pure (fs : List Fd) : pureWs (fdsW fs) = true := pureWs_map (fun _ => rfl) fs
theorem kinds_ok {k : Str} (h : k ∈ kinds3) : sOk k = true := by
  simp only [kinds3, List.mem_cons, List.not_mem_nil, or_false] at h
  rcases h with rfl | rfl | rfl <;> decide +kernel
theorem lzip_fds {M : Store} : ∀ {ss ks : List Str}, ss.length = ks.length → (ss.map W.str).zipWith (fun u v => W.tup [u, v]) (ks.map W.str) = fdsW (ss.zip ks)
  | [], [], _ => rfl
  | s :: ss, k :: ks, h => by
    have := lzip_fds (M := M) (ss := ss) (ks := ks) (by simpa using h)
    simp only [fdsW] at this
    simp [fdsW, fdW, this]
  | [], _ :: _, h => by simp at h
  | _ :: _, [], h => by simp at h
theorem zip_fst' : ∀ {ss ks : List Str}, ss.length = ks.length → (ss.zip ks).map (·.1) = ss
  | [], [], _ => rfl
  | s :: ss, k :: ks, h => by simp [zip_fst' (ss := ss) (ks := ks) (by simpa using h)]
  | [], _ :: _, h => by simp at h
  | _ :: _, [], h => by simp at h
theorem zip_snd' : ∀ {ss ks : List Str}, ss.length = ks.length → (ss.zip ks).map (·.2) = ks
  | [], [], _ => rfl
  | s :: ss, k :: ks, h => by simp [zip_snd' (ss := ss) (ks := ks) (by simpa using h)]
  | [], _ :: _, h => by simp at h
  | _ :: _, [], h => by simp at h
/-- a row of texts whose values are a permutation of texts -/
theorem perm_strs {ys : List W} {ks : List Str} (h : ys.Perm (ks.map W.str)) : ∃ ls : List Str, ys = ls.map W.str ∧ ls.Perm ks := by
  have hall : ∀ y ∈ ys, ∃ s, y = W.str s := fun y hy => by
    obtain ⟨s, _, rfl⟩ := List.mem_map.mp (h.mem_iff.mp hy)
    exact ⟨s, rfl⟩
  have ex : ∀ {ys : List W}, (∀ y ∈ ys, ∃ s, y = W.str s) → ∃ ls : List Str, ys = ls.map W.str := by
    intro ys
    induction ys with
    | nil => exact fun _ => ⟨[], rfl⟩
    | cons y ys ih =>
      intro h
      obtain ⟨s, rfl⟩ := h y (by simp)
      obtain ⟨ls, rfl⟩ := ih fun z hz => h z (by simp [hz])
      exact ⟨s :: ls, rfl⟩
  obtain ⟨ls, rfl⟩ := ex hall
  refine ⟨ls, rfl, ?_⟩
  have := h.filterMap fun w => match w with | .str s => some s | _ => none
  have e : ∀ l : List Str, (l.map W.str).filterMap (fun w => match w with | .str s => some s | _ => none) = l := by
    intro l
    induction l with
    | nil => rfl
    | cons a l ih => simp [ih]
  rw [e, e] at this
  exact this
/-- how many counters -/
def cntC (fs : List Fd) : Nat := (fs.map (·.2)).countP isC
def cntL (fs : List Fd) : Nat := (fs.map (·.2)).countP fun k => !isC k
/-! ### operators on known values -/
section
variable {M : Store} {fz : Bool} {i j : Int} {x y : List W}
theorem bin_addI : binW .Add fz (.int i) (.int j) M = .ok (.int (i + j)) M := rfl
theorem bin_subI : binW .Sub fz (.int i) (.int j) M = .ok (.int (i - j)) M := rfl
theorem bin_mulI (h : CMul i j) : binW .Mult fz (.int i) (.int j) M = .ok (.int (i * j)) M := if_pos h
theorem bin_modI (h : 0 < j) : binW .Mod fz (.int i) (.int j) M = .ok (.int (i % j)) M := if_pos h
theorem bin_addL (h : x.length + y.length ≤ 16777216) : binW .Add true (.lst x) (.lst y) M = .ok (.lst (x ++ y)) M := by
  show need (some x) (fun x => need (some y) fun y => if x.length + y.length ≤ sizeLine then newL true (x ++ y) M else .err) = _
  simp only [need_some]
  rw [if_pos (by rw [sizeLine_eq]; omega)]
  rfl
theorem bin_addT (h : x.length + y.length ≤ 16777216) : binW .Add fz (.tup x) (.tup y) M = .ok (.tup (x ++ y)) M := if_pos (by rw [sizeLine_eq]; omega)
theorem cmp_Eq {a b : W} {k : Bool} (h : eqW M a b = some k) : cmpW .Eq a b M = .ok (.bl k) M := by
  have : cmpW .Eq a b M = need (eqW M a b) fun r => .ok (.bl r) M := by cases a <;> cases b <;> rfl
  rw [this, h]; rfl
theorem cmp_Ne {a b : W} {k : Bool} (h : eqW M a b = some k) : cmpW .NotEq a b M = .ok (.bl (!k)) M := by
  have : cmpW .NotEq a b M = need (eqW M a b) fun r => .ok (.bl (!r)) M := by cases a <;> cases b <;> rfl
  rw [this, h]; rfl
theorem cmp_In {a b : W} {k : Bool} (h : inW M a b = some k) : cmpW .In a b M = .ok (.bl k) M := by
  have : cmpW .In a b M = need (inW M a b) fun r => .ok (.bl r) M := by cases a <;> cases b <;> rfl
  rw [this, h]; rfl
theorem cmp_NotIn {a b : W} {k : Bool} (h : inW M a b = some k) : cmpW .NotIn a b M = .ok (.bl (!k)) M := by
  have : cmpW .NotIn a b M = need (inW M a b) fun r => .ok (.bl (!r)) M := by cases a <;> cases b <;> rfl
  rw [this, h]; rfl
theorem cmp_eqI : cmpW .Eq (.int i) (.int j) M = .ok (.bl (decide (i = j))) M := cmp_Eq eqW_ints
theorem cmp_eqS {a b : Str} (ha : sOk a = true) (hb : sOk b = true) : cmpW .Eq (.str a) (.str b) M = .ok (.bl (decide (a = b))) M := cmp_Eq (eqW_strs ha hb)
theorem cmp_neS {a b : Str} (ha : sOk a = true) (hb : sOk b = true) : cmpW .NotEq (.str a) (.str b) M = .ok (.bl (!decide (a = b))) M := cmp_Ne (eqW_strs ha hb)
theorem cmp_eqT {a b : Str} : cmpW .Eq (.str a) (.str b) M = .ok (.bl (decide (a = b))) M := cmp_Eq eqW_str
theorem cmp_neT {a b : Str} : cmpW .NotEq (.str a) (.str b) M = .ok (.bl (!decide (a = b))) M := cmp_Ne eqW_str
theorem cmp_gtI : cmpW .Gt (.int i) (.int j) M = .ok (.bl (decide (j < i))) M := rfl
theorem cmp_ltI : cmpW .Lt (.int i) (.int j) M = .ok (.bl (decide (i < j))) M := rfl
theorem cmp_leI : cmpW .LtE (.int i) (.int j) M = .ok (.bl (decide (i ≤ j))) M := rfl
theorem outW_lstP {k : Nat} (h : pureWs x = true) : outW M k (.lst x) = .lst x := outW_pure h
theorem outW_tupP {k : Nat} (h : pureWs x = true) : outW M k (.tup x) = .tup x := outW_pure h
/-- append to a live list -/
theorem mth_app {n : Nat} {a : W} (hn : M[n]? = some ⟨true, .lst x⟩) (h : x.length < 16777216) : mthW .append fz [.ref n, a] M = .ok .non (M.set n ⟨true, .lst (x ++ [a])⟩) := by
  simp only [mthW, mth1, putL, hn]
  rw [if_pos (by rw [sizeLine_eq]; omega)]
  rfl
end
theorem sOk_counter : sOk (Str.ofString "counter") = true := by decide +kernel
theorem sOk_mine : sOk (Str.ofString "mine") = true := by decide +kernel
theorem sOk_theirs : sOk (Str.ofString "theirs") = true := by decide +kernel
/-! ### plans and rows -/
def PlanE (k : Str) (w : W) : Prop := if isC k then ∃ a b : Int, w = .tup [.int a, .int b] ∧ -20 ≤ a ∧ a ≤ 20 ∧ 0 ≤ b ∧ b ≤ 10 ^ 26
  else ∃ (g : Int) (ss : List Str) (b : Bool), w = .tup [.int g, .lst (ss.map W.str), .bl b] ∧ 0 ≤ g ∧ g < 3 ∧ ss ≠ [] ∧ ss.length ≤ 25 ∧ ∀ s ∈ ss, Wd s
theorem PlanE.pure {k : Str} {w : W} (h : PlanE k w) : pureW w = true := by
  unfold PlanE at h
  split at h
  · obtain ⟨a, b, rfl, _⟩ := h; rfl
  · obtain ⟨g, ss, b, rfl, _⟩ := h
    have := pureWs_map (f := W.str) (fun _ => rfl) ss
    simp [pureW, pureWs, this]
/-- one after the other, of a list of kinds -/
def Along (P : Str → W → Prop) (fs : List Fd) (ws : List W) : Prop := ∀ (i : Nat) (f : Fd) (w : W), fs[i]? = some f → ws[i]? = some w → P f.2 w
theorem Along.nil {P : Str → W → Prop} {fs : List Fd} : Along P fs [] := fun i f w _ h => by simp at h
theorem Along.snoc {P : Str → W → Prop} {fs : List Fd} {ws : List W} {f : Fd} {w : W} (h : Along P fs ws) (hf : fs[ws.length]? = some f) (hw : P f.2 w) : Along P fs (ws ++ [w]) := fun i g u hg hu => by
  rcases Nat.lt_trichotomy i ws.length with hi | hi | hi
  · rw [List.getElem?_append_left hi] at hu
    exact h i g u hg hu
  · subst hi
    rw [List.getElem?_append_right (Nat.le_refl _)] at hu
    simp at hu
    rw [hf] at hg
    cases hg
    rw [← hu]; exact hw
  · rw [List.getElem?_eq_none (by simp; omega)] at hu
    cases hu
theorem Along.pure {P : Str → W → Prop} {fs : List Fd} {ws : List W} (h : Along P fs ws) (hl : ws.length ≤ fs.length) (hp : ∀ k w, P k w → pureW w = true) : pureWs ws = true := by
  rw [pureWs_iff]
  intro w hw
  obtain ⟨i, hi, e⟩ := List.mem_iff_getElem.mp hw
  exact hp _ _ (h i fs[i] w (List.getElem?_eq_getElem (by omega)) (by rw [List.getElem?_eq_getElem hi, e]))
/-- a value of a field, a counter at most B -/
def ValE (B : Int) (k : Str) (w : W) : Prop := if isC k then ∃ a : Int, w = .int a ∧ -B ≤ a ∧ a ≤ B else ∃ s : Str, w = .str s ∧ Wd s
theorem ValE.pure {B : Int} {k : Str} {w : W} (h : ValE B k w) : pureW w = true := by
  unfold ValE at h
  split at h
  · obtain ⟨a, rfl, _⟩ := h; rfl
  · obtain ⟨a, rfl, _⟩ := h; rfl
theorem ValE.mono {B B' : Int} {k : Str} {w : W} (h : ValE B k w) (hb : B ≤ B') : ValE B' k w := by
  unfold ValE at h ⊢
  split at h
  · rename_i hk
    rw [if_pos hk]
    obtain ⟨a, rfl, h1, h2⟩ := h
    exact ⟨a, rfl, by omega, by omega⟩
  · rename_i hk
    rw [if_neg hk]
    exact h
/-- a row of the fields -/
structure RowOk (B : Int) (fs : List Fd) (ws : List W) : Prop where
  len : ws.length = fs.length
  al : Along (ValE B) fs ws
theorem RowOk.pure {B : Int} {fs : List Fd} {ws : List W} (h : RowOk B fs ws) : pureWs ws = true := h.al.pure (by rw [h.len]; exact Nat.le_refl _) fun _ _ => ValE.pure
theorem RowOk.mono {B B' : Int} {fs : List Fd} {ws : List W} (h : RowOk B fs ws) (hb : B ≤ B') : RowOk B' fs ws := ⟨h.len, fun i f w a b => (h.al i f w a b).mono hb⟩
theorem int_bl {M : Store} {b : Bool} : intW (.bl b) M = .ok (.int (if b then 1 else 0)) M := rfl
theorem fdsW_get {fs : List Fd} {i : Nat} {x : W} (h : (fdsW fs)[i]? = some x) : ∃ f, fs[i]? = some f ∧ x = fdW f := by
  unfold fdsW at h
  rw [List.getElem?_map, Option.map_eq_some_iff] at h
  obtain ⟨f, h1, rfl⟩ := h
  exact ⟨f, h1, rfl⟩
theorem FdsOk.kind {fs : List Fd} (h : FdsOk fs) {i : Nat} {f : Fd} (hf : fs[i]? = some f) : sOk f.2 = true := kinds_ok (h.kd f (List.mem_of_getElem? hf))
theorem isC_true {k : Str} : (k = Str.ofString "counter") ↔ isC k = true := by unfold isC; rw [decide_eq_true_iff]
theorem pow_I {M : Store} {fz : Bool} {i j : Int} (h : 0 ≤ j ∧ j ≤ 1000000 ∧ i.natAbs < 2 ^ 64) : binW .Pow fz (.int i) (.int j) M = .ok (.int (i ^ j.toNat)) M := if_pos h
theorem pow_25 {M : Store} {fz : Bool} : binW .Pow fz (.int 10) (.int 25) M = .ok (.int 10000000000000000000000000) M := pow_I (by decide)
theorem pow_9 {M : Store} {fz : Bool} : binW .Pow fz (.int 10) (.int 9) M = .ok (.int 1000000000) M := pow_I (by decide)
theorem pow_20 {M : Store} {fz : Bool} : binW .Pow fz (.int 10) (.int 20) M = .ok (.int 100000000000000000000) M := pow_I (by decide)
theorem enum_items {M : Store} {ws : List W} : itemsW .enum [.lst ws] M = some ((List.range ws.length).zipWith (fun (i : Nat) w => .tup [.int (i : Int), w]) ws) := rfl
theorem enum_get {ws : List W} {i : Nat} {x : W} (h : ((List.range ws.length).zipWith (fun (i : Nat) w => W.tup [.int (i : Int), w]) ws)[i]? = some x) : ∃ w, ws[i]? = some w ∧ x = .tup [.int (i : Int), w] := by
  have hi := (List.getElem?_eq_some_iff.mp h).1
  simp at hi
  rw [List.getElem?_zipWith, List.getElem?_range hi, List.getElem?_eq_getElem hi] at h
  cases h
  exact ⟨_, List.getElem?_eq_getElem hi, rfl⟩
theorem enum_len {ws : List W} : ((List.range ws.length).zipWith (fun (i : Nat) w => W.tup [.int (i : Int), w]) ws).length = ws.length := by simp
theorem idx_lstN {M : Store} {ws : List W} {i : Nat} {w : W} (h : ws[i]? = some w) : idxW (.lst ws) (.int (i : Int)) M = .ok w M := idx_lst (by rw [atI_nat']; exact h)
theorem idx_tupN {M : Store} {ws : List W} {i : Nat} {w : W} (h : ws[i]? = some w) : idxW (.tup ws) (.int (i : Int)) M = .ok w M := idx_tup (by rw [atI_nat']; exact h)
theorem idx_t0 {M : Store} {a : W} {ws : List W} : idxW (.tup (a :: ws)) (.int 0) M = .ok a M := idx_tup atI_0
theorem idx_t1 {M : Store} {a b : W} {ws : List W} : idxW (.tup (a :: b :: ws)) (.int 1) M = .ok b M := idx_tup atI_1
theorem idx_l0 {M : Store} {a : W} {ws : List W} : idxW (.lst (a :: ws)) (.int 0) M = .ok a M := idx_lst atI_0
theorem idx_l1 {M : Store} {a b : W} {ws : List W} : idxW (.lst (a :: b :: ws)) (.int 1) M = .ok b M := idx_lst atI_1
/-! ### the schema -/
def schW (fs : List Fd) : W := .obj "Schema" ["field_list", "places"] [.lst (fdsW fs), .dct (fs.map fun f => Sum.inr f.1) ((List.range fs.length).map fun (i : Nat) => .int (i : Int))]
theorem schW_pure (fs : List Fd) : pureW (schW fs) = true := by
  simp [schW, pureW, pureWs, fdsW_pure]
  exact pureWs_map (fun _ => rfl) _
theorem own_sch {Γ : Glo} {m : Str} {fi : FnI} {fs : List Fd} {M : Store} (h : Γ.mt "Schema" m = some fi) (hp : fi.ps.length = 1) (hm : m ∉ (["field_list", "places"] : List Str)) : ownW Γ "Schema" m true [schW fs] M = callW fi.sem true [schW fs] M := by
  unfold ownW
  simp only [schW, vO, need_some]
  rw [if_pos ⟨trivial, hm⟩, h, need_some]
  unfold fullW
  rw [if_pos (by rw [hp]; rfl)]
/-! ### picks -/
def vEq : W → W → Bool
  | .str a, .str b => decide (a = b)
  | .int a, .int b => decide (a = b)
  | _, _ => false
def iv : W → Int
  | .int i => i
  | _ => 0
def pickV (k : Str) (x b y : W) : W :=
  if k = Str.ofString "mine" then (if vEq x b then y else x) else if k = Str.ofString "theirs" then (if vEq y b then x else y) else .int (iv x + iv y - iv b)
def gW (ws : List W) (i : Nat) : W := ws.getD i .non
def kdAt (fs : List Fd) (i : Nat) : Str := (fs.getD i (Str.empty, Str.empty)).2
def pickR (fs : List Fd) (xs bs ys : List W) : List W := (List.range fs.length).map fun i => pickV (kdAt fs i) (gW xs i) (gW bs i) (gW ys i)
theorem gW_of {ws : List W} {i : Nat} {w : W} (h : ws[i]? = some w) : gW ws i = w := by
  unfold gW
  rw [List.getD_eq_getElem?_getD, h]; rfl
theorem kdAt_of {fs : List Fd} {i : Nat} {f : Fd} (h : fs[i]? = some f) : kdAt fs i = f.2 := by
  unfold kdAt
  rw [List.getD_eq_getElem?_getD, h]; rfl
theorem get_gW {ws : List W} {i : Nat} (h : i < ws.length) : ws[i]? = some (gW ws i) := by
  rw [gW_of (List.getElem?_eq_getElem h)]
  exact List.getElem?_eq_getElem h
theorem pickR_len {fs : List Fd} {xs bs ys : List W} : (pickR fs xs bs ys).length = fs.length := by simp [pickR]
theorem pickR_get {fs : List Fd} {xs bs ys : List W} {i : Nat} (h : i < fs.length) : (pickR fs xs bs ys)[i]? = some (pickV (kdAt fs i) (gW xs i) (gW bs i) (gW ys i)) := by
  unfold pickR
  rw [List.getElem?_map, List.getElem?_range h]; rfl
theorem kinds3_cases {k : Str} (h : k ∈ kinds3) : k = Str.ofString "mine" ∨ k = Str.ofString "theirs" ∨ k = Str.ofString "counter" := by
  simpa [kinds3] using h
theorem ne_mt : ¬ (Str.ofString "theirs" = Str.ofString "mine") := by decide +kernel
theorem ne_cm : ¬ (Str.ofString "counter" = Str.ofString "mine") := by decide +kernel
theorem ne_ct : ¬ (Str.ofString "counter" = Str.ofString "theirs") := by decide +kernel
theorem ne_mc : ¬ (Str.ofString "mine" = Str.ofString "counter") := by decide +kernel
theorem ne_tc : ¬ (Str.ofString "theirs" = Str.ofString "counter") := by decide +kernel
theorem isC_m : isC (Str.ofString "mine") = false := by decide +kernel
theorem isC_t : isC (Str.ofString "theirs") = false := by decide +kernel
theorem isC_c : isC (Str.ofString "counter") = true := by decide +kernel
theorem eqW_vEq {B B' : Int} {k : Str} {M : Store} {x y : W} (hx : ValE B k x) (hy : ValE B' k y) : eqW M x y = some (vEq x y) := by
  unfold ValE at hx hy
  split at hx
  · rename_i hk
    rw [if_pos hk] at hy
    obtain ⟨a, rfl, _⟩ := hx
    obtain ⟨b, rfl, _⟩ := hy
    exact eqW_ints
  · rename_i hk
    rw [if_neg hk] at hy
    obtain ⟨a, rfl, _⟩ := hx
    obtain ⟨b, rfl, _⟩ := hy
    exact eqW_str
theorem pickV_ok {B : Int} {k : Str} {x b y : W} (hk : k ∈ kinds3) (hB : 0 ≤ B) (hx : ValE B k x) (hb : ValE B k b) (hy : ValE B k y) : ValE (3 * B) k (pickV k x b y) := by
  rcases kinds3_cases hk with rfl | rfl | rfl
  · unfold pickV
    rw [if_pos rfl]
    split
    · exact hy.mono (by omega)
    · exact hx.mono (by omega)
  · unfold pickV
    rw [if_neg ne_mt, if_pos rfl]
    split
    · exact hx.mono (by omega)
    · exact hy.mono (by omega)
  · unfold pickV
    rw [if_neg ne_cm, if_neg ne_ct]
    unfold ValE at *
    rw [if_pos isC_c] at *
    obtain ⟨i, rfl, i1, i2⟩ := hx
    obtain ⟨j, rfl, j1, j2⟩ := hb
    obtain ⟨m, rfl, m1, m2⟩ := hy
    exact ⟨_, rfl, by simp only [iv]; omega, by simp only [iv]; omega⟩
theorem RowOk.at {B : Int} {fs : List Fd} {ws : List W} (h : RowOk B fs ws) {i : Nat} (hi : i < fs.length) : ValE B (kdAt fs i) (gW ws i) := by
  have h1 : fs[i]? = some fs[i] := List.getElem?_eq_getElem hi
  rw [kdAt_of h1]
  exact h.al i fs[i] _ h1 (get_gW (by rw [h.len]; exact hi))
theorem FdsOk.kat {fs : List Fd} (h : FdsOk fs) {i : Nat} (hi : i < fs.length) : kdAt fs i ∈ kinds3 := by
  rw [kdAt_of (List.getElem?_eq_getElem hi)]
  exact h.kd _ (List.getElem_mem hi)
theorem pickR_ok {B : Int} {fs : List Fd} {xs bs ys : List W} (hf : FdsOk fs) (hB : 0 ≤ B) (hx : RowOk B fs xs) (hb : RowOk B fs bs) (hy : RowOk B fs ys) : RowOk (3 * B) fs (pickR fs xs bs ys) := by
  refine ⟨pickR_len, fun i f w hfi hwi => ?_⟩
  have hi := (List.getElem?_eq_some_iff.mp hfi).1
  rw [pickR_get hi] at hwi
  cases hwi
  have := pickV_ok (hf.kat hi) hB (hx.at hi) (hb.at hi) (hy.at hi)
  rw [kdAt_of hfi] at this ⊢
  exact this
end PyI

namespace PyI
open PySem PySem.Spec PyProof.Rows L2
/-! ### repr of values: there is one, of a bounded length -/
theorem slen_append (a b : Str) : (a ++ b).length = a.length + b.length := by
  show (a.cps ++ b.cps).size = _
  rw [Array.size_append]; rfl
theorem textFrom_le : ∀ (ts : List Str) (k : Nat) (acc : Str), (textFrom k acc ts).length ≤ acc.length + piled ts
  | [], k, acc => by simp [textFrom, piled]
  | t :: ts, k, acc => by
    have ih := textFrom_le ts (k + 1) (acc ++ (if k > 0 then ", " else "" : String) ++ t)
    rw [piled_cons]
    have e : (acc ++ (if k > 0 then ", " else "" : String) ++ t : Str).length ≤ acc.length + 2 + t.length := by
      rw [slen_append, slen_append]
      have : (((if k > 0 then ", " else "" : String)) : Str).length ≤ 2 := by
        split <;> decide +kernel
      omega
    show (textFrom (k + 1) _ ts).length ≤ _
    omega
theorem listText_le (ts : List Str) : (listText ts).length ≤ piled ts + 2 := by
  unfold listText
  rw [slen_append]
  have := textFrom_le ts 0 "["
  have e1 : (("[" : String) : Str).length = 1 := by decide +kernel
  have e2 : (("]" : String) : Str).length = 1 := by decide +kernel
  omega
theorem tupleText_le (ts : List Str) : (tupleText ts).length ≤ piled ts + 3 := by
  unfold tupleText
  rw [slen_append, slen_append]
  have e1 : (("(" : String) : Str).length = 1 := by decide +kernel
  have e2 : (((if ts.length == 1 then ",)" else ")" : String)) : Str).length ≤ 2 := by
    split <;> decide +kernel
  have e3 : (Str.join ", " ts).length ≤ piled ts := by
    cases ts with
    | nil => decide +kernel
    | cons t r =>
      have := join_length_add (t :: r) (by simp)
      omega
  omega
/-- data of a bounded size -/
structure Dat (w : W) (d : PyData) (n k : Nat) : Prop where
  data : dataW w = some d
  pure : pureW w = true
  show_ : d.showable = true
  dict : d.hasDict = false
  deep : d.depth ≤ k
  size : d.shown.length ≤ n
  lay : d.canLay0 = true
theorem Dat.mono {w : W} {d : PyData} {n k n' k' : Nat} (h : Dat w d n k) (hn : n ≤ n') (hk : k ≤ k') : Dat w d n' k' := ⟨h.data, h.pure, h.show_, h.dict, Nat.le_trans h.deep hk, Nat.le_trans h.size hn, h.lay⟩
theorem dat_int {i : Int} (h : i.natAbs.log2 < 1920) : Dat (.int i) (.int i) 1921 0 := ⟨rfl, rfl, by simp only [PyData.showable]; exact decide_eq_true h, by simp only [PyData.hasDict], by simp only [PyData.depth]; exact Nat.le_refl _, by simp only [PyData.shown]; exact int_text_len_1921 h, by simp only [PyData.canLay0]⟩
theorem dat_str {s : Str} (h : sOk s = true) : Dat (.str s) (.str s) (10 * s.length + 2) 0 := by
  refine ⟨rfl, rfl, by simp only [PyData.showable], by simp only [PyData.hasDict], by simp only [PyData.depth]; exact Nat.le_refl _, ?_, by simp only [PyData.canLay0]; exact h⟩
  simp only [PyData.shown]
  have hc : ∀ c ∈ s.cps.toList, c < 16 ^ 8 := fun c hc => by
    unfold sOk PyData.strOk at h
    have h1 : decide (c < 0x110000) = true := (Array.all_eq_true_iff_forall_mem.mp h) c (Array.mem_toList_iff.mp hc)
    have h2 := of_decide_eq_true h1
    omega
  exact PySem.StrLaws.reprText_len s hc
theorem dat_bl {b : Bool} : Dat (.bl b) (.bool b) 5 0 := ⟨rfl, rfl, by simp only [PyData.showable], by simp only [PyData.hasDict], by simp only [PyData.depth]; exact Nat.le_refl _, by cases b <;> (simp only [PyData.shown]; decide +kernel), by simp only [PyData.canLay0]⟩
/-- several values, each of at most n -/
inductive Dats (n k : Nat) : List W → List PyData → Prop
  | nil : Dats n k [] []
  | cons {w : W} {d : PyData} {ws : List W} {ds : List PyData} : Dat w d n k → Dats n k ws ds → Dats n k (w :: ws) (d :: ds)
theorem Dats.all {n k : Nat} {ws : List W} {ds : List PyData} (h : Dats n k ws ds) : dataWs ws = some ds ∧ pureWs ws = true ∧ PyData.showableAll ds = true ∧ PyData.hasDictAll ds = false ∧ PyData.depthAll ds ≤ k ∧ piled (PyData.shownAll ds) ≤ ws.length * (n + 2) ∧ PyData.canLayAll0 ds = true := by
  induction h with
  | nil => exact ⟨rfl, rfl, by simp only [PyData.showableAll], by simp only [PyData.hasDictAll], by simp only [PyData.depthAll]; omega, by simp [PyData.shownAll, piled], by simp only [PyData.canLayAll0]⟩
  | cons a _ ih =>
    obtain ⟨h1, h2, h3, h4, h5, h6, h7⟩ := ih
    refine ⟨by simp [dataWs, a.data, h1], by simp [pureWs, a.pure, h2], by simp only [PyData.showableAll, a.show_, h3]; rfl, by simp only [PyData.hasDictAll, a.dict, h4]; rfl, ?_, ?_, by simp only [PyData.canLayAll0, a.lay, h7]; rfl⟩
    · simp only [PyData.depthAll]
      exact Nat.max_le.mpr ⟨a.deep, h5⟩
    · simp only [PyData.shownAll, piled_cons, List.length_cons, Nat.add_mul, Nat.one_mul]
      have := a.size
      omega
theorem Dats.of {n k : Nat} : ∀ {ws : List W}, (∀ w ∈ ws, ∃ d, Dat w d n k) → ∃ ds, Dats n k ws ds
  | [], _ => ⟨[], .nil⟩
  | w :: ws, h => by
    obtain ⟨d, hd⟩ := h w (by simp)
    obtain ⟨ds, hds⟩ := Dats.of (ws := ws) fun z hz => h z (by simp [hz])
    exact ⟨d :: ds, .cons hd hds⟩
theorem dat_tup {n k : Nat} {ws : List W} {ds : List PyData} (h : Dats n k ws ds) : Dat (.tup ws) (.tuple ds) (ws.length * (n + 2) + 3) (k + 1) := by
  obtain ⟨h1, h2, h3, h4, h5, h6, h7⟩ := h.all
  refine ⟨by simp [dataW, h1], h2, by simp only [PyData.showable]; exact h3, by simp only [PyData.hasDict]; exact h4, by simp only [PyData.depth]; omega, ?_, by simp only [PyData.canLay0]; exact h7⟩
  simp only [PyData.shown]
  have := tupleText_le (PyData.shownAll ds)
  omega
theorem dat_lst {n k : Nat} {ws : List W} {ds : List PyData} (h : Dats n k ws ds) : Dat (.lst ws) (.list ds) (ws.length * (n + 2) + 3) (k + 1) := by
  obtain ⟨h1, h2, h3, h4, h5, h6, h7⟩ := h.all
  refine ⟨by simp [dataW, h1], h2, by simp only [PyData.showable]; exact h3, by simp only [PyData.hasDict]; exact h4, by simp only [PyData.depth]; omega, ?_, by simp only [PyData.canLay0]; exact h7⟩
  simp only [PyData.shown]
  have := listText_le (PyData.shownAll ds)
  omega
mutual
theorem res1_pure {M : Store} : ∀ {w : W}, pureW w = true → res1 M w = w
  | .tup ws, h => by
    simp only [pureW] at h
    simp only [res1, res1s_pure h]
  | .ref n, h => by simp [pureW] at h
  | .non, _ => rfl
  | .bl _, _ => rfl
  | .int _, _ => rfl
  | .str _, _ => rfl
  | .lst ws, h => by
    simp only [pureW] at h
    simp only [res1, res1s_pure h]
  | .dct _ _, _ => rfl
  | .obj _ _ _, _ => rfl
  | .cls _, _ => rfl
  | .typ _, _ => rfl
  | .scr _, _ => rfl
theorem res1s_pure {M : Store} : ∀ {ws : List W}, pureWs ws = true → res1s M ws = ws
  | [], _ => rfl
  | w :: ws, h => by
    simp only [pureWs, Bool.and_eq_true] at h
    simp only [res1s, res1_pure h.1, res1s_pure h.2]
end
theorem Dat.dataM {w : W} {d : PyData} {n k : Nat} {M : Store} (h : Dat w d n k) : dataM M w = some d := by
  unfold PyI.dataM
  rw [res1_pure h.pure, res1_pure h.pure, res1_pure h.pure]
  exact h.data
theorem Dat.repr {w : W} {d : PyData} {n k : Nat} {M : Store} (h : Dat w d n k) (hn : n ≤ 16777216) (hk : k ≤ 64) : reprW w M = .ok (.str d.shown) M := by
  unfold reprW
  rw [h.dataM, need_some, h.show_, h.dict, if_pos]
  simp only [Bool.true_and, Bool.and_true, Bool.not_false, Bool.and_eq_true, decide_eq_true_eq]
  exact ⟨by rw [sizeLine_eq]; exact Nat.le_trans h.size hn, Nat.le_trans h.deep hk⟩
/-- values of a field, rows -/
theorem ValE.dat {B : Int} {k : Str} {w : W} (h : ValE B k w) (hB : B < 10 ^ 200) : ∃ d, Dat w d 1921 0 := by
  unfold ValE at h
  split at h
  · obtain ⟨a, rfl, h1, h2⟩ := h
    refine ⟨_, dat_int ?_⟩
    by_cases h0 : a.natAbs = 0
    · rw [h0]; decide
    · rw [Nat.log2_lt h0]
      have e2 : (10 : Nat) ^ 200 ≤ 2 ^ 1920 := by decide +kernel
      have e : ((10 : Int) ^ 200) = ((10 ^ 200 : Nat) : Int) := by decide +kernel
      rw [e] at hB
      generalize (10 : Nat) ^ 200 = X at hB e2
      generalize (2 : Nat) ^ 1920 = Y at e2 ⊢
      omega
  · obtain ⟨s, rfl, hs⟩ := h
    exact ⟨_, (dat_str hs.ok).mono (by have := hs.most; omega) (Nat.le_refl _)⟩
theorem RowOk.dat {B : Int} {fs : List Fd} {ws : List W} (h : RowOk B fs ws) (hB : B < 10 ^ 200) (hl : fs.length ≤ 1000) : ∃ d, Dat (.tup ws) d 2000000 1 := by
  have : ∀ w ∈ ws, ∃ d, Dat w d 1921 0 := fun w hw => by
    obtain ⟨i, hi, e⟩ := List.mem_iff_getElem.mp hw
    have h1 : fs[i]? = some (fs[i]'(by rw [← h.len]; exact hi)) := List.getElem?_eq_getElem _
    exact (h.al i _ w h1 (by rw [List.getElem?_eq_getElem hi, e])).dat hB
  obtain ⟨ds, hds⟩ := Dats.of this
  have hl2 := h.len
  exact ⟨_, (dat_tup hds).mono (by rw [hl2]; omega) (by omega)⟩
mutual
theorem eqv_refl : ∀ d : PyData, d.hasDict = false → PyData.eqv d d = true
  | .none, _ => by simp only [PyData.eqv]
  | .bool b, _ => by simp [PyData.eqv]
  | .int i, _ => by simp [PyData.eqv]
  | .str s, _ => by simp [PyData.eqv]
  | .list xs, h => by
    simp only [PyData.hasDict] at h
    simp only [PyData.eqv]
    exact eqvAll_refl xs h
  | .tuple xs, h => by
    simp only [PyData.hasDict] at h
    simp only [PyData.eqv]
    exact eqvAll_refl xs h
  | .dict kvs, h => by simp [PyData.hasDict] at h
theorem eqvAll_refl : ∀ ds : List PyData, PyData.hasDictAll ds = false → PyData.eqvAll ds ds = true
  | [], _ => by simp only [PyData.eqvAll]
  | d :: ds, h => by
    simp only [PyData.hasDictAll, Bool.or_eq_false_iff] at h
    simp only [PyData.eqvAll, eqv_refl d h.1, eqvAll_refl ds h.2, Bool.and_self]
end
theorem Dat.shaped {w : W} {d : PyData} {n k : Nat} (h : Dat w d n k) (hk : k ≤ 64) : SeqAt.shaped d = true := by
  unfold SeqAt.shaped
  rw [h.lay]
  simp only [Bool.true_and, decide_eq_true_eq]
  exact Nat.le_trans h.deep hk
theorem Dat.eqW {w : W} {d : PyData} {n k : Nat} {M : Store} (h : Dat w d n k) (hk : k ≤ 64) : eqW M w w = some true := by
  unfold PyI.eqW
  split
  · simp
  · rw [h.dataM, Option.bind_some, Option.bind_some, h.shaped hk]
    simp [eqv_refl d h.dict]
theorem kinds_maj {k : Str} {B : Int} {x b y : W} (hk : k ∈ kinds3) (hc : isC k = false) (hx : ValE B k x) (hb : ValE B k b) (hy : ValE B k y) :
    (vEq x b = true ∨ vEq x y = true → pickV k x (pickV k x b y) y = x) ∧ (vEq x b = false → vEq x y = false → vEq b y = true → pickV k x (pickV k x b y) y = b) := by
  unfold ValE at hx hb hy
  rw [if_neg (by rw [hc]; simp)] at hx hb hy
  obtain ⟨s, rfl, _⟩ := hx
  obtain ⟨t, rfl, _⟩ := hb
  obtain ⟨u, rfl, _⟩ := hy
  have key : ∀ s t u : Str, (s = t ∨ s = u → ((if vEq (W.str s) (if vEq (.str s) (.str t) = true then .str u else .str s) = true then .str u else .str s : W) = .str s)) ∧ (s ≠ t → s ≠ u → t = u → ((if vEq (W.str s) (if vEq (.str s) (.str t) = true then .str u else .str s) = true then .str u else .str s : W) = .str t)) := by
    intro s t u
    by_cases h1 : s = t <;> by_cases h2 : s = u <;> by_cases h3 : t = u <;> simp_all [vEq]
  have key2 : ∀ s t u : Str, (s = t ∨ s = u → ((if vEq (W.str u) (if vEq (.str u) (.str t) = true then .str s else .str u) = true then .str s else .str u : W) = .str s)) ∧ (s ≠ t → s ≠ u → t = u → ((if vEq (W.str u) (if vEq (.str u) (.str t) = true then .str s else .str u) = true then .str s else .str u : W) = .str t)) := by
    intro s t u
    by_cases h5 : u = t
    · subst h5
      by_cases h1 : s = u
      · subst h1; simp [vEq]
      · have h2 : ¬ u = s := fun e => h1 e.symm
        simp [vEq, h1, h2]
    · have h3 : ¬ t = u := fun e => h5 e.symm
      simp [vEq, h5, h3]
  rcases kinds3_cases hk with rfl | rfl | rfl
  · unfold pickV
    rw [if_pos rfl, if_pos rfl]
    obtain ⟨k1, k2⟩ := key s t u
    exact ⟨fun h => k1 (by simpa [vEq] using h), fun h1 h2 h3 => k2 (by simpa [vEq] using h1) (by simpa [vEq] using h2) (by simpa [vEq] using h3)⟩
  · unfold pickV
    rw [if_neg ne_mt, if_pos rfl, if_neg ne_mt, if_pos rfl]
    obtain ⟨k1, k2⟩ := key2 s t u
    exact ⟨fun h => k1 (by simpa [vEq] using h), fun h1 h2 h3 => k2 (by simpa [vEq] using h1) (by simpa [vEq] using h2) (by simpa [vEq] using h3)⟩
  · rw [isC_c] at hc; cases hc
theorem kinds_self {k : Str} {B : Int} {x b : W} (hk : k ∈ kinds3) (hc : isC k = false) (hx : ValE B k x) (hb : ValE B k b) : pickV k x (pickV k x b x) x = x := by
  rcases kinds3_cases hk with rfl | rfl | rfl
  · unfold pickV
    simp
  · unfold pickV
    simp [ne_mt]
  · rw [isC_c] at hc; cases hc
theorem cnt_double {B : Int} {x b y : W} (hx : ValE B (Str.ofString "counter") x) (hb : ValE B (Str.ofString "counter") b) (hy : ValE B (Str.ofString "counter") y) : pickV (Str.ofString "counter") x (pickV (Str.ofString "counter") x b y) y = b := by
  unfold ValE at hx hb hy
  rw [if_pos isC_c] at hx hb hy
  obtain ⟨s, rfl, _⟩ := hx
  obtain ⟨t, rfl, _⟩ := hb
  obtain ⟨u, rfl, _⟩ := hy
  unfold pickV
  simp only [if_neg ne_cm, if_neg ne_ct, iv]
  congr 1
  omega
theorem cmp_isNon {M : Store} : cmpW .IsNot .non .non M = .ok (.bl false) M := rfl
theorem ValE.isNot {B : Int} {k : Str} {w : W} {M : Store} (h : ValE B k w) : cmpW .IsNot w .non M = .ok (.bl true) M := by
  unfold ValE at h
  split at h
  · obtain ⟨a, rfl, _⟩ := h; rfl
  · obtain ⟨a, rfl, _⟩ := h; rfl
theorem vEq_self {B : Int} {k : Str} {w : W} (h : ValE B k w) : vEq w w = true := by
  unfold ValE at h
  split at h
  · obtain ⟨a, rfl, _⟩ := h; simp [vEq]
  · obtain ⟨a, rfl, _⟩ := h; simp [vEq]
theorem isC_false {k : Str} (h : ¬ k = Str.ofString "counter") : isC k = false := by
  cases e : isC k with
  | false => rfl
  | true => exact absurd (isC_true.mpr e) h
theorem pure_gW {B : Int} {fs : List Fd} {ws : List W} (h : RowOk B fs ws) {i : Nat} (hi : i < fs.length) : pureW (gW ws i) = true := (h.at hi).pure
end PyI

open PySem PySem.Spec PyProof.Rows L2 PyI
namespace PyL
/-- _law_draw -/
def B_law_draw : List S := [
  .ife (.prm (.cmp .Gt) [.prm .idx [.var 0, .con (.int 0)], .con (.int 0)]) [
    .subNm (.var 0) (.con (.int 0)) 2 (.prm (.blt .divmod true) [.prm .idx [.var 0, .con (.int 0)], .var 1]),
    .ret (.var 2)] [],
  .setSub (.var 0) (.con (.int 1)) (.prm (.bin .Mod true) [.prm (.bin .Add true) [.prm (.bin .Mult true) [.prm .idx [.var 0, .con (.int 1)], .con (.int 39373)], .con (.int 12227)], .con (.int 2147483629)]),
  .ret (.prm (.bin .Mod true) [.prm (.bin .FloorDiv true) [.prm (.bin .Mod true) [.prm (.bin .Mult true) [.prm .idx [.var 0, .con (.int 1)], .prm .idx [.var 0, .con (.int 1)]], .con (.int 2147483563)], .con (.int 13)], .var 1])]
def D_law_draw : Df := ⟨["_law_pot_here", "_law_many"], ["_law_pot_here", "_law_many", "_law_digit"], B_law_draw⟩
noncomputable def G_law_draw : GloD := {  }
noncomputable def Y_law_draw : Glo := mkGlo G_law_draw
noncomputable def F_law_draw : FnI := ⟨["_law_pot_here", "_law_many"], 2, runW Y_law_draw D_law_draw⟩
theorem se_law_draw : F_law_draw.sem = runW Y_law_draw D_law_draw := rfl
theorem ps_law_draw : F_law_draw.ps.length = 2 := by rfl
/-- _law_word -/
def e1_law_word : E := .prm .idx [.var 2, .call "_law_draw" true [.var 0, .con (.int 26)] []]
def L2_law_word : E := .lc true [("_law_k", 4)] .range [.prm .idx [.prm (.lst true) [.con (.int 1), .con (.int 1), .con (.int 2), .con (.int 8)], .call "_law_draw" true [.var 0, .con (.int 4)] []]] (.nm 4) [] e1_law_word
def c3_law_word : List E := [.prm (.cmp .NotIn) [.var 5, .var 1]]
def e4_law_word : E := .var 5
def L5_law_word : E := .lc true [("_law_letter", 5)] .seq [.var 2] (.nm 5) c3_law_word e4_law_word
def B_law_word : List S := [
  .asg (.nm 2) (.con (.str "abcdefghijklmnopqrstuvwxyz")),
  .asg (.nm 3) (.mth .join true (.con (.str "")) [L2_law_word]),
  .ife (.prm (.cmp .In) [.var 3, .var 1]) [
    .asg (.nm 3) (.prm .idx [L5_law_word, .con (.int 0)])] [],
  .ret (.var 3)]
def D_law_word : Df := ⟨["_law_pot_here", "_law_taken"], ["_law_pot_here", "_law_taken", "_law_letters", "_law_word_here", "_law_k", "_law_letter"], B_law_word⟩
noncomputable def G_law_word : GloD := { fns := [("_law_draw", F_law_draw)] }
noncomputable def Y_law_word : Glo := mkGlo G_law_word
noncomputable def F_law_word : FnI := ⟨["_law_pot_here", "_law_taken"], 2, runW Y_law_word D_law_word⟩
theorem se_law_word : F_law_word.sem = runW Y_law_word D_law_word := rfl
theorem ps_law_word : F_law_word.ps.length = 2 := by rfl
theorem fn_law_word_law_draw : Y_law_word.fn "_law_draw" = some F_law_draw := by rfl
/-- _law_words -/
def X1_law_words : List S := [
  .expr (.mth .append true (.var 2) [.call "_law_word" true [.var 0, .var 2] []])]
def B_law_words : List S := [
  .asg (.nm 2) (.prm (.lst false) []),
  .for .range [.var 1] (.nm 3) X1_law_words,
  .ret (.var 2)]
def D_law_words : Df := ⟨["_law_pot_here", "_law_many"], ["_law_pot_here", "_law_many", "_law_found", "_law_k"], B_law_words⟩
noncomputable def G_law_words : GloD := { fns := [("_law_word", F_law_word)] }
noncomputable def Y_law_words : Glo := mkGlo G_law_words
noncomputable def F_law_words : FnI := ⟨["_law_pot_here", "_law_many"], 2, runW Y_law_words D_law_words⟩
theorem se_law_words : F_law_words.sem = runW Y_law_words D_law_words := rfl
theorem ps_law_words : F_law_words.ps.length = 2 := by rfl
theorem fn_law_words_law_word : Y_law_words.fn "_law_word" = some F_law_word := by rfl
/-- _law_mixed -/
def e1_law_mixed : E := .mth .popAt true (.var 2) [.call "_law_draw" true [.var 0, .prm (.blt .len true) [.var 2]] []]
def L2_law_mixed : E := .lc true [("_law_k", 3)] .range [.prm (.blt .len true) [.var 1]] (.nm 3) [] e1_law_mixed
def B_law_mixed : List S := [
  .asg (.nm 2) (.prm (.blt .list false) [.var 1]),
  .ret (L2_law_mixed)]
def D_law_mixed : Df := ⟨["_law_pot_here", "_law_given"], ["_law_pot_here", "_law_given", "_law_left", "_law_k"], B_law_mixed⟩
noncomputable def G_law_mixed : GloD := { fns := [("_law_draw", F_law_draw)] }
noncomputable def Y_law_mixed : Glo := mkGlo G_law_mixed
noncomputable def F_law_mixed : FnI := ⟨["_law_pot_here", "_law_given"], 2, runW Y_law_mixed D_law_mixed⟩
theorem se_law_mixed : F_law_mixed.sem = runW Y_law_mixed D_law_mixed := rfl
theorem ps_law_mixed : F_law_mixed.ps.length = 2 := by rfl
theorem fn_law_mixed_law_draw : Y_law_mixed.fn "_law_draw" = some F_law_draw := by rfl
/-- _law_fields -/
def e1_law_fields : E := .prm .idx [.prm (.lst true) [.con (.str "mine"), .con (.str "theirs")], .call "_law_draw" true [.var 0, .con (.int 2)] []]
def L2_law_fields : E := .lc true [("_law_k", 4)] .range [.var 1] (.nm 4) [] e1_law_fields
def B_law_fields : List S := [
  .asg (.nm 3) (.prm (.bin .Add true) [L2_law_fields, .prm (.bin .Mult true) [.prm (.lst true) [.con (.str "counter")], .var 2]]),
  .ret (.prm (.lzip true) [.call "_law_words" true [.var 0, .prm (.bin .Add true) [.var 1, .var 2]] [], .call "_law_mixed" true [.var 0, .var 3] []])]
def D_law_fields : Df := ⟨["_law_pot_here", "_law_marks", "_law_sums"], ["_law_pot_here", "_law_marks", "_law_sums", "_law_kinds", "_law_k"], B_law_fields⟩
noncomputable def G_law_fields : GloD := { fns := [("_law_draw", F_law_draw), ("_law_words", F_law_words), ("_law_mixed", F_law_mixed)] }
noncomputable def Y_law_fields : Glo := mkGlo G_law_fields
noncomputable def F_law_fields : FnI := ⟨["_law_pot_here", "_law_marks", "_law_sums"], 3, runW Y_law_fields D_law_fields⟩
theorem se_law_fields : F_law_fields.sem = runW Y_law_fields D_law_fields := rfl
theorem ps_law_fields : F_law_fields.ps.length = 3 := by rfl
theorem fn_law_fields_law_draw : Y_law_fields.fn "_law_draw" = some F_law_draw := by rfl
theorem fn_law_fields_law_words : Y_law_fields.fn "_law_words" = some F_law_words := by rfl
theorem fn_law_fields_law_mixed : Y_law_fields.fn "_law_mixed" = some F_law_mixed := by rfl
/-- _law_shape -/
def B_law_shape : List S := [
  .par [3, 4] [.call "_law_draw" true [.var 0, .prm (.bin .Add true) [.var 1, .con (.int 1)]] [], .call "_law_draw" true [.var 0, .prm (.bin .Add true) [.var 2, .con (.int 1)]] []],
  .ret (.call "_law_fields" true [.var 0, .prm (.bin .Add true) [.var 3, .prm (.blt .int true) [.prm (.cmp .Eq) [.prm (.bin .Add true) [.var 3, .var 4], .con (.int 0)]]], .var 4] [])]
def D_law_shape : Df := ⟨["_law_pot_here", "_law_most", "_law_more"], ["_law_pot_here", "_law_most", "_law_more", "_law_many", "_law_sums"], B_law_shape⟩
noncomputable def G_law_shape : GloD := { fns := [("_law_draw", F_law_draw), ("_law_fields", F_law_fields)] }
noncomputable def Y_law_shape : Glo := mkGlo G_law_shape
noncomputable def F_law_shape : FnI := ⟨["_law_pot_here", "_law_most", "_law_more"], 3, runW Y_law_shape D_law_shape⟩
theorem se_law_shape : F_law_shape.sem = runW Y_law_shape D_law_shape := rfl
theorem ps_law_shape : F_law_shape.ps.length = 3 := by rfl
theorem fn_law_shape_law_draw : Y_law_shape.fn "_law_draw" = some F_law_draw := by rfl
theorem fn_law_shape_law_fields : Y_law_shape.fn "_law_fields" = some F_law_fields := by rfl
/-- _law_step -/
def B_law_step : List S := [
  .asg (.nm 2) (.prm .idx [.prm (.lst true) [.con (.int 0), .con (.int 1), .con (.int 2), .con (.int 3), .con (.int 4), .con (.int 6)], .call "_law_draw" true [.var 0, .con (.int 6)] []]),
  .ret (.ife (.or [.prm (.cmp .Eq) [.var 1, .con (.int 0)], .prm (.cmp .Eq) [.call "_law_draw" true [.var 0, .con (.int 2)] [], .con (.int 0)]]) (.var 2) (.prm (.bin .Add true) [.prm (.bin .Mult true) [.var 2, .prm (.bin .Pow true) [.con (.int 10), .con (.int 25)]], .call "_law_draw" true [.var 0, .prm (.bin .Pow true) [.con (.int 10), .con (.int 9)]] []]))]
def D_law_step : Df := ⟨["_law_pot_here", "_law_far"], ["_law_pot_here", "_law_far", "_law_near"], B_law_step⟩
noncomputable def G_law_step : GloD := { fns := [("_law_draw", F_law_draw)] }
noncomputable def Y_law_step : Glo := mkGlo G_law_step
noncomputable def F_law_step : FnI := ⟨["_law_pot_here", "_law_far"], 2, runW Y_law_step D_law_step⟩
theorem se_law_step : F_law_step.sem = runW Y_law_step D_law_step := rfl
theorem ps_law_step : F_law_step.ps.length = 2 := by rfl
theorem fn_law_step_law_draw : Y_law_step.fn "_law_draw" = some F_law_draw := by rfl
/-- _law_plan -/
def X1_law_plan : List S := [
  .ife (.prm (.cmp .Eq) [.var 6, .con (.str "counter")]) [
    .expr (.mth .append true (.var 4) [.prm .tup [.prm (.bin .Sub true) [.call "_law_draw" true [.var 0, .con (.int 41)] [], .con (.int 20)], .call "_law_step" true [.var 0, .var 2] []]])] [
    .asg (.nm 7) (.call "_law_draw" true [.var 0, .con (.int 3)] []),
    .asg (.nm 8) (.ife (.prm (.cmp .Gt) [.call "_law_draw" true [.var 0, .con (.int 5)] [], .con (.int 0)]) (.prm .idx [.var 3, .var 7]) (.prm (.bin .Add true) [.con (.int 1), .call "_law_draw" true [.var 0, .con (.int 8)] []])),
    .expr (.mth .append true (.var 4) [.prm .tup [.var 7, .call "_law_words" true [.var 0, .var 8] [], .prm (.cmp .Eq) [.call "_law_draw" true [.var 0, .con (.int 6)] [], .con (.int 0)]]])]]
def B_law_plan : List S := [
  .par [3, 4] [.prm (.lst true) [.prm (.bin .Add true) [.con (.int 1), .call "_law_draw" true [.var 0, .con (.int 4)] []], .prm (.bin .Add true) [.con (.int 2), .call "_law_draw" true [.var 0, .con (.int 2)] []], .con (.int 2)], .prm (.lst false) []],
  .for .seq [.var 1] (.tup [.nm 5, .nm 6]) X1_law_plan,
  .ret (.var 4)]
def D_law_plan : Df := ⟨["_law_pot_here", "_law_fields_here", "_law_far"], ["_law_pot_here", "_law_fields_here", "_law_far", "_law_sizes", "_law_found", "_law_name", "_law_kind", "_law_group", "_law_size"], B_law_plan⟩
noncomputable def G_law_plan : GloD := { fns := [("_law_draw", F_law_draw), ("_law_step", F_law_step), ("_law_words", F_law_words)] }
noncomputable def Y_law_plan : Glo := mkGlo G_law_plan
noncomputable def F_law_plan : FnI := ⟨["_law_pot_here", "_law_fields_here", "_law_far"], 3, runW Y_law_plan D_law_plan⟩
theorem se_law_plan : F_law_plan.sem = runW Y_law_plan D_law_plan := rfl
theorem ps_law_plan : F_law_plan.ps.length = 3 := by rfl
theorem fn_law_plan_law_draw : Y_law_plan.fn "_law_draw" = some F_law_draw := by rfl
theorem fn_law_plan_law_step : Y_law_plan.fn "_law_step" = some F_law_step := by rfl
theorem fn_law_plan_law_words : Y_law_plan.fn "_law_words" = some F_law_words := by rfl
/-- _law_row -/
def X1_law_row : List S := [
  .ife (.prm (.cmp .Eq) [.prm .idx [.var 6, .con (.int 1)], .con (.str "counter")]) [
    .expr (.mth .append true (.var 4) [.prm (.bin .Add true) [.prm .idx [.prm .idx [.var 2, .var 5], .con (.int 0)], .prm (.bin .Mult true) [.prm .idx [.prm .idx [.var 2, .var 5], .con (.int 1)], .prm (.bin .Sub true) [.call "_law_draw" true [.var 0, .con (.int 7)] [], .con (.int 3)]]]])] [
    .asg (.tup [.nm 8, .nm 9, .nm 10]) (.prm .idx [.var 2, .var 5]),
    .asg (.nm 7) (.ife (.var 10) (.call "_law_draw" true [.var 0, .prm (.blt .len true) [.var 9]] []) (.prm .idx [.var 3, .var 8])),
    .expr (.mth .append true (.var 4) [.prm .idx [.var 9, .prm (.bin .Mod true) [.var 7, .prm (.blt .len true) [.var 9]]]])]]
def B_law_row : List S := [
  .par [3, 4] [.prm (.lst true) [.call "_law_draw" true [.var 0, .con (.int 4)] [], .call "_law_draw" true [.var 0, .con (.int 4)] [], .call "_law_draw" true [.var 0, .con (.int 4)] []], .prm (.lst false) []],
  .for .enum [.var 1] (.tup [.nm 5, .nm 6]) X1_law_row,
  .ret (.prm (.blt .tuple true) [.var 4])]
def D_law_row : Df := ⟨["_law_pot_here", "_law_fields_here", "_law_plan_here"], ["_law_pot_here", "_law_fields_here", "_law_plan_here", "_law_spots", "_law_found", "_law_at", "_law_row_here", "_law_index", "_law_group", "_law_pool", "_law_loose"], B_law_row⟩
noncomputable def G_law_row : GloD := { fns := [("_law_draw", F_law_draw)] }
noncomputable def Y_law_row : Glo := mkGlo G_law_row
noncomputable def F_law_row : FnI := ⟨["_law_pot_here", "_law_fields_here", "_law_plan_here"], 3, runW Y_law_row D_law_row⟩
theorem se_law_row : F_law_row.sem = runW Y_law_row D_law_row := rfl
theorem ps_law_row : F_law_row.ps.length = 3 := by rfl
theorem fn_law_row_law_draw : Y_law_row.fn "_law_draw" = some F_law_draw := by rfl
/-- _law_rows -/
def e1_law_rows : E := .call "_law_row" true [.var 0, .var 1, .var 4] []
def L2_law_rows : E := .lc false [("_law_k", 6)] .range [.prm (.bin .Add true) [.con (.int 1), .call "_law_draw" true [.var 0, .var 2] []]] (.nm 6) [] e1_law_rows
def B_law_rows : List S := [
  .asg (.nm 4) (.call "_law_plan" true [.var 0, .var 1, .var 3] []),
  .asg (.nm 5) (L2_law_rows),
  .ife (.prm (.cmp .Eq) [.call "_law_draw" true [.var 0, .con (.int 5)] [], .con (.int 0)]) [
    .expr (.mth .append true (.var 5) [.prm .idx [.var 5, .call "_law_draw" true [.var 0, .prm (.blt .len true) [.var 5]] []]])] [],
  .ret (.var 5)]
def D_law_rows : Df := ⟨["_law_pot_here", "_law_fields_here", "_law_most", "_law_far"], ["_law_pot_here", "_law_fields_here", "_law_most", "_law_far", "_law_plan_here", "_law_found", "_law_k"], B_law_rows⟩
noncomputable def G_law_rows : GloD := { fns := [("_law_plan", F_law_plan), ("_law_draw", F_law_draw), ("_law_row", F_law_row)] }
noncomputable def Y_law_rows : Glo := mkGlo G_law_rows
noncomputable def F_law_rows : FnI := ⟨["_law_pot_here", "_law_fields_here", "_law_most", "_law_far"], 4, runW Y_law_rows D_law_rows⟩
theorem se_law_rows : F_law_rows.sem = runW Y_law_rows D_law_rows := rfl
theorem ps_law_rows : F_law_rows.ps.length = 4 := by rfl
theorem fn_law_rows_law_plan : Y_law_rows.fn "_law_plan" = some F_law_plan := by rfl
theorem fn_law_rows_law_draw : Y_law_rows.fn "_law_draw" = some F_law_draw := by rfl
theorem fn_law_rows_law_row : Y_law_rows.fn "_law_row" = some F_law_row := by rfl
/-- _law_case -/
def B_law_case : List S := [
  .asg (.nm 4) (.call "_law_shape" true [.var 0, .var 1, .var 2] []),
  .ret (.prm .tup [.var 4, .call "_law_rows" true [.var 0, .var 4, .var 3, .prm (.blt .int true) [.prm (.cmp .Eq) [.call "_law_draw" true [.var 0, .con (.int 3)] [], .con (.int 0)]]] []])]
def D_law_case : Df := ⟨["_law_pot_here", "_law_most", "_law_more", "_law_rows_here"], ["_law_pot_here", "_law_most", "_law_more", "_law_rows_here", "_law_fields_here"], B_law_case⟩
noncomputable def G_law_case : GloD := { fns := [("_law_shape", F_law_shape), ("_law_rows", F_law_rows), ("_law_draw", F_law_draw)] }
noncomputable def Y_law_case : Glo := mkGlo G_law_case
noncomputable def F_law_case : FnI := ⟨["_law_pot_here", "_law_most", "_law_more", "_law_rows_here"], 4, runW Y_law_case D_law_case⟩
theorem se_law_case : F_law_case.sem = runW Y_law_case D_law_case := rfl
theorem ps_law_case : F_law_case.ps.length = 4 := by rfl
theorem fn_law_case_law_shape : Y_law_case.fn "_law_shape" = some F_law_shape := by rfl
theorem fn_law_case_law_rows : Y_law_case.fn "_law_rows" = some F_law_rows := by rfl
theorem fn_law_case_law_draw : Y_law_case.fn "_law_draw" = some F_law_draw := by rfl
/-- _law_among -/
def B_law_among : List S := [
  .ret (.prm .idx [.var 1, .call "_law_draw" true [.var 0, .prm (.blt .len true) [.var 1]] []])]
def D_law_among : Df := ⟨["_law_pot_here", "_law_some"], ["_law_pot_here", "_law_some"], B_law_among⟩
noncomputable def G_law_among : GloD := { fns := [("_law_draw", F_law_draw)] }
noncomputable def Y_law_among : Glo := mkGlo G_law_among
noncomputable def F_law_among : FnI := ⟨["_law_pot_here", "_law_some"], 2, runW Y_law_among D_law_among⟩
theorem se_law_among : F_law_among.sem = runW Y_law_among D_law_among := rfl
theorem ps_law_among : F_law_among.ps.length = 2 := by rfl
theorem fn_law_among_law_draw : Y_law_among.fn "_law_draw" = some F_law_draw := by rfl
/-- _law_pick -/
def X1_law_pick : List S := [
  .par [7, 8, 9] [.prm .idx [.var 1, .var 5], .prm .idx [.var 2, .var 5], .prm .idx [.var 3, .var 5]],
  .ife (.prm (.cmp .Eq) [.prm .idx [.var 6, .con (.int 1)], .con (.str "counter")]) [
    .expr (.mth .append true (.var 4) [.prm (.bin .Sub true) [.prm (.bin .Add true) [.var 7, .var 9], .var 8]])] [
    .ife (.prm (.cmp .Eq) [.prm .idx [.var 6, .con (.int 1)], .con (.str "mine")]) [
      .expr (.mth .append true (.var 4) [.ife (.prm (.cmp .Eq) [.var 7, .var 8]) (.var 9) (.var 7)])] [
      .expr (.mth .append true (.var 4) [.ife (.prm (.cmp .Eq) [.var 9, .var 8]) (.var 7) (.var 9)])]]]
def B_law_pick : List S := [
  .asg (.nm 4) (.prm (.lst false) []),
  .for .enum [.var 0] (.tup [.nm 5, .nm 6]) X1_law_pick,
  .ret (.prm (.blt .tuple true) [.var 4])]
def D_law_pick : Df := ⟨["_law_fields_here", "_law_ours", "_law_base", "_law_theirs"], ["_law_fields_here", "_law_ours", "_law_base", "_law_theirs", "_law_found", "_law_at", "_law_row_here", "_law_x", "_law_b", "_law_y"], B_law_pick⟩
noncomputable def G_law_pick : GloD := {  }
noncomputable def Y_law_pick : Glo := mkGlo G_law_pick
noncomputable def F_law_pick : FnI := ⟨["_law_fields_here", "_law_ours", "_law_base", "_law_theirs"], 4, runW Y_law_pick D_law_pick⟩
theorem se_law_pick : F_law_pick.sem = runW Y_law_pick D_law_pick := rfl
theorem ps_law_pick : F_law_pick.ps.length = 4 := by rfl
/-- is_integer -/
def B_is_integer : List S := [
  .ret (.and [.isi true [("int", false)] (.var 0), .not (.isi true [("bool", false)] (.var 0))])]
def D_is_integer : Df := ⟨["thing"], ["thing"], B_is_integer⟩
noncomputable def G_is_integer : GloD := {  }
noncomputable def Y_is_integer : Glo := mkGlo G_is_integer
noncomputable def F_is_integer : FnI := ⟨["thing"], 1, runW Y_is_integer D_is_integer⟩
theorem se_is_integer : F_is_integer.sem = runW Y_is_integer D_is_integer := rfl
theorem ps_is_integer : F_is_integer.ps.length = 1 := by rfl
/-- is_name -/
def e1_is_name : E := .prm (.cmp .In) [.var 1, .glo "LETTERS"]
def L2_is_name : E := .lc true [("letter", 1)] .seq [.var 0] (.nm 1) [] e1_is_name
def B_is_name : List S := [
  .ife (.or [.not (.isi true [("str", false)] (.var 0)), .not (.chain .LtE .LtE (.con (.int 1)) (.prm (.blt .len true) [.var 0]) (.glo "MOST_LETTERS"))]) [
    .ret (.con (.bl false))] [],
  .ret (.prm (.blt .all true) [L2_is_name])]
def D_is_name : Df := ⟨["thing"], ["thing", "letter"], B_is_name⟩
noncomputable def G_is_name : GloD := { cons := [("MOST_LETTERS", .int 8), ("LETTERS", .str "abcdefghijklmnopqrstuvwxyz")] }
noncomputable def Y_is_name : Glo := mkGlo G_is_name
noncomputable def F_is_name : FnI := ⟨["thing"], 1, runW Y_is_name D_is_name⟩
theorem se_is_name : F_is_name.sem = runW Y_is_name D_is_name := rfl
theorem ps_is_name : F_is_name.ps.length = 1 := by rfl
theorem co_is_name_MOST_LETTERS : Y_is_name.con "MOST_LETTERS" = some (.int 8) := by rfl
theorem co_is_name_LETTERS : Y_is_name.con "LETTERS" = some (.str "abcdefghijklmnopqrstuvwxyz") := by rfl
/-- is_value -/
def B_is_value : List S := [
  .ife (.prm (.cmp .Eq) [.var 0, .glo "COUNTER"]) [
    .ret (.call "is_integer" true [.var 1] [])] [],
  .ret (.call "is_name" true [.var 1] [])]
def D_is_value : Df := ⟨["kind", "thing"], ["kind", "thing"], B_is_value⟩
noncomputable def G_is_value : GloD := { fns := [("is_integer", F_is_integer), ("is_name", F_is_name)], cons := [("COUNTER", .str "counter")] }
noncomputable def Y_is_value : Glo := mkGlo G_is_value
noncomputable def F_is_value : FnI := ⟨["kind", "thing"], 2, runW Y_is_value D_is_value⟩
theorem se_is_value : F_is_value.sem = runW Y_is_value D_is_value := rfl
theorem ps_is_value : F_is_value.ps.length = 2 := by rfl
theorem fn_is_value_is_integer : Y_is_value.fn "is_integer" = some F_is_integer := by rfl
theorem fn_is_value_is_name : Y_is_value.fn "is_name" = some F_is_name := by rfl
theorem co_is_value_COUNTER : Y_is_value.con "COUNTER" = some (.str "counter") := by rfl
/-- Schema.__len__ -/
def B_Schema___len : List S := [
  .ret (.prm (.blt .len true) [.att (.var 0) "field_list"])]
def D_Schema___len : Df := ⟨["self"], ["self"], B_Schema___len⟩
noncomputable def G_Schema___len : GloD := { flds := [("Schema", "field_list")] }
noncomputable def Y_Schema___len : Glo := mkGlo G_Schema___len
noncomputable def F_Schema___len : FnI := ⟨["self"], 1, runW Y_Schema___len D_Schema___len⟩
theorem se_Schema___len : F_Schema___len.sem = runW Y_Schema___len D_Schema___len := rfl
theorem ps_Schema___len : F_Schema___len.ps.length = 1 := by rfl
theorem fl_Schema___len_Schema_field_list : Y_Schema___len.fld "Schema" "field_list" = true := by rfl
/-- is_version -/
def e1_is_version : E := .call "is_value" true [.prm .idx [.var 2, .con (.int 1)], .var 3] []
def L2_is_version : E := .lc true [("field", 2), ("value", 3)] .zips [.att (.var 0) "field_list", .var 1] (.tup [.nm 2, .nm 3]) [] e1_is_version
def B_is_version : List S := [
  .ife (.or [.not (.isi true [("tuple", false)] (.var 1)), .prm (.cmp .NotEq) [.prm (.blt .len true) [.var 1], .lenU "Schema" (.var 0)]]) [
    .ret (.con (.bl false))] [],
  .ret (.prm (.blt .all true) [L2_is_version])]
def D_is_version : Df := ⟨["schema", "thing"], ["schema", "thing", "field", "value"], B_is_version⟩
noncomputable def G_is_version : GloD := { fns := [("is_value", F_is_value)], mets := [(("Schema", "__len__"), F_Schema___len)], flds := [("Schema", "field_list")] }
noncomputable def Y_is_version : Glo := mkGlo G_is_version
noncomputable def F_is_version : FnI := ⟨["schema", "thing"], 2, runW Y_is_version D_is_version⟩
theorem se_is_version : F_is_version.sem = runW Y_is_version D_is_version := rfl
theorem ps_is_version : F_is_version.ps.length = 2 := by rfl
theorem fn_is_version_is_value : Y_is_version.fn "is_value" = some F_is_value := by rfl
theorem mt_is_version_Schema___len : Y_is_version.mt "Schema" "__len__" = some F_Schema___len := by rfl
theorem fl_is_version_Schema_field_list : Y_is_version.fld "Schema" "field_list" = true := by rfl
/-- check_versions -/
def X1_check_versions : List S := [
  .ife (.not (.call "is_version" true [.var 0, .var 2] [])) [
    .bad] []]
def B_check_versions : List S := [
  .for .seq [.var 1] (.nm 2) X1_check_versions]
def D_check_versions : Df := ⟨["schema", "versions"], ["schema", "versions", "version"], B_check_versions⟩
noncomputable def G_check_versions : GloD := { fns := [("is_version", F_is_version)] }
noncomputable def Y_check_versions : Glo := mkGlo G_check_versions
noncomputable def F_check_versions : FnI := ⟨["schema", "versions"], 2, runW Y_check_versions D_check_versions⟩
theorem se_check_versions : F_check_versions.sem = runW Y_check_versions D_check_versions := rfl
theorem ps_check_versions : F_check_versions.ps.length = 2 := by rfl
theorem fn_check_versions_is_version : Y_check_versions.fn "is_version" = some F_is_version := by rfl
/-- picked_value -/
def B_picked_value : List S := [
  .ife (.prm (.cmp .Eq) [.var 0, .con (.str "mine")]) [
    .ret (.ife (.prm (.cmp .Eq) [.var 1, .var 2]) (.var 3) (.var 1))] [],
  .ife (.prm (.cmp .Eq) [.var 0, .con (.str "theirs")]) [
    .ret (.ife (.prm (.cmp .Eq) [.var 3, .var 2]) (.var 1) (.var 3))] [],
  .ret (.prm (.bin .Sub true) [.prm (.bin .Add true) [.var 1, .var 3], .var 2])]
def D_picked_value : Df := ⟨["kind", "ours", "base", "theirs"], ["kind", "ours", "base", "theirs"], B_picked_value⟩
noncomputable def G_picked_value : GloD := {  }
noncomputable def Y_picked_value : Glo := mkGlo G_picked_value
noncomputable def F_picked_value : FnI := ⟨["kind", "ours", "base", "theirs"], 4, runW Y_picked_value D_picked_value⟩
theorem se_picked_value : F_picked_value.sem = runW Y_picked_value D_picked_value := rfl
theorem ps_picked_value : F_picked_value.ps.length = 4 := by rfl
/-- Schema.fields -/
def B_Schema_fields : List S := [
  .ret (.prm (.blt .list true) [.att (.var 0) "field_list"])]
def D_Schema_fields : Df := ⟨["self"], ["self"], B_Schema_fields⟩
noncomputable def G_Schema_fields : GloD := { flds := [("Schema", "field_list")] }
noncomputable def Y_Schema_fields : Glo := mkGlo G_Schema_fields
noncomputable def F_Schema_fields : FnI := ⟨["self"], 1, runW Y_Schema_fields D_Schema_fields⟩
theorem se_Schema_fields : F_Schema_fields.sem = runW Y_Schema_fields D_Schema_fields := rfl
theorem ps_Schema_fields : F_Schema_fields.ps.length = 1 := by rfl
theorem fl_Schema_fields_Schema_field_list : Y_Schema_fields.fld "Schema" "field_list" = true := by rfl
/-- pick -/
def e1_pick : E := .var 6
def L2_pick : E := .lc true [("name", 5), ("kind", 6)] .seq [.meth "Schema" "fields" true (.var 0) [] []] (.tup [.nm 5, .nm 6]) [] e1_pick
def e3_pick : E := .call "picked_value" true [.var 6, .prm .idx [.var 1, .var 7], .prm .idx [.var 2, .var 7], .prm .idx [.var 3, .var 7]] []
def L4_pick : E := .lc true [("at", 7), ("kind", 6)] .enum [.var 4] (.tup [.nm 7, .nm 6]) [] e3_pick
def B_pick : List S := [
  .expr (.call "check_versions" true [.var 0, .prm (.lst true) [.var 1, .var 2, .var 3]] []),
  .asg (.nm 4) (L2_pick),
  .ret (.prm (.blt .tuple true) [L4_pick])]
def D_pick : Df := ⟨["schema", "ours", "base", "theirs"], ["schema", "ours", "base", "theirs", "kinds", "name", "kind", "at"], B_pick⟩
noncomputable def G_pick : GloD := { fns := [("check_versions", F_check_versions), ("picked_value", F_picked_value)], mets := [(("Schema", "fields"), F_Schema_fields)] }
noncomputable def Y_pick : Glo := mkGlo G_pick
noncomputable def F_pick : FnI := ⟨["schema", "ours", "base", "theirs"], 4, runW Y_pick D_pick⟩
theorem se_pick : F_pick.sem = runW Y_pick D_pick := rfl
theorem ps_pick : F_pick.ps.length = 4 := by rfl
theorem fn_pick_check_versions : Y_pick.fn "check_versions" = some F_check_versions := by rfl
theorem fn_pick_picked_value : Y_pick.fn "picked_value" = some F_picked_value := by rfl
theorem mt_pick_Schema_fields : Y_pick.mt "Schema" "fields" = some F_Schema_fields := by rfl
/-- double_pick -/
def B_double_pick : List S := [
  .ret (.call "pick" true [.var 0, .var 1, .call "pick" true [.var 0, .var 1, .var 2, .var 3] [], .var 3] [])]
def D_double_pick : Df := ⟨["schema", "one", "two", "three"], ["schema", "one", "two", "three"], B_double_pick⟩
noncomputable def G_double_pick : GloD := { fns := [("pick", F_pick)] }
noncomputable def Y_double_pick : Glo := mkGlo G_double_pick
noncomputable def F_double_pick : FnI := ⟨["schema", "one", "two", "three"], 4, runW Y_double_pick D_double_pick⟩
theorem se_double_pick : F_double_pick.sem = runW Y_double_pick D_double_pick := rfl
theorem ps_double_pick : F_double_pick.ps.length = 4 := by rfl
theorem fn_double_pick_pick : Y_double_pick.fn "pick" = some F_pick := by rfl
/-- _law_majority -/
def B_law_majority : List S := [
  .ife (.or [.prm (.cmp .Eq) [.var 0, .var 1], .prm (.cmp .Eq) [.var 0, .var 2]]) [
    .ret (.var 0)] [],
  .ret (.ife (.prm (.cmp .Eq) [.var 1, .var 2]) (.var 1) (.con .non))]
def D_law_majority : Df := ⟨["_law_x", "_law_b", "_law_y"], ["_law_x", "_law_b", "_law_y"], B_law_majority⟩
noncomputable def G_law_majority : GloD := {  }
noncomputable def Y_law_majority : Glo := mkGlo G_law_majority
noncomputable def F_law_majority : FnI := ⟨["_law_x", "_law_b", "_law_y"], 3, runW Y_law_majority D_law_majority⟩
theorem se_law_majority : F_law_majority.sem = runW Y_law_majority D_law_majority := rfl
theorem ps_law_majority : F_law_majority.ps.length = 3 := by rfl
/-- _law_double_right -/
def X1_law_double_right : List S := [
  .asg (.nm 11) (.ife (.prm (.cmp .Eq) [.prm .idx [.var 10, .con (.int 1)], .con (.str "counter")]) (.prm .idx [.var 3, .var 9]) (.call "_law_majority" true [.prm .idx [.var 2, .var 9], .prm .idx [.var 3, .var 9], .prm .idx [.var 4, .var 9]] [])),
  .ife (.and [.prm (.cmp .IsNot) [.var 11, .con .non], .prm (.cmp .NotEq) [.prm .idx [.var 5, .var 9], .var 11]]) [
    .ret (.con (.bl false))] []]
def e2_law_double_right : E := .ife (.prm (.cmp .Eq) [.prm .idx [.var 10, .con (.int 1)], .con (.str "counter")]) (.prm .idx [.var 3, .var 9]) (.prm .idx [.var 2, .var 9])
def L3_law_double_right : E := .lc true [("_law_at", 9), ("_law_row_here", 10)] .enum [.var 1] (.tup [.nm 9, .nm 10]) [] e2_law_double_right
def B_law_double_right : List S := [
  .par [7, 8] [.call "_law_pick" true [.var 1, .var 2, .call "_law_pick" true [.var 1, .var 2, .var 3, .var 4] [], .var 4] [], .prm (.blt .repr true) [.prm (.lst true) [.var 2, .var 3, .var 4]]],
  .asg (.nm 5) (.call "double_pick" true [.var 0, .var 2, .var 3, .var 4] []),
  .ife (.or [.prm (.cmp .NotEq) [.prm (.blt .repr true) [.var 5], .prm (.blt .repr true) [.var 7]], .prm (.cmp .NotEq) [.var 5, .call "pick" true [.var 0, .var 2, .call "pick" true [.var 0, .var 2, .var 3, .var 4] [], .var 4] []], .prm (.cmp .NotEq) [.prm (.blt .repr true) [.prm (.lst true) [.var 2, .var 3, .var 4]], .var 8]]) [
    .ret (.con (.bl false))] [],
  .for .enum [.var 1] (.tup [.nm 9, .nm 10]) X1_law_double_right,
  .asg (.nm 6) (.prm (.blt .tuple true) [L3_law_double_right]),
  .ret (.and [.prm (.cmp .Eq) [.prm (.blt .repr true) [.call "double_pick" true [.var 0, .var 2, .var 3, .var 2] []], .prm (.blt .repr true) [.var 6]], .prm (.cmp .Eq) [.prm (.blt .repr true) [.call "double_pick" true [.var 0, .var 2, .var 3, .var 4] []], .prm (.blt .repr true) [.var 7]]])]
def D_law_double_right : Df := ⟨["_law_made", "_law_fields_here", "_law_x", "_law_b", "_law_y"], ["_law_made", "_law_fields_here", "_law_x", "_law_b", "_law_y", "_law_told", "_law_apart", "_law_due", "_law_kept", "_law_at", "_law_row_here", "_law_want"], B_law_double_right⟩
noncomputable def G_law_double_right : GloD := { fns := [("_law_pick", F_law_pick), ("double_pick", F_double_pick), ("pick", F_pick), ("_law_majority", F_law_majority)] }
noncomputable def Y_law_double_right : Glo := mkGlo G_law_double_right
noncomputable def F_law_double_right : FnI := ⟨["_law_made", "_law_fields_here", "_law_x", "_law_b", "_law_y"], 5, runW Y_law_double_right D_law_double_right⟩
theorem se_law_double_right : F_law_double_right.sem = runW Y_law_double_right D_law_double_right := rfl
theorem ps_law_double_right : F_law_double_right.ps.length = 5 := by rfl
theorem fn_law_double_right_law_pick : Y_law_double_right.fn "_law_pick" = some F_law_pick := by rfl
theorem fn_law_double_right_double_pick : Y_law_double_right.fn "double_pick" = some F_double_pick := by rfl
theorem fn_law_double_right_pick : Y_law_double_right.fn "pick" = some F_pick := by rfl
theorem fn_law_double_right_law_majority : Y_law_double_right.fn "_law_majority" = some F_law_majority := by rfl
/-- is_field -/
def B_is_field : List S := [
  .ife (.or [.not (.isi true [("tuple", false)] (.var 0)), .prm (.cmp .NotEq) [.prm (.blt .len true) [.var 0], .con (.int 2)], .not (.call "is_name" true [.prm .idx [.var 0, .con (.int 0)]] [])]) [
    .ret (.con (.bl false))] [],
  .ret (.and [.isi true [("str", false)] (.prm .idx [.var 0, .con (.int 1)]), .or [.prm (.cmp .In) [.prm .idx [.var 0, .con (.int 1)], .glo "POLICIES"], .prm (.cmp .Eq) [.prm .idx [.var 0, .con (.int 1)], .glo "COUNTER"]]])]
def D_is_field : Df := ⟨["thing"], ["thing"], B_is_field⟩
noncomputable def G_is_field : GloD := { fns := [("is_name", F_is_name)], cons := [("POLICIES", .tup [.str "mine", .str "theirs"]), ("COUNTER", .str "counter")] }
noncomputable def Y_is_field : Glo := mkGlo G_is_field
noncomputable def F_is_field : FnI := ⟨["thing"], 1, runW Y_is_field D_is_field⟩
theorem se_is_field : F_is_field.sem = runW Y_is_field D_is_field := rfl
theorem ps_is_field : F_is_field.ps.length = 1 := by rfl
theorem fn_is_field_is_name : Y_is_field.fn "is_name" = some F_is_name := by rfl
theorem co_is_field_POLICIES : Y_is_field.con "POLICIES" = some (.tup [.str "mine", .str "theirs"]) := by rfl
theorem co_is_field_COUNTER : Y_is_field.con "COUNTER" = some (.str "counter") := by rfl
/-- check_fields -/
def X1_check_fields : List S := [
  .ife (.not (.call "is_field" true [.var 5] [])) [
    .bad] [],
  .ife (.prm (.cmp .In) [.prm .idx [.var 5, .con (.int 0)], .var 1]) [
    .bad] [],
  .setSub (.var 1) (.prm .idx [.var 5, .con (.int 0)]) (.var 4),
  .ife (.prm (.cmp .Eq) [.prm .idx [.var 5, .con (.int 1)], .glo "COUNTER"]) [
    .aug 3 .Add (.con (.int 1))] [
    .aug 2 .Add (.con (.int 1))],
  .ife (.or [.prm (.cmp .Gt) [.var 2, .att (.glo "Schema") "MOST_LABELS"], .prm (.cmp .Gt) [.var 3, .att (.glo "Schema") "MOST_COUNTERS"]]) [
    .bad] []]
def B_check_fields : List S := [
  .ife (.or [.not (.isi false [("list", false), ("tuple", false)] (.var 0)), .prm (.cmp .Eq) [.prm (.blt .len true) [.var 0], .con (.int 0)]]) [
    .bad] [],
  .par [1, 2, 3] [.prm (.dsp false []) [], .con (.int 0), .con (.int 0)],
  .for .enum [.var 0] (.tup [.nm 4, .nm 5]) X1_check_fields]
def D_check_fields : Df := ⟨["fields"], ["fields", "known", "labels", "counters", "index", "field"], B_check_fields⟩
noncomputable def G_check_fields : GloD := { fns := [("is_field", F_is_field)], cons := [("COUNTER", .str "counter"), ("Schema", .cls "Schema")], atts := [(("Schema", "MOST_LABELS"), .int 12), (("Schema", "MOST_COUNTERS"), .int 4)] }
noncomputable def Y_check_fields : Glo := mkGlo G_check_fields
noncomputable def F_check_fields : FnI := ⟨["fields"], 1, runW Y_check_fields D_check_fields⟩
theorem se_check_fields : F_check_fields.sem = runW Y_check_fields D_check_fields := rfl
theorem ps_check_fields : F_check_fields.ps.length = 1 := by rfl
theorem fn_check_fields_is_field : Y_check_fields.fn "is_field" = some F_is_field := by rfl
theorem co_check_fields_COUNTER : Y_check_fields.con "COUNTER" = some (.str "counter") := by rfl
theorem co_check_fields_Schema : Y_check_fields.con "Schema" = some (.cls "Schema") := by rfl
theorem at_check_fields_Schema_MOST_LABELS : Y_check_fields.att "Schema" "MOST_LABELS" = some (.int 12) := by rfl
theorem at_check_fields_Schema_MOST_COUNTERS : Y_check_fields.att "Schema" "MOST_COUNTERS" = some (.int 4) := by rfl
/-- Schema.__init__ -/
def k1_Schema___init : E := .prm .idx [.var 3, .con (.int 0)]
def v2_Schema___init : E := .var 2
def M3_Schema___init : E := .dc true [("place", 2), ("field", 3)] .enum [.var 1] (.tup [.nm 2, .nm 3]) [] k1_Schema___init v2_Schema___init
def B_Schema___init : List S := [
  .expr (.call "check_fields" true [.var 1] []),
  .setAtt (.var 0) "field_list" (.prm (.blt .list true) [.var 1]),
  .setAtt (.var 0) "places" (M3_Schema___init)]
def D_Schema___init : Df := ⟨["self", "fields"], ["self", "fields", "place", "field"], B_Schema___init⟩
noncomputable def G_Schema___init : GloD := { fns := [("check_fields", F_check_fields)], flds := [("Schema", "field_list"), ("Schema", "places")] }
noncomputable def Y_Schema___init : Glo := mkGlo G_Schema___init
noncomputable def F_Schema___init : FnI := ⟨["self", "fields"], 2, runW Y_Schema___init D_Schema___init⟩
theorem se_Schema___init : F_Schema___init.sem = runW Y_Schema___init D_Schema___init := rfl
theorem ps_Schema___init : F_Schema___init.ps.length = 2 := by rfl
theorem fn_Schema___init_check_fields : Y_Schema___init.fn "check_fields" = some F_check_fields := by rfl
theorem fl_Schema___init_Schema_field_list : Y_Schema___init.fld "Schema" "field_list" = true := by rfl
theorem fl_Schema___init_Schema_places : Y_Schema___init.fld "Schema" "places" = true := by rfl
/-- _law_right -/
def X1_law_right : List S := [
  .par [7, 8, 9] [.call "_law_among" true [.var 0, .var 6] [], .call "_law_among" true [.var 0, .var 6] [], .call "_law_among" true [.var 0, .var 6] []],
  .ife (.not (.call "_law_double_right" true [.var 5, .var 3, .var 7, .var 8, .var 9] [])) [
    .ret (.con (.bl false))] [],
  .expr (.mth .append true (.var 6) [.call "_law_pick" true [.var 3, .var 7, .var 8, .var 9] []])]
def B_law_right : List S := [
  .asg (.nm 1) (.call "_law_draw" true [.var 0, .con (.int 2)] []),
  .asg (.tup [.nm 3, .nm 4]) (.call "_law_case" true [.var 0, .prm .idx [.prm (.lst true) [.con (.int 6), .con (.int 12)], .var 1], .prm .idx [.prm (.lst true) [.con (.int 2), .con (.int 4)], .var 1], .con (.int 6)] []),
  .par [5, 6] [.make "Schema" true [.var 3] [], .prm (.blt .list false) [.var 4]],
  .for .range [.call "_law_draw" true [.var 0, .con (.int 11)] []] (.nm 2) X1_law_right,
  .ret (.con (.bl true))]
def D_law_right : Df := ⟨["_law_pot_here"], ["_law_pot_here", "_law_size", "_law_turn", "_law_fields_here", "_law_rows_here", "_law_made", "_law_known", "_law_x", "_law_b", "_law_y"], B_law_right⟩
noncomputable def G_law_right : GloD := { fns := [("_law_draw", F_law_draw), ("_law_case", F_law_case), ("_law_among", F_law_among), ("_law_double_right", F_law_double_right), ("_law_pick", F_law_pick)], mets := [(("Schema", "__init__"), F_Schema___init)] }
noncomputable def Y_law_right : Glo := mkGlo G_law_right
noncomputable def F_law_right : FnI := ⟨["_law_pot_here"], 1, runW Y_law_right D_law_right⟩
theorem se_law_right : F_law_right.sem = runW Y_law_right D_law_right := rfl
theorem ps_law_right : F_law_right.ps.length = 1 := by rfl
theorem fn_law_right_law_draw : Y_law_right.fn "_law_draw" = some F_law_draw := by rfl
theorem fn_law_right_law_case : Y_law_right.fn "_law_case" = some F_law_case := by rfl
theorem fn_law_right_law_among : Y_law_right.fn "_law_among" = some F_law_among := by rfl
theorem fn_law_right_law_double_right : Y_law_right.fn "_law_double_right" = some F_law_double_right := by rfl
theorem fn_law_right_law_pick : Y_law_right.fn "_law_pick" = some F_law_pick := by rfl
theorem mt_law_right_Schema___init : Y_law_right.mt "Schema" "__init__" = some F_Schema___init := by rfl
/-- _law_pot -/
def B_law_pot : List S := [
  .asg (.nm 2) (.ife (.prm (.cmp .Lt) [.var 1, .prm (.blt .len true) [.var 0]]) (.prm .idx [.var 0, .var 1]) (.con (.int 0))),
  .ret (.prm (.lst false) [.prm (.blt .max true) [.con (.int 0), .prm (.bin .Sub true) [.prm (.blt .abs true) [.var 2], .prm (.bin .Pow true) [.con (.int 10), .con (.int 18)]]], .prm (.bin .Mod true) [.prm (.bin .Add true) [.prm (.bin .Add true) [.prm (.bin .Mult true) [.prm (.bin .Mod true) [.prm (.blt .abs true) [.var 2], .con (.int 2147483587)], .con (.int 48271)], .prm (.bin .Mult true) [.con (.int 60013), .var 1]], .con (.int 29)], .con (.int 2147483647)]])]
def D_law_pot : Df := ⟨["_law_script", "_law_k"], ["_law_script", "_law_k", "_law_digits"], B_law_pot⟩
noncomputable def G_law_pot : GloD := {  }
noncomputable def Y_law_pot : Glo := mkGlo G_law_pot
noncomputable def F_law_pot : FnI := ⟨["_law_script", "_law_k"], 2, runW Y_law_pot D_law_pot⟩
theorem se_law_pot : F_law_pot.sem = runW Y_law_pot D_law_pot := rfl
theorem ps_law_pot : F_law_pot.ps.length = 2 := by rfl
/-- law -/
def e1_law : E := .call "_law_right" true [.call "_law_pot" false [.var 0, .var 1] []] []
def L2_law : E := .lc true [("_law_k", 1)] .range [.prm (.blt .max true) [.con (.int 1), .prm (.blt .min true) [.prm (.blt .len true) [.var 0], .con (.int 4)]]] (.nm 1) [] e1_law
def B_law : List S := [
  .ret (.prm (.blt .all true) [L2_law])]
def D_law : Df := ⟨["_law_script"], ["_law_script", "_law_k"], B_law⟩
noncomputable def G_law : GloD := { fns := [("_law_right", F_law_right), ("_law_pot", F_law_pot)] }
noncomputable def Y_law : Glo := mkGlo G_law
noncomputable def F_law : FnI := ⟨["_law_script"], 1, runW Y_law D_law⟩
theorem se_law : F_law.sem = runW Y_law D_law := rfl
theorem ps_law : F_law.ps.length = 1 := by rfl
theorem fn_law_law_right : Y_law.fn "_law_right" = some F_law_right := by rfl
theorem fn_law_law_pot : Y_law.fn "_law_pot" = some F_law_pot := by rfl
end PyL

open PySem PySem.Spec PyProof.Rows L2 PyI
namespace PyL
theorem draw_spec (x y m : Int) (hx : 0 ≤ x) (hy : 0 ≤ y) (hy2 : y < 2147483648) (hm : 0 < m) (hm2 : m ≤ 1000000000) : ∃ d x' y', 0 ≤ d ∧ d < m ∧ 0 ≤ x' ∧ 0 ≤ y' ∧ y' < 2147483648 ∧
    F_law_draw.sem [.ref 0, .int m] [⟨true, .lst [.int x, .int y]⟩] = .ok (.int d) [⟨true, .lst [.int x', .int y']⟩] := by
  by_cases h : 0 < x
  · refine ⟨x % m, x / m, y, Int.emod_nonneg _ (by omega), Int.emod_lt_of_pos _ hm, Int.ediv_nonneg hx (by omega), hy, hy2, ?_⟩
    have hc : 0 < m ∧ m < 1073741824 := ⟨hm, by omega⟩
    simp [F_law_draw, runW, D_law_draw, B_law_draw, evSs, evS, ev, evL, evEs, Sm.of, Res.bind, Res.thenS, dflT, prm, two, cmpW, idxW, vD, vS, conL, conD, need, truW, atI, ixN, h, bltW, bl2, needS, setSubW, intOf, hc]
  · have hx0 : x = 0 := by omega
    subst hx0
    have b1 := Int.emod_nonneg (y * 39373 + 12227) (b := 2147483629) (by decide)
    have b2 := Int.emod_lt_of_pos (y * 39373 + 12227) (b := 2147483629) (by decide)
    generalize hz : (y * 39373 + 12227) % 2147483629 = z at b1 b2
    refine ⟨z * z % 2147483563 / 13 % m, 0, z, Int.emod_nonneg _ (by omega), Int.emod_lt_of_pos _ hm, Int.le_refl _, b1, by omega, ?_⟩
    have c1 : CMul y 39373 := .inr (by omega)
    have c2 : CMul z z := .inr (by omega)
    simp [F_law_draw, runW, D_law_draw, B_law_draw, evSs, evS, ev, evL, evEs, Sm.of, Res.bind, Res.thenS, dflT, prm, two, cmpW, idxW, vD, vS, conL, conD, need, truW, atI, ixN, bltW, bl2, needS, setSubW, intOf, binW, c1, c2, hz, hm]
theorem wp_draw {n : Nat} {m : Int} {c : Cell} {M : Store} {Q : W → Store → Prop} (hn : M[n]? = some c) (h : Pot c) (hm : 0 < m) (hm2 : m ≤ 1000000000) (k : ∀ d c', 0 ≤ d → d < m → Pot c' → Q (.int d) (M.set n c')) : WP (callW F_law_draw.sem true [.ref n, .int m] M) Q := by
  obtain ⟨x, y, h1, h2, h3, rfl⟩ := h
  obtain ⟨d, x', y', k1, k2, k3, k4, k5, k6⟩ := draw_spec x y m h1 h2 h3 hm hm2
  exact WP.of_eq (call_ref (vs := [.int m]) rfl hn rfl rfl rfl k6) (k d _ k1 k2 ⟨x', y', k3, k4, k5, rfl⟩)
theorem draw_in {α : Type} {L : List α} {d : Int} (h0 : 0 ≤ d) (h1 : d < L.length) : ∃ x ∈ L, atI L d = some x := let ⟨x, a, _, b⟩ := atI_nat h0 h1; ⟨x, a, b⟩
/-! ### a word that is not taken -/
theorem strs_ok : ∀ {ks : List Nat}, strsOf (ks.map fun k => W.str (letter k)) = some (ks.map letter)
  | [] => rfl
  | k :: ks => by simp [strsOf, strs_ok (ks := ks)]
theorem sum_letters : ∀ ks : List Nat, ((ks.map letter).map (·.length)).sum = ks.length
  | [] => rfl
  | k :: ks => by
    have := sum_letters ks
    simp only [List.map_cons, List.sum_cons, List.length_cons, this]
    show 1 + ks.length = _
    omega
/-- fewer than 26 texts leave a letter free -/
theorem free_letter {ss : List Str} (h : ss.length < 26) : ∃ k < 26, letter k ∉ ss := by
  have key : ∀ (n : Nat) (ss : List Str), ss.length < n → ∃ k < n, letter k ∉ ss := by
    intro n
    induction n with
    | zero => intro ss h; omega
    | succ n ih =>
      intro ss h
      by_cases hm : letter n ∈ ss
      · have hl : (ss.erase (letter n)).length < n := by
          rw [List.length_erase_of_mem hm]
          have := List.length_pos_of_mem hm
          omega
        obtain ⟨k, hk, hn⟩ := ih _ hl
        refine ⟨k, by omega, fun hs => hn ?_⟩
        exact (List.mem_erase_of_ne (fun e => by have := letter_inj e; omega)).mpr hs
      · exact ⟨n, by omega, hm⟩
  exact key 26 ss h
theorem word_spec {c : Cell} {ss : List Str} (pc : Pot c) (hs : ∀ s ∈ ss, sOk s = true) (hl : ss.length < 26) (b : Bool) : WP (F_law_word.sem [.ref 0, .ref 1] [c, ⟨b, .lst (ss.map .str)⟩]) fun w M' => ∃ s c', w = .str s ∧ Wd s ∧ s ∉ ss ∧ Pot c' ∧ M' = [c', ⟨b, .lst (ss.map .str)⟩] := by
  rw [se_law_word]; refine WP_run (show _ = _ from rfl) ?_
  generalize hA : Str.ofString "abcdefghijklmnopqrstuvwxyz" = Al
  simp [B_law_word, D_law_word, e1_law_word, c3_law_word, e4_law_word, ps_law_word, fn_law_word_law_draw, ps_law_draw, WP_ok, WP_err, WP_bind, WP_ite, need_some, needS_some, res_ok, thenS_ok, WS_thenS, WS_nx, WS_rt, WS_bk, WS_ct, WS_nil, WS_cons, WS_expr, WS_asg, WS_par, WS_setSub, WS_setAtt, WS_ife, WS_ret, WS_retN, WS_ite, sm_v, sm_t, ev, evL, evEs, evAnd, evOr, evAndT, evOrT, evChain, evSlc, dflT, prm, two, one, bltW, bl1, bl2, negW, intOf, vD, vS, vL, conL, conD, vO, conO, truW, tgW_nm, tgW_tup, tgWs_nil, tgWs_cons, lenW, fullW, bindW_nil, kind_append, kind_extend, kind_pop, kind_popAt, kind_reverse, kind_clear, kind_insert, kind_index, kind_join, kind_split, kind_upper, kind_startswith, kind_count, isStrW, newL, newD, wipeW, sizeLine_eq, hA]
  refine WP_lc ?_
  simp [B_law_word, D_law_word, e1_law_word, c3_law_word, e4_law_word, ps_law_word, fn_law_word_law_draw, ps_law_draw, WP_ok, WP_err, WP_bind, WP_ite, need_some, needS_some, res_ok, thenS_ok, WS_thenS, WS_nx, WS_rt, WS_bk, WS_ct, WS_nil, WS_cons, WS_expr, WS_asg, WS_par, WS_setSub, WS_setAtt, WS_ife, WS_ret, WS_retN, WS_ite, sm_v, sm_t, ev, evL, evEs, evAnd, evOr, evAndT, evOrT, evChain, evSlc, dflT, prm, two, one, bltW, bl1, bl2, negW, intOf, vD, vS, vL, conL, conD, vO, conO, truW, tgW_nm, tgW_tup, tgWs_nil, tgWs_cons, lenW, fullW, bindW_nil, kind_append, kind_extend, kind_pop, kind_popAt, kind_reverse, kind_clear, kind_insert, kind_index, kind_join, kind_split, kind_upper, kind_startswith, kind_count, isStrW, newL, newD, wipeW, sizeLine_eq]
  refine wp_draw rfl pc (by decide) (by decide) fun d1 c1 h1 h2 p1 => ?_
  obtain ⟨j, hj, ej⟩ := draw_in (L := ([.int 1, .int 1, .int 2, .int 8] : List W)) h1 h2
  have hj' : ∃ n : Nat, j = .int n ∧ 1 ≤ n ∧ n ≤ 8 := by
    simp at hj
    rcases hj with rfl | rfl | rfl <;> exact ⟨_, rfl, by decide, by decide⟩
  obtain ⟨n, rfl, n1, n8⟩ := hj'
  simp [idxW, vD, vS, ej, need_some, WP_ok]
  refine ⟨_, rng_items (by omega) (by omega), by rw [sizeLine_eq]; simp; omega, fun i ys M2 => ∃ ks c', ys = ks.map (fun k => W.str (letter k)) ∧ ks.length = i ∧ (∀ k ∈ ks, k < 26) ∧ Pot c' ∧ M2 = [c', ⟨b, .lst (ss.map .str)⟩], ⟨[], c1, rfl, rfl, by simp, p1, rfl⟩, ?_, ?_⟩
  · rintro i x ys M2 hx ⟨ks, c2, rfl, hk, hk26, p2, rfl⟩
    refine ⟨_, rfl, ?_⟩
    simp [B_law_word, D_law_word, e1_law_word, c3_law_word, e4_law_word, ps_law_word, fn_law_word_law_draw, ps_law_draw, WP_ok, WP_err, WP_bind, WP_ite, need_some, needS_some, res_ok, thenS_ok, WS_thenS, WS_nx, WS_rt, WS_bk, WS_ct, WS_nil, WS_cons, WS_expr, WS_asg, WS_par, WS_setSub, WS_setAtt, WS_ife, WS_ret, WS_retN, WS_ite, sm_v, sm_t, ev, evL, evEs, evAnd, evOr, evAndT, evOrT, evChain, evSlc, dflT, prm, two, one, bltW, bl1, bl2, negW, intOf, vD, vS, vL, conL, conD, vO, conO, truW, tgW_nm, tgW_tup, tgWs_nil, tgWs_cons, lenW, fullW, bindW_nil, kind_append, kind_extend, kind_pop, kind_popAt, kind_reverse, kind_clear, kind_insert, kind_index, kind_join, kind_split, kind_upper, kind_startswith, kind_count, isStrW, newL, newD, wipeW, sizeLine_eq]
    refine wp_draw rfl p2 (by decide) (by decide) fun d3 c3 h3 h4 p3 => ?_
    have hat : atI Al.cps.toList d3 = some (97 + d3.toNat) := by
      have h5 := alpha_at ⟨d3.toNat, by omega⟩
      have h6 := alpha_len
      rw [hA] at h5 h6
      unfold atI ixN
      rw [if_pos h3, if_pos (by rw [Array.length_toList]; show d3 < (Al.length : Int); rw [h6]; exact h4)]
      exact h5
    have hl6 : Al.length = 26 := by rw [← hA]; exact alpha_len
    simp [idxW, vD, vS, hl6, sizeLine_eq, hat, need_some, WP_ok, List.set]
    refine ⟨rng_it (by omega) (by omega), ks ++ [d3.toNat], by simp [letter], by simp [hk], fun k hk' => ?_, p3⟩
    rcases List.mem_append.mp hk' with h | h
    · exact hk26 k h
    · have : k = d3.toNat := by simpa using h
      omega
  · rintro ys M4 hyl ⟨ks, c2, rfl, hk, hk26, p2, rfl⟩
    have hkn : ks.length = n := by rw [hk]; simp
    generalize hW : Txt.join (Str.ofString "") (ks.map letter) = Wo
    have hWl : Wo.length = n := by
      rw [← hW]
      show (Builtin.Str.glued _ (ks.map letter)).length = n
      rw [size_glued, sum_letters, hkn]
      have : (Str.ofString "").length = 0 := by rfl
      rw [this]; omega
    have hWd : Wd Wo := by
      refine ⟨by omega, by omega, ?_⟩
      rw [← hW]
      refine glued_let fun s hs => ?_
      obtain ⟨k, hk', rfl⟩ := List.mem_map.mp hs
      exact letter_let (hk26 k hk')
    have hsum : (List.map ((fun x : Str => x.length) ∘ letter) ks).sum = ks.length := by rw [← List.map_map]; exact sum_letters ks
    have hn16 : n ≤ 16777216 := by omega
    have hz : (Str.ofString "").length = 0 := by rfl
    have hin : inW [c2, ⟨b, .lst (ss.map .str)⟩] (.str Wo) (.ref 1) = some (decide (Wo ∈ ss)) := inW_strs (ss := ss) (by simp) rfl rfl hs hWd.ok
    simp [WP_ok, WP_err, WP_bind, WP_ite, need_some, needS_some, res_ok, thenS_ok, WS_thenS, WS_nx, WS_rt, WS_bk, WS_ct, WS_nil, WS_cons, WS_expr, WS_asg, WS_par, WS_setSub, WS_setAtt, WS_ife, WS_ret, WS_retN, WS_ite, sm_v, sm_t, ev, evL, evEs, evAnd, evOr, evAndT, evOrT, evChain, evSlc, dflT, prm, two, one, bltW, bl1, bl2, negW, intOf, vD, vS, vL, conL, conD, vO, conO, truW, tgW_nm, tgW_tup, tgWs_nil, tgWs_cons, lenW, fullW, bindW_nil, kind_append, kind_extend, kind_pop, kind_popAt, kind_reverse, kind_clear, kind_insert, kind_index, kind_join, kind_split, kind_upper, kind_startswith, kind_count, isStrW, newL, newD, wipeW, sizeLine_eq, mthW, mth1, mth0, putL, strsW, strs_ok, hsum, hkn, hz, hW, cmpW, hin, hn16]
    by_cases hm : Wo ∈ ss
    · simp only [hm, if_true, not_true, not_false_iff]
      refine WP_lcFilter (freeB ss) id ?_
      simp [B_law_word, D_law_word, e1_law_word, c3_law_word, e4_law_word, ps_law_word, fn_law_word_law_draw, ps_law_draw, WP_ok, WP_err, WP_bind, WP_ite, need_some, needS_some, res_ok, thenS_ok, WS_thenS, WS_nx, WS_rt, WS_bk, WS_ct, WS_nil, WS_cons, WS_expr, WS_asg, WS_par, WS_setSub, WS_setAtt, WS_ife, WS_ret, WS_retN, WS_ite, sm_v, sm_t, ev, evL, evEs, evAnd, evOr, evAndT, evOrT, evChain, evSlc, dflT, prm, two, one, bltW, bl1, bl2, negW, intOf, vD, vS, vL, conL, conD, vO, conO, truW, tgW_nm, tgW_tup, tgWs_nil, tgWs_cons, lenW, fullW, bindW_nil, kind_append, kind_extend, kind_pop, kind_popAt, kind_reverse, kind_clear, kind_insert, kind_index, kind_join, kind_split, kind_upper, kind_startswith, kind_count, isStrW, newL, newD, wipeW, sizeLine_eq]
      have hl6 : Al.length = 26 := by rw [← hA]; exact alpha_len
      have hch : chars Al = (List.range 26).map fun k => W.str (letter k) := by rw [← hA]; exact alpha_chars
      refine ⟨_, rfl, by rw [hch]; simp [sizeLine_eq], fun x hx => ?_, ?_⟩
      · rw [hch] at hx
        simp at hx
        obtain ⟨k, hk2, rfl⟩ := hx
        have hin2 : inW [c2, ⟨b, .lst (ss.map .str)⟩] (.str (letter k)) (.ref 1) = some (decide (letter k ∈ ss)) := inW_strs (ss := ss) (by simp) rfl rfl hs (letter_wd hk2).ok
        refine ⟨_, rfl, ?_⟩
        simp [B_law_word, D_law_word, e1_law_word, c3_law_word, e4_law_word, ps_law_word, fn_law_word_law_draw, ps_law_draw, WP_ok, WP_err, WP_bind, WP_ite, need_some, needS_some, res_ok, thenS_ok, WS_thenS, WS_nx, WS_rt, WS_bk, WS_ct, WS_nil, WS_cons, WS_expr, WS_asg, WS_par, WS_setSub, WS_setAtt, WS_ife, WS_ret, WS_retN, WS_ite, sm_v, sm_t, ev, evL, evEs, evAnd, evOr, evAndT, evOrT, evChain, evSlc, dflT, prm, two, one, bltW, bl1, bl2, negW, intOf, vD, vS, vL, conL, conD, vO, conO, truW, tgW_nm, tgW_tup, tgWs_nil, tgWs_cons, lenW, fullW, bindW_nil, kind_append, kind_extend, kind_pop, kind_popAt, kind_reverse, kind_clear, kind_insert, kind_index, kind_join, kind_split, kind_upper, kind_startswith, kind_count, isStrW, newL, newD, wipeW, sizeLine_eq, cmpW, hin2, freeB]
      · obtain ⟨k, hk2, hk3⟩ := free_letter hl
        rw [hch, List.map_id]
        have hmem : W.str (letter k) ∈ ((List.range 26).map fun k => W.str (letter k)).filter (freeB ss) := by
          rw [List.mem_filter]
          exact ⟨List.mem_map.mpr ⟨k, List.mem_range.mpr hk2, rfl⟩, by simp [freeB, hk3]⟩
        generalize hF : ((List.range 26).map fun k => W.str (letter k)).filter (freeB ss) = Fl at hmem
        have hall : ∀ w ∈ Fl, ∃ k < 26, w = .str (letter k) ∧ letter k ∉ ss := by
          intro w hw
          rw [← hF, List.mem_filter] at hw
          obtain ⟨h1, h2⟩ := hw
          obtain ⟨j, hj, rfl⟩ := List.mem_map.mp h1
          exact ⟨j, List.mem_range.mp hj, rfl, by simpa [freeB] using h2⟩
        cases Fl with
        | nil => cases hmem
        | cons w0 wr =>
          obtain ⟨j, hj, rfl, hj2⟩ := hall w0 (by simp)
          simp [WP_ok, WP_err, WP_bind, WP_ite, need_some, needS_some, res_ok, thenS_ok, WS_thenS, WS_nx, WS_rt, WS_bk, WS_ct, WS_nil, WS_cons, WS_expr, WS_asg, WS_par, WS_setSub, WS_setAtt, WS_ife, WS_ret, WS_retN, WS_ite, sm_v, sm_t, ev, evL, evEs, evAnd, evOr, evAndT, evOrT, evChain, evSlc, dflT, prm, two, one, bltW, bl1, bl2, negW, intOf, vD, vS, vL, conL, conD, vO, conO, truW, tgW_nm, tgW_tup, tgWs_nil, tgWs_cons, lenW, fullW, bindW_nil, kind_append, kind_extend, kind_pop, kind_popAt, kind_reverse, kind_clear, kind_insert, kind_index, kind_join, kind_split, kind_upper, kind_startswith, kind_count, isStrW, newL, newD, wipeW, sizeLine_eq, idxW, atI_0]
          exact ⟨letter_wd hj, hj2, p2⟩
    · simp only [hm, if_false, not_false_iff, not_true]
      simp [hWd, hm, p2]
end PyL

open PySem PySem.Spec PyProof.Rows L2 PyI
namespace PyL
theorem words_spec {c : Cell} {m : Int} (pc : Pot c) (h0 : 0 ≤ m) (h25 : m ≤ 25) : WP (F_law_words.sem [.ref 0, .int m] [c]) fun w M' => ∃ (ss : List Str) (c' : Cell), w = .ref 1 ∧ M' = [c', ⟨true, .lst (ss.map .str)⟩] ∧ ss.length = m.toNat ∧ (∀ s ∈ ss, Wd s) ∧ ss.Nodup ∧ Pot c' := by
  rw [se_law_words]; refine WP_run (show _ = _ from rfl) ?_
  simp [B_law_words, D_law_words, X1_law_words, ps_law_words, fn_law_words_law_word, ps_law_word, WP_ok, WP_err, WP_bind, WP_ite, need_some, needS_some, res_ok, thenS_ok, WS_thenS, WS_nx, WS_rt, WS_bk, WS_ct, WS_nil, WS_cons, WS_expr, WS_asg, WS_par, WS_setSub, WS_setAtt, WS_ife, WS_ret, WS_retN, WS_ite, sm_v, sm_t, ev, evL, evEs, evAnd, evOr, evAndT, evOrT, evChain, evSlc, dflT, prm, two, one, bltW, bl1, bl2, negW, intOf, vD, vS, vL, conL, conD, vO, conO, truW, tgW_nm, tgW_tup, tgWs_nil, tgWs_cons, lenW, fullW, bindW_nil, kind_append, kind_extend, kind_pop, kind_popAt, kind_reverse, kind_clear, kind_insert, kind_index, kind_join, kind_split, kind_upper, kind_startswith, kind_count, isStrW, newL, newD, wipeW, sizeLine_eq]
  refine WS_for ?_
  simp [WP_ok, WP_err, WP_bind, WP_ite, need_some, needS_some, res_ok, thenS_ok, WS_thenS, WS_nx, WS_rt, WS_bk, WS_ct, WS_nil, WS_cons, WS_expr, WS_asg, WS_par, WS_setSub, WS_setAtt, WS_ife, WS_ret, WS_retN, WS_ite, sm_v, sm_t, ev, evL, evEs, evAnd, evOr, evAndT, evOrT, evChain, evSlc, dflT, prm, two, one, bltW, bl1, bl2, negW, intOf, vD, vS, vL, conL, conD, vO, conO, truW, tgW_nm, tgW_tup, tgWs_nil, tgWs_cons, lenW, fullW, bindW_nil, kind_append, kind_extend, kind_pop, kind_popAt, kind_reverse, kind_clear, kind_insert, kind_index, kind_join, kind_split, kind_upper, kind_startswith, kind_count, isStrW, newL, newD, wipeW, sizeLine_eq]
  refine ⟨_, rng_items h0 (by omega), fun i l M => ∃ (ss : List Str) (c' : Cell) (k : Option W), l = [some (.ref 0), some (.int m), some (.ref 1), k] ∧ M = [c', ⟨true, .lst (ss.map .str)⟩] ∧ ss.length = i ∧ (∀ s ∈ ss, Wd s) ∧ ss.Nodup ∧ Pot c', ⟨[], c, none, rfl, rfl, rfl, by simp, by simp, pc⟩, ?_, ?_⟩
  · rintro i x l M hx ⟨ss, c1, k, rfl, rfl, hl, hw, hn, p1⟩
    have hi : i < m.toNat := by
      have := (List.getElem?_eq_some_iff.mp hx).1
      simpa using this
    refine ⟨_, rfl, ?_⟩
    simp [B_law_words, D_law_words, X1_law_words, ps_law_words, fn_law_words_law_word, ps_law_word, WP_ok, WP_err, WP_bind, WP_ite, need_some, needS_some, res_ok, thenS_ok, WS_thenS, WS_nx, WS_rt, WS_bk, WS_ct, WS_nil, WS_cons, WS_expr, WS_asg, WS_par, WS_setSub, WS_setAtt, WS_ife, WS_ret, WS_retN, WS_ite, sm_v, sm_t, ev, evL, evEs, evAnd, evOr, evAndT, evOrT, evChain, evSlc, dflT, prm, two, one, bltW, bl1, bl2, negW, intOf, vD, vS, vL, conL, conD, vO, conO, truW, tgW_nm, tgW_tup, tgWs_nil, tgWs_cons, lenW, fullW, bindW_nil, kind_append, kind_extend, kind_pop, kind_popAt, kind_reverse, kind_clear, kind_insert, kind_index, kind_join, kind_split, kind_upper, kind_startswith, kind_count, isStrW, newL, newD, wipeW, sizeLine_eq]
    refine wp_ref2 (by decide) rfl rfl rfl p1.pure (by simp [pureC, Con.ws]; exact pureWs_map (fun _ => rfl) ss) ((word_spec p1 (fun s hs => (hw s hs).ok) (by omega) true).imp ?_)
    rintro w M' ⟨s, c2, rfl, ws, hns, p2, rfl⟩
    refine ⟨_, _, _, rfl, p2.pure, by simp [pureC, Con.ws]; exact pureWs_map (fun _ => rfl) ss, rfl, ?_⟩
    simp [WP_ok, WP_err, WP_bind, WP_ite, need_some, needS_some, res_ok, thenS_ok, WS_thenS, WS_nx, WS_rt, WS_bk, WS_ct, WS_nil, WS_cons, WS_expr, WS_asg, WS_par, WS_setSub, WS_setAtt, WS_ife, WS_ret, WS_retN, WS_ite, sm_v, sm_t, ev, evL, evEs, evAnd, evOr, evAndT, evOrT, evChain, evSlc, dflT, prm, two, one, bltW, bl1, bl2, negW, intOf, vD, vS, vL, conL, conD, vO, conO, truW, tgW_nm, tgW_tup, tgWs_nil, tgWs_cons, lenW, fullW, bindW_nil, kind_append, kind_extend, kind_pop, kind_popAt, kind_reverse, kind_clear, kind_insert, kind_index, kind_join, kind_split, kind_upper, kind_startswith, kind_count, isStrW, newL, newD, wipeW, sizeLine_eq, mthW, mth1, mth0, putL, outW_str]
    rw [if_pos (by omega)]
    simp [WP_ok, WP_err, WP_bind, WP_ite, need_some, needS_some, res_ok, thenS_ok, WS_thenS, WS_nx, WS_rt, WS_bk, WS_ct, WS_nil, WS_cons, WS_expr, WS_asg, WS_par, WS_setSub, WS_setAtt, WS_ife, WS_ret, WS_retN, WS_ite, sm_v, sm_t, ev, evL, evEs, evAnd, evOr, evAndT, evOrT, evChain, evSlc, dflT, prm, two, one, bltW, bl1, bl2, negW, intOf, vD, vS, vL, conL, conD, vO, conO, truW, tgW_nm, tgW_tup, tgWs_nil, tgWs_cons, lenW, fullW, bindW_nil, kind_append, kind_extend, kind_pop, kind_popAt, kind_reverse, kind_clear, kind_insert, kind_index, kind_join, kind_split, kind_upper, kind_startswith, kind_count, isStrW, newL, newD, wipeW, sizeLine_eq]
    refine ⟨rng_it (by omega) (by omega), ss ++ [s], c2, ?_, by simp [hl], ?_, ?_, p2⟩
    · simp
    · intro t ht
      rcases List.mem_append.mp ht with h | h
      · exact hw t h
      · have : t = s := by simpa using h
        rw [this]; exact ws
    · rw [List.nodup_append]
      refine ⟨hn, by simp, fun a ha b hb e => hns ?_⟩
      have : b = s := by simpa using hb
      rw [← this, ← e]; exact ha
  · rintro l M ⟨ss, c1, k, rfl, rfl, hl, hw, hn, p1⟩
    simp [WP_ok, WP_err, WP_bind, WP_ite, need_some, needS_some, res_ok, thenS_ok, WS_thenS, WS_nx, WS_rt, WS_bk, WS_ct, WS_nil, WS_cons, WS_expr, WS_asg, WS_par, WS_setSub, WS_setAtt, WS_ife, WS_ret, WS_retN, WS_ite, sm_v, sm_t, ev, evL, evEs, evAnd, evOr, evAndT, evOrT, evChain, evSlc, dflT, prm, two, one, bltW, bl1, bl2, negW, intOf, vD, vS, vL, conL, conD, vO, conO, truW, tgW_nm, tgW_tup, tgWs_nil, tgWs_cons, lenW, fullW, bindW_nil, kind_append, kind_extend, kind_pop, kind_popAt, kind_reverse, kind_clear, kind_insert, kind_index, kind_join, kind_split, kind_upper, kind_startswith, kind_count, isStrW, newL, newD, wipeW, sizeLine_eq]
    exact ⟨ss, c1, ⟨rfl, rfl⟩, by simpa using hl, hw, hn, p1⟩
theorem wp_words {n : Nat} {m : Int} {c : Cell} {M : Store} {Q : W → Store → Prop} (hn : M[n]? = some c) (pc : Pot c) (h0 : 0 ≤ m) (h25 : m ≤ 25) (k : ∀ (ss : List Str) (c' : Cell), ss.length = m.toNat → (∀ s ∈ ss, Wd s) → ss.Nodup → Pot c' → Q (.lst (ss.map .str)) (M.set n c')) : WP (callW F_law_words.sem true [.ref n, .int m] M) Q := by
  refine wp_ref1 hn rfl pc.pure ((words_spec pc h0 h25).imp ?_)
  rintro w M' ⟨ss, c', rfl, rfl, h1, h2, h3, p⟩
  have hp : pureWs (ss.map W.str) = true := pureWs_map (fun _ => rfl) ss
  refine ⟨c', _, rfl, p.pure, ?_, ?_⟩
  · rw [outW_lst (b := true) (by decide) rfl hp]; exact hp
  · rw [outW_lst (b := true) (by decide) rfl hp]; exact k ss c' h1 h2 h3 p
theorem mixed_spec {c : Cell} {gs : List W} (pc : Pot c) (hl : gs.length ≤ 1000) : WP (F_law_mixed.sem [.ref 0, .lst gs] [c]) fun w M' => ∃ (ys : List W) (c' : Cell) (r : Store), w = .lst ys ∧ ys.Perm gs ∧ M' = c' :: r ∧ Pot c' := by
  rw [se_law_mixed]; refine WP_run (show _ = _ from rfl) ?_
  simp [B_law_mixed, D_law_mixed, e1_law_mixed, ps_law_mixed, fn_law_mixed_law_draw, ps_law_draw, WP_ok, WP_err, WP_bind, WP_ite, need_some, needS_some, res_ok, thenS_ok, WS_thenS, WS_nx, WS_rt, WS_bk, WS_ct, WS_nil, WS_cons, WS_expr, WS_asg, WS_par, WS_setSub, WS_setAtt, WS_ife, WS_ret, WS_retN, WS_ite, sm_v, sm_t, ev, evL, evEs, evAnd, evOr, evAndT, evOrT, evChain, evSlc, dflT, prm, two, one, bltW, bl1, bl2, negW, intOf, vD, vS, vL, conL, conD, vO, conO, truW, tgW_nm, tgW_tup, tgWs_nil, tgWs_cons, lenW, fullW, bindW_nil, kind_append, kind_extend, kind_pop, kind_popAt, kind_reverse, kind_clear, kind_insert, kind_index, kind_join, kind_split, kind_upper, kind_startswith, kind_count, isStrW, newL, newD, wipeW, sizeLine_eq]
  refine WP_lc ?_
  simp [WP_ok, WP_err, WP_bind, WP_ite, need_some, needS_some, res_ok, thenS_ok, WS_thenS, WS_nx, WS_rt, WS_bk, WS_ct, WS_nil, WS_cons, WS_expr, WS_asg, WS_par, WS_setSub, WS_setAtt, WS_ife, WS_ret, WS_retN, WS_ite, sm_v, sm_t, ev, evL, evEs, evAnd, evOr, evAndT, evOrT, evChain, evSlc, dflT, prm, two, one, bltW, bl1, bl2, negW, intOf, vD, vS, vL, conL, conD, vO, conO, truW, tgW_nm, tgW_tup, tgWs_nil, tgWs_cons, lenW, fullW, bindW_nil, kind_append, kind_extend, kind_pop, kind_popAt, kind_reverse, kind_clear, kind_insert, kind_index, kind_join, kind_split, kind_upper, kind_startswith, kind_count, isStrW, newL, newD, wipeW, sizeLine_eq]
  refine ⟨_, rng_items (by omega) (by omega), by rw [sizeLine_eq]; simp; omega, fun i ys M => ∃ (left : List W) (c' : Cell), M = [c', ⟨true, .lst left⟩] ∧ (ys ++ left).Perm gs ∧ ys.length = i ∧ Pot c', ⟨gs, c, rfl, by simp, rfl, pc⟩, ?_, ?_⟩
  · rintro i x ys M hx ⟨left, c1, rfl, hp, hy, p1⟩
    have hi : i < gs.length := by
      have := (List.getElem?_eq_some_iff.mp hx).1
      simpa using this
    have hlen := hp.length_eq
    rw [List.length_append] at hlen
    refine ⟨_, rfl, ?_⟩
    simp [B_law_mixed, D_law_mixed, e1_law_mixed, ps_law_mixed, fn_law_mixed_law_draw, ps_law_draw, WP_ok, WP_err, WP_bind, WP_ite, need_some, needS_some, res_ok, thenS_ok, WS_thenS, WS_nx, WS_rt, WS_bk, WS_ct, WS_nil, WS_cons, WS_expr, WS_asg, WS_par, WS_setSub, WS_setAtt, WS_ife, WS_ret, WS_retN, WS_ite, sm_v, sm_t, ev, evL, evEs, evAnd, evOr, evAndT, evOrT, evChain, evSlc, dflT, prm, two, one, bltW, bl1, bl2, negW, intOf, vD, vS, vL, conL, conD, vO, conO, truW, tgW_nm, tgW_tup, tgWs_nil, tgWs_cons, lenW, fullW, bindW_nil, kind_append, kind_extend, kind_pop, kind_popAt, kind_reverse, kind_clear, kind_insert, kind_index, kind_join, kind_split, kind_upper, kind_startswith, kind_count, isStrW, newL, newD, wipeW, sizeLine_eq]
    refine wp_draw rfl p1 (by omega) (by omega) fun d c2 h1 h2 p2 => ?_
    obtain ⟨w, k1, k2, k3⟩ := popAt_ok (M := [c2, ⟨true, .lst left⟩]) (n := 1) rfl h1 h2 (by omega)
    simp only [List.set_cons_zero, List.set_cons_succ, List.getElem?_cons_zero, List.getElem?_cons_succ] at k3 ⊢
    simp only [k3, WP_ok]
    refine ⟨rng_it (by omega) (by omega), left.eraseIdx d.toNat, c2, rfl, ?_, by simp [hy], p2⟩
    exact ((k2.append_left ys).trans hp)
  · rintro ys M hyl ⟨left, c1, rfl, hp, hy, p1⟩
    have hlen := hp.length_eq
    rw [List.length_append] at hlen
    have : left = [] := List.eq_nil_of_length_eq_zero (by simp at hy; omega)
    subst this
    simp [WP_ok, WP_err, WP_bind, WP_ite, need_some, needS_some, res_ok, thenS_ok, WS_thenS, WS_nx, WS_rt, WS_bk, WS_ct, WS_nil, WS_cons, WS_expr, WS_asg, WS_par, WS_setSub, WS_setAtt, WS_ife, WS_ret, WS_retN, WS_ite, sm_v, sm_t, ev, evL, evEs, evAnd, evOr, evAndT, evOrT, evChain, evSlc, dflT, prm, two, one, bltW, bl1, bl2, negW, intOf, vD, vS, vL, conL, conD, vO, conO, truW, tgW_nm, tgW_tup, tgWs_nil, tgWs_cons, lenW, fullW, bindW_nil, kind_append, kind_extend, kind_pop, kind_popAt, kind_reverse, kind_clear, kind_insert, kind_index, kind_join, kind_split, kind_upper, kind_startswith, kind_count, isStrW, newL, newD, wipeW, sizeLine_eq]
    exact ⟨by simpa using hp, p1⟩
theorem wp_mixed {n : Nat} {gs : List W} {c : Cell} {M : Store} {Q : W → Store → Prop} (hn : M[n]? = some c) (pc : Pot c) (hl : gs.length ≤ 1000) (hg : pureWs gs = true) (k : ∀ (ys : List W) (c' : Cell), ys.Perm gs → Pot c' → Q (.lst ys) (M.set n c')) : WP (callW F_law_mixed.sem true [.ref n, .lst gs] M) Q := by
  refine wp_ref1 hn (by simpa [flatW, pureW] using hg) pc.pure ((mixed_spec pc hl).imp ?_)
  rintro w M' ⟨ys, c', r, rfl, h1, rfl, p⟩
  have hp : pureW (.lst ys) = true := by
    show pureWs ys = true
    rw [pureWs_iff] at hg ⊢
    exact fun w hw => hg w (h1.mem_iff.mp hw)
  refine ⟨c', r, rfl, p.pure, ?_, ?_⟩
  · rw [outW_pure hp]; exact hp
  · rw [outW_pure hp]; exact k ys c' h1 p
end PyL

open PySem PySem.Spec PyProof.Rows L2 PyI
namespace PyL
theorem fields_spec {c : Cell} {a b : Int} (pc : Pot c) (a0 : 0 ≤ a) (b0 : 0 ≤ b) (hab : a + b ≤ 25) : WP (F_law_fields.sem [.ref 0, .int a, .int b] [c]) fun w M' => ∃ (fs : List Fd) (c' : Cell) (r : Store), w = .lst (fdsW fs) ∧ M' = c' :: r ∧ FdsOk fs ∧ fs.length = (a + b).toNat ∧ cntC fs = b.toNat ∧ cntL fs = a.toNat ∧ Pot c' := by
  rw [se_law_fields]; refine WP_run (show _ = _ from rfl) ?_
  simp [B_law_fields, D_law_fields, e1_law_fields, ps_law_fields, fn_law_fields_law_draw, fn_law_fields_law_words, fn_law_fields_law_mixed, ps_law_draw, ps_law_words, ps_law_mixed, WP_ok, WP_err, WP_bind, WP_ite, need_some, needS_some, res_ok, thenS_ok, WS_thenS, WS_nx, WS_rt, WS_bk, WS_ct, WS_nil, WS_cons, WS_expr, WS_asg, WS_par, WS_setSub, WS_setAtt, WS_ife, WS_ret, WS_retN, WS_ite, sm_v, sm_t, ev, evL, evEs, evAnd, evOr, evAndT, evOrT, evChain, evSlc, dflT, prm, two, one, bltW, bl1, bl2, negW, intOf, vD, vS, vL, conL, conD, vO, conO, truW, tgW_nm, tgW_tup, tgWs_nil, tgWs_cons, lenW, fullW, bindW_nil, kind_append, kind_extend, kind_pop, kind_popAt, kind_reverse, kind_clear, kind_insert, kind_index, kind_join, kind_split, kind_upper, kind_startswith, kind_count, isStrW, newL, newD, wipeW, sizeLine_eq]
  refine WP_lc ?_
  simp [WP_ok, WP_err, WP_bind, WP_ite, need_some, needS_some, res_ok, thenS_ok, WS_thenS, WS_nx, WS_rt, WS_bk, WS_ct, WS_nil, WS_cons, WS_expr, WS_asg, WS_par, WS_setSub, WS_setAtt, WS_ife, WS_ret, WS_retN, WS_ite, sm_v, sm_t, ev, evL, evEs, evAnd, evOr, evAndT, evOrT, evChain, evSlc, dflT, prm, two, one, bltW, bl1, bl2, negW, intOf, vD, vS, vL, conL, conD, vO, conO, truW, tgW_nm, tgW_tup, tgWs_nil, tgWs_cons, lenW, fullW, bindW_nil, kind_append, kind_extend, kind_pop, kind_popAt, kind_reverse, kind_clear, kind_insert, kind_index, kind_join, kind_split, kind_upper, kind_startswith, kind_count, isStrW, newL, newD, wipeW, sizeLine_eq]
  refine ⟨_, rng_items a0 (by omega), by rw [sizeLine_eq]; simp; omega, fun i ys M => ∃ (ks : List Str) (c' : Cell), M = [c'] ∧ ys = ks.map W.str ∧ ks.length = i ∧ (∀ k ∈ ks, k = "mine" ∨ k = "theirs") ∧ Pot c', ⟨[], c, rfl, rfl, rfl, by simp, pc⟩, ?_, ?_⟩
  · rintro i x ys M hx ⟨ks, c1, rfl, rfl, hy, hk, p1⟩
    refine ⟨_, rfl, ?_⟩
    simp [B_law_fields, D_law_fields, e1_law_fields, ps_law_fields, fn_law_fields_law_draw, fn_law_fields_law_words, fn_law_fields_law_mixed, ps_law_draw, ps_law_words, ps_law_mixed, WP_ok, WP_err, WP_bind, WP_ite, need_some, needS_some, res_ok, thenS_ok, WS_thenS, WS_nx, WS_rt, WS_bk, WS_ct, WS_nil, WS_cons, WS_expr, WS_asg, WS_par, WS_setSub, WS_setAtt, WS_ife, WS_ret, WS_retN, WS_ite, sm_v, sm_t, ev, evL, evEs, evAnd, evOr, evAndT, evOrT, evChain, evSlc, dflT, prm, two, one, bltW, bl1, bl2, negW, intOf, vD, vS, vL, conL, conD, vO, conO, truW, tgW_nm, tgW_tup, tgWs_nil, tgWs_cons, lenW, fullW, bindW_nil, kind_append, kind_extend, kind_pop, kind_popAt, kind_reverse, kind_clear, kind_insert, kind_index, kind_join, kind_split, kind_upper, kind_startswith, kind_count, isStrW, newL, newD, wipeW, sizeLine_eq]
    refine wp_draw rfl p1 (by decide) (by decide) fun d c2 h1 h2 p2 => ?_
    obtain ⟨j, hj, ej⟩ := draw_in (L := ([.str "mine", .str "theirs"] : List W)) h1 h2
    have hj' : ∃ k : Str, j = .str k ∧ (k = "mine" ∨ k = "theirs") := by
      simp at hj
      rcases hj with rfl | rfl
      · exact ⟨_, rfl, .inl rfl⟩
      · exact ⟨_, rfl, .inr rfl⟩
    obtain ⟨k, rfl, hk2⟩ := hj'
    simp only [List.set_cons_zero, List.set_cons_succ, List.getElem?_cons_zero, List.getElem?_cons_succ, idx_lst ej, WP_ok]
    refine ⟨rng_it (by omega) (by omega), ks ++ [k], c2, rfl, by simp, by simp [hy], fun t ht => ?_, p2⟩
    rcases List.mem_append.mp ht with h | h
    · exact hk t h
    · have : t = k := by simpa using h
      rw [this]; exact hk2
  · rintro ys M hyl ⟨ks, c1, rfl, rfl, hy, hk, p1⟩
    have hka : ks.length = a.toNat := by rw [hy]; simp
    have hmul : -(2 ^ 63 : Int) ≤ b ∧ b < 2 ^ 63 ∧ b.toNat ≤ 16777216 := by omega
    have hrep : (List.replicate b.toNat [W.str "counter"]).flatten = (List.replicate b.toNat ("counter" : Str)).map W.str := by
      generalize b.toNat = n
      induction n with
      | zero => rfl
      | succ n ih => rw [List.replicate_succ, List.flatten_cons, ih, List.replicate_succ]; rfl
    have hb1 : binW .Mult true (.lst [.str "counter"]) (.int b) [c1] = .ok (.lst ((List.replicate b.toNat ("counter" : Str)).map W.str)) [c1] := by
      show (need (vL [c1] (.lst [.str "counter"])) fun ws => _) = _
      simp only [vL, need_some]
      rw [if_pos (by rw [sizeLine_eq]; simp; omega), hrep]
      rfl
    have hb2 := bin_addL (M := [c1]) (x := ks.map W.str) (y := (List.replicate b.toNat ("counter" : Str)).map W.str) (by simp; omega)
    rw [← List.map_append] at hb2
    simp only [B_law_fields, D_law_fields, e1_law_fields, ps_law_fields, fn_law_fields_law_draw, fn_law_fields_law_words, fn_law_fields_law_mixed, ps_law_draw, ps_law_words, ps_law_mixed, WP_ok, WP_err, WP_bind, WP_ite, need_some, needS_some, res_ok, thenS_ok, WS_thenS, WS_nx, WS_rt, WS_bk, WS_ct, WS_nil, WS_cons, WS_expr, WS_asg, WS_par, WS_setSub, WS_setAtt, WS_ife, WS_ret, WS_retN, WS_ite, sm_v, sm_t, ev, evL, evEs, evAnd, evOr, evAndT, evOrT, evChain, evSlc, dflT, prm, two, one, bltW, bl1, bl2, negW, intOf, vD, vS, vL, conL, conD, vO, conO, truW, tgW_nm, tgW_tup, tgWs_nil, tgWs_cons, lenW, fullW, bindW_nil, kind_append, kind_extend, kind_pop, kind_popAt, kind_reverse, kind_clear, kind_insert, kind_index, kind_join, kind_split, kind_upper, kind_startswith, kind_count, isStrW, newL, newD, wipeW, sizeLine_eq, if_true, if_false, Bool.false_eq_true, not_false_eq_true, not_true_eq_false, bin_addI, bin_subI, cmp_eqI, cmp_eqT, cmp_neT, cmp_gtI, cmp_ltI, cmp_leI, int_bl, idx_t0, idx_t1, idx_l0, idx_l1, pow_25, pow_9, pow_20, List.length_cons, List.length_nil, Nat.zero_add, List.set_cons_zero, List.set_cons_succ, List.getElem?_cons_zero, List.getElem?_cons_succ, hb1, hb2]
    refine wp_words rfl p1 (by omega) (by omega) fun ss c2 hs1 hs2 hs3 p2 => ?_
    try simp only [List.set_cons_zero, List.set_cons_succ, List.getElem?_cons_zero, List.getElem?_cons_succ]
    have e1 : ∀ l : List Str, List.map W.str ks ++ List.map W.str l = (ks ++ l).map W.str := fun l => by simp
    refine wp_mixed rfl p2 (by simp; omega) (pureWs_map (fun _ => rfl) _) fun ys c3 hp p3 => ?_
    have hp' : ys.Perm ((ks ++ List.replicate b.toNat ("counter" : Str)).map W.str) := by simpa using hp
    obtain ⟨ls, rfl, hpl⟩ := perm_strs hp'
    have hll : ls.length = ss.length := by
      have := hpl.length_eq
      simp at this
      omega
    simp [WP_ok, WP_err, WP_bind, WP_ite, need_some, needS_some, res_ok, thenS_ok, WS_thenS, WS_nx, WS_rt, WS_bk, WS_ct, WS_nil, WS_cons, WS_expr, WS_asg, WS_par, WS_setSub, WS_setAtt, WS_ife, WS_ret, WS_retN, WS_ite, sm_v, sm_t, ev, evL, evEs, evAnd, evOr, evAndT, evOrT, evChain, evSlc, dflT, prm, two, one, bltW, bl1, bl2, negW, intOf, vD, vS, vL, conL, conD, vO, conO, truW, tgW_nm, tgW_tup, tgWs_nil, tgWs_cons, lenW, fullW, bindW_nil, kind_append, kind_extend, kind_pop, kind_popAt, kind_reverse, kind_clear, kind_insert, kind_index, kind_join, kind_split, kind_upper, kind_startswith, kind_count, isStrW, newL, newD, wipeW, sizeLine_eq, lzipW, lzip_fds (M := []) hll.symm]
    refine ⟨ss.zip ls, rfl, ⟨fun f hf => hs2 _ (List.of_mem_zip hf).1, by rw [zip_fst' hll.symm]; exact hs3, fun f hf => ?_⟩, ?_, ?_, ?_, p3⟩
    · have := hpl.mem_iff.mp (List.of_mem_zip hf).2
      rcases List.mem_append.mp this with h | h
      · rcases hk _ h with e | e <;> rw [e] <;> simp [kinds3]
      · rw [List.eq_of_mem_replicate h]; simp [kinds3]
    · simp [hs1, hll]
    · unfold cntC
      rw [zip_snd' hll.symm, hpl.countP_eq, List.countP_append]
      have h1 : ks.countP isC = 0 := by
        rw [List.countP_eq_zero]
        intro k hk2
        rcases hk k hk2 with e | e <;> rw [e] <;> decide +kernel
      rw [h1, List.countP_replicate]
      simp [isC]
    · unfold cntL
      rw [zip_snd' hll.symm, hpl.countP_eq, List.countP_append]
      have h1 : ks.countP (fun k => !isC k) = ks.length := by
        rw [List.countP_eq_length]
        intro k hk2
        rcases hk k hk2 with e | e <;> rw [e] <;> decide +kernel
      rw [h1, List.countP_replicate]
      simp [isC, hka]
theorem wp_fields {n : Nat} {a b : Int} {c : Cell} {M : Store} {Q : W → Store → Prop} (hn : M[n]? = some c) (pc : Pot c) (a0 : 0 ≤ a) (b0 : 0 ≤ b) (hab : a + b ≤ 25)
    (k : ∀ (fs : List Fd) (c' : Cell), FdsOk fs → fs.length = (a + b).toNat → cntC fs = b.toNat → cntL fs = a.toNat → Pot c' → Q (.lst (fdsW fs)) (M.set n c')) : WP (callW F_law_fields.sem true [.ref n, .int a, .int b] M) Q := by
  refine wp_ref1 hn rfl pc.pure ((fields_spec pc a0 b0 hab).imp ?_)
  rintro w M' ⟨fs, c', r, rfl, rfl, h1, h2, h3, h4, p⟩
  refine ⟨c', r, rfl, p.pure, ?_, ?_⟩
  · rw [outW_lstP (fdsW_pure fs)]; exact fdsW_pure fs
  · rw [outW_lstP (fdsW_pure fs)]; exact k fs c' h1 h2 h3 h4 p
end PyL

open PySem PySem.Spec PyProof.Rows L2 PyI
namespace PyL
def ShapeP (a b : Int) (w : W) (M' : Store) : Prop := ∃ (fs : List Fd) (c' : Cell) (r : Store), w = .lst (fdsW fs) ∧ M' = c' :: r ∧ FdsOk fs ∧ fs ≠ [] ∧ fs.length ≤ 25 ∧ (cntC fs : Int) ≤ b ∧ (cntL fs : Int) ≤ max a 1 ∧ Pot c'
theorem shape_spec {c : Cell} {a b : Int} (pc : Pot c) (a0 : 0 ≤ a) (b0 : 0 ≤ b) (hab : a + b ≤ 24) : WP (F_law_shape.sem [.ref 0, .int a, .int b] [c]) (ShapeP a b) := by
  rw [se_law_shape]; refine WP_run (show _ = _ from rfl) ?_
  simp [B_law_shape, D_law_shape, ps_law_shape, fn_law_shape_law_draw, fn_law_shape_law_fields, ps_law_draw, ps_law_fields, WP_ok, WP_err, WP_bind, WP_ite, need_some, needS_some, res_ok, thenS_ok, WS_thenS, WS_nx, WS_rt, WS_bk, WS_ct, WS_nil, WS_cons, WS_expr, WS_asg, WS_par, WS_setSub, WS_setAtt, WS_ife, WS_ret, WS_retN, WS_ite, sm_v, sm_t, ev, evL, evEs, evAnd, evOr, evAndT, evOrT, evChain, evSlc, dflT, prm, two, one, bltW, bl1, bl2, negW, intOf, vD, vS, vL, conL, conD, vO, conO, truW, tgW_nm, tgW_tup, tgWs_nil, tgWs_cons, lenW, fullW, bindW_nil, kind_append, kind_extend, kind_pop, kind_popAt, kind_reverse, kind_clear, kind_insert, kind_index, kind_join, kind_split, kind_upper, kind_startswith, kind_count, isStrW, newL, newD, wipeW, sizeLine_eq, if_true, if_false, Bool.false_eq_true, not_false_eq_true, not_true_eq_false, bin_addI, bin_subI, cmp_eqI, cmp_eqT, cmp_neT, cmp_gtI, cmp_ltI, cmp_leI, int_bl, idx_t0, idx_t1, idx_l0, idx_l1, pow_25, pow_9, pow_20, List.length_cons, List.length_nil, Nat.zero_add, List.set_cons_zero, List.set_cons_succ, List.getElem?_cons_zero, List.getElem?_cons_succ]
  refine wp_draw rfl pc (by omega) (by omega) fun m c1 h1 h2 p1 => ?_
  simp [WP_ok, WP_err, WP_bind, WP_ite, need_some, needS_some, res_ok, thenS_ok, WS_thenS, WS_nx, WS_rt, WS_bk, WS_ct, WS_nil, WS_cons, WS_expr, WS_asg, WS_par, WS_setSub, WS_setAtt, WS_ife, WS_ret, WS_retN, WS_ite, sm_v, sm_t, ev, evL, evEs, evAnd, evOr, evAndT, evOrT, evChain, evSlc, dflT, prm, two, one, bltW, bl1, bl2, negW, intOf, vD, vS, vL, conL, conD, vO, conO, truW, tgW_nm, tgW_tup, tgWs_nil, tgWs_cons, lenW, fullW, bindW_nil, kind_append, kind_extend, kind_pop, kind_popAt, kind_reverse, kind_clear, kind_insert, kind_index, kind_join, kind_split, kind_upper, kind_startswith, kind_count, isStrW, newL, newD, wipeW, sizeLine_eq, if_true, if_false, Bool.false_eq_true, not_false_eq_true, not_true_eq_false, bin_addI, bin_subI, cmp_eqI, cmp_eqT, cmp_neT, cmp_gtI, cmp_ltI, cmp_leI, int_bl, idx_t0, idx_t1, idx_l0, idx_l1, pow_25, pow_9, pow_20, List.length_cons, List.length_nil, Nat.zero_add, List.set_cons_zero, List.set_cons_succ, List.getElem?_cons_zero, List.getElem?_cons_succ]
  refine wp_draw rfl p1 (by omega) (by omega) fun t c2 h3 h4 p2 => ?_
  simp [B_law_shape, D_law_shape, ps_law_shape, fn_law_shape_law_draw, fn_law_shape_law_fields, ps_law_draw, ps_law_fields, WP_ok, WP_err, WP_bind, WP_ite, need_some, needS_some, res_ok, thenS_ok, WS_thenS, WS_nx, WS_rt, WS_bk, WS_ct, WS_nil, WS_cons, WS_expr, WS_asg, WS_par, WS_setSub, WS_setAtt, WS_ife, WS_ret, WS_retN, WS_ite, sm_v, sm_t, ev, evL, evEs, evAnd, evOr, evAndT, evOrT, evChain, evSlc, dflT, prm, two, one, bltW, bl1, bl2, negW, intOf, vD, vS, vL, conL, conD, vO, conO, truW, tgW_nm, tgW_tup, tgWs_nil, tgWs_cons, lenW, fullW, bindW_nil, kind_append, kind_extend, kind_pop, kind_popAt, kind_reverse, kind_clear, kind_insert, kind_index, kind_join, kind_split, kind_upper, kind_startswith, kind_count, isStrW, newL, newD, wipeW, sizeLine_eq, if_true, if_false, Bool.false_eq_true, not_false_eq_true, not_true_eq_false, bin_addI, bin_subI, cmp_eqI, cmp_eqT, cmp_neT, cmp_gtI, cmp_ltI, cmp_leI, int_bl, idx_t0, idx_t1, idx_l0, idx_l1, pow_25, pow_9, pow_20, List.length_cons, List.length_nil, Nat.zero_add, List.set_cons_zero, List.set_cons_succ, List.getElem?_cons_zero, List.getElem?_cons_succ]
  refine wp_fields rfl p2 (by split <;> omega) h3 (by split <;> omega) fun fs c3 k1 k2 k3 k4 p3 => ?_
  simp only [List.set_cons_zero, List.set_cons_succ, List.getElem?_cons_zero, List.getElem?_cons_succ]
  refine ⟨fs, c3, _, rfl, rfl, k1, ?_, ?_, ?_, ?_, p3⟩
  · intro e
    subst e
    simp at k2
    split at k2 <;> omega
  · split at k2 <;> omega
  · omega
  · rw [k4]
    split <;> omega
theorem wp_shape {n : Nat} {a b : Int} {c : Cell} {M : Store} {Q : W → Store → Prop} (hn : M[n]? = some c) (pc : Pot c) (a0 : 0 ≤ a) (b0 : 0 ≤ b) (hab : a + b ≤ 24)
    (k : ∀ (fs : List Fd) (c' : Cell), FdsOk fs → fs ≠ [] → fs.length ≤ 25 → (cntC fs : Int) ≤ b → (cntL fs : Int) ≤ max a 1 → Pot c' → Q (.lst (fdsW fs)) (M.set n c')) : WP (callW F_law_shape.sem true [.ref n, .int a, .int b] M) Q := by
  refine wp_ref1 hn rfl pc.pure ((shape_spec pc a0 b0 hab).imp ?_)
  rintro w M' ⟨fs, c', r, rfl, rfl, h1, h2, h3, h4, h5, p⟩
  refine ⟨c', r, rfl, p.pure, ?_, ?_⟩
  · rw [outW_lstP (fdsW_pure fs)]; exact fdsW_pure fs
  · rw [outW_lstP (fdsW_pure fs)]; exact k fs c' h1 h2 h3 h4 h5 p
def StepP (w : W) (M' : Store) : Prop := ∃ (x : Int) (c' : Cell) (r : Store), w = .int x ∧ M' = c' :: r ∧ 0 ≤ x ∧ x ≤ 10 ^ 26 ∧ Pot c'
theorem step_spec {c : Cell} {far : Int} (pc : Pot c) : WP (F_law_step.sem [.ref 0, .int far] [c]) StepP := by
  rw [se_law_step]; refine WP_run (show _ = _ from rfl) ?_
  simp [B_law_step, D_law_step, ps_law_step, fn_law_step_law_draw, ps_law_draw, WP_ok, WP_err, WP_bind, WP_ite, need_some, needS_some, res_ok, thenS_ok, WS_thenS, WS_nx, WS_rt, WS_bk, WS_ct, WS_nil, WS_cons, WS_expr, WS_asg, WS_par, WS_setSub, WS_setAtt, WS_ife, WS_ret, WS_retN, WS_ite, sm_v, sm_t, ev, evL, evEs, evAnd, evOr, evAndT, evOrT, evChain, evSlc, dflT, prm, two, one, bltW, bl1, bl2, negW, intOf, vD, vS, vL, conL, conD, vO, conO, truW, tgW_nm, tgW_tup, tgWs_nil, tgWs_cons, lenW, fullW, bindW_nil, kind_append, kind_extend, kind_pop, kind_popAt, kind_reverse, kind_clear, kind_insert, kind_index, kind_join, kind_split, kind_upper, kind_startswith, kind_count, isStrW, newL, newD, wipeW, sizeLine_eq, if_true, if_false, Bool.false_eq_true, not_false_eq_true, not_true_eq_false, bin_addI, bin_subI, cmp_eqI, cmp_eqT, cmp_neT, cmp_gtI, cmp_ltI, cmp_leI, int_bl, idx_t0, idx_t1, idx_l0, idx_l1, pow_25, pow_9, pow_20, List.length_cons, List.length_nil, Nat.zero_add, List.set_cons_zero, List.set_cons_succ, List.getElem?_cons_zero, List.getElem?_cons_succ]
  refine wp_draw rfl pc (by omega) (by omega) fun m c1 h1 h2 p1 => ?_
  obtain ⟨j, hj, ej⟩ := draw_in (L := ([.int 0, .int 1, .int 2, .int 3, .int 4, .int 6] : List W)) h1 h2
  have hj' : ∃ n : Int, j = .int n ∧ 0 ≤ n ∧ n ≤ 6 := by
    simp at hj
    rcases hj with rfl | rfl | rfl | rfl | rfl | rfl <;> exact ⟨_, rfl, by decide, by decide⟩
  obtain ⟨n, rfl, n0, n6⟩ := hj'
  have mu : CMul n 10000000000000000000000000 := .inl (by omega)
  simp [B_law_step, D_law_step, ps_law_step, fn_law_step_law_draw, ps_law_draw, WP_ok, WP_err, WP_bind, WP_ite, need_some, needS_some, res_ok, thenS_ok, WS_thenS, WS_nx, WS_rt, WS_bk, WS_ct, WS_nil, WS_cons, WS_expr, WS_asg, WS_par, WS_setSub, WS_setAtt, WS_ife, WS_ret, WS_retN, WS_ite, sm_v, sm_t, ev, evL, evEs, evAnd, evOr, evAndT, evOrT, evChain, evSlc, dflT, prm, two, one, bltW, bl1, bl2, negW, intOf, vD, vS, vL, conL, conD, vO, conO, truW, tgW_nm, tgW_tup, tgWs_nil, tgWs_cons, lenW, fullW, bindW_nil, kind_append, kind_extend, kind_pop, kind_popAt, kind_reverse, kind_clear, kind_insert, kind_index, kind_join, kind_split, kind_upper, kind_startswith, kind_count, isStrW, newL, newD, wipeW, sizeLine_eq, if_true, if_false, Bool.false_eq_true, not_false_eq_true, not_true_eq_false, bin_addI, bin_subI, cmp_eqI, cmp_eqT, cmp_neT, cmp_gtI, cmp_ltI, cmp_leI, int_bl, idx_t0, idx_t1, idx_l0, idx_l1, pow_25, pow_9, pow_20, List.length_cons, List.length_nil, Nat.zero_add, List.set_cons_zero, List.set_cons_succ, List.getElem?_cons_zero, List.getElem?_cons_succ, idx_lst ej]
  by_cases hf : far = 0
  · simp [hf, WP_ok, WP_err, WP_bind, WP_ite, need_some, needS_some, res_ok, thenS_ok, WS_thenS, WS_nx, WS_rt, WS_bk, WS_ct, WS_nil, WS_cons, WS_expr, WS_asg, WS_par, WS_setSub, WS_setAtt, WS_ife, WS_ret, WS_retN, WS_ite, sm_v, sm_t, ev, evL, evEs, evAnd, evOr, evAndT, evOrT, evChain, evSlc, dflT, prm, two, one, bltW, bl1, bl2, negW, intOf, vD, vS, vL, conL, conD, vO, conO, truW, tgW_nm, tgW_tup, tgWs_nil, tgWs_cons, lenW, fullW, bindW_nil, kind_append, kind_extend, kind_pop, kind_popAt, kind_reverse, kind_clear, kind_insert, kind_index, kind_join, kind_split, kind_upper, kind_startswith, kind_count, isStrW, newL, newD, wipeW, sizeLine_eq, if_true, if_false, Bool.false_eq_true, not_false_eq_true, not_true_eq_false, bin_addI, bin_subI, cmp_eqI, cmp_eqT, cmp_neT, cmp_gtI, cmp_ltI, cmp_leI, int_bl, idx_t0, idx_t1, idx_l0, idx_l1, pow_25, pow_9, pow_20, List.length_cons, List.length_nil, Nat.zero_add, List.set_cons_zero, List.set_cons_succ, List.getElem?_cons_zero, List.getElem?_cons_succ]
    exact ⟨n, c1, [], rfl, rfl, n0, by omega, p1⟩
  · simp [hf, WP_ok, WP_err, WP_bind, WP_ite, need_some, needS_some, res_ok, thenS_ok, WS_thenS, WS_nx, WS_rt, WS_bk, WS_ct, WS_nil, WS_cons, WS_expr, WS_asg, WS_par, WS_setSub, WS_setAtt, WS_ife, WS_ret, WS_retN, WS_ite, sm_v, sm_t, ev, evL, evEs, evAnd, evOr, evAndT, evOrT, evChain, evSlc, dflT, prm, two, one, bltW, bl1, bl2, negW, intOf, vD, vS, vL, conL, conD, vO, conO, truW, tgW_nm, tgW_tup, tgWs_nil, tgWs_cons, lenW, fullW, bindW_nil, kind_append, kind_extend, kind_pop, kind_popAt, kind_reverse, kind_clear, kind_insert, kind_index, kind_join, kind_split, kind_upper, kind_startswith, kind_count, isStrW, newL, newD, wipeW, sizeLine_eq, if_true, if_false, Bool.false_eq_true, not_false_eq_true, not_true_eq_false, bin_addI, bin_subI, cmp_eqI, cmp_eqT, cmp_neT, cmp_gtI, cmp_ltI, cmp_leI, int_bl, idx_t0, idx_t1, idx_l0, idx_l1, pow_25, pow_9, pow_20, List.length_cons, List.length_nil, Nat.zero_add, List.set_cons_zero, List.set_cons_succ, List.getElem?_cons_zero, List.getElem?_cons_succ]
    refine wp_draw rfl p1 (by decide) (by decide) fun d c2 h3 h4 p2 => ?_
    simp [WP_ok, WP_err, WP_bind, WP_ite, need_some, needS_some, res_ok, thenS_ok, WS_thenS, WS_nx, WS_rt, WS_bk, WS_ct, WS_nil, WS_cons, WS_expr, WS_asg, WS_par, WS_setSub, WS_setAtt, WS_ife, WS_ret, WS_retN, WS_ite, sm_v, sm_t, ev, evL, evEs, evAnd, evOr, evAndT, evOrT, evChain, evSlc, dflT, prm, two, one, bltW, bl1, bl2, negW, intOf, vD, vS, vL, conL, conD, vO, conO, truW, tgW_nm, tgW_tup, tgWs_nil, tgWs_cons, lenW, fullW, bindW_nil, kind_append, kind_extend, kind_pop, kind_popAt, kind_reverse, kind_clear, kind_insert, kind_index, kind_join, kind_split, kind_upper, kind_startswith, kind_count, isStrW, newL, newD, wipeW, sizeLine_eq, if_true, if_false, Bool.false_eq_true, not_false_eq_true, not_true_eq_false, bin_addI, bin_subI, cmp_eqI, cmp_eqT, cmp_neT, cmp_gtI, cmp_ltI, cmp_leI, int_bl, idx_t0, idx_t1, idx_l0, idx_l1, pow_25, pow_9, pow_20, List.length_cons, List.length_nil, Nat.zero_add, List.set_cons_zero, List.set_cons_succ, List.getElem?_cons_zero, List.getElem?_cons_succ]
    by_cases hd : d = 0
    · simp [hd, WP_ok, WP_err, WP_bind, WP_ite, need_some, needS_some, res_ok, thenS_ok, WS_thenS, WS_nx, WS_rt, WS_bk, WS_ct, WS_nil, WS_cons, WS_expr, WS_asg, WS_par, WS_setSub, WS_setAtt, WS_ife, WS_ret, WS_retN, WS_ite, sm_v, sm_t, ev, evL, evEs, evAnd, evOr, evAndT, evOrT, evChain, evSlc, dflT, prm, two, one, bltW, bl1, bl2, negW, intOf, vD, vS, vL, conL, conD, vO, conO, truW, tgW_nm, tgW_tup, tgWs_nil, tgWs_cons, lenW, fullW, bindW_nil, kind_append, kind_extend, kind_pop, kind_popAt, kind_reverse, kind_clear, kind_insert, kind_index, kind_join, kind_split, kind_upper, kind_startswith, kind_count, isStrW, newL, newD, wipeW, sizeLine_eq, if_true, if_false, Bool.false_eq_true, not_false_eq_true, not_true_eq_false, bin_addI, bin_subI, cmp_eqI, cmp_eqT, cmp_neT, cmp_gtI, cmp_ltI, cmp_leI, int_bl, idx_t0, idx_t1, idx_l0, idx_l1, pow_25, pow_9, pow_20, List.length_cons, List.length_nil, Nat.zero_add, List.set_cons_zero, List.set_cons_succ, List.getElem?_cons_zero, List.getElem?_cons_succ]
      exact ⟨n, c2, [], rfl, rfl, n0, by omega, p2⟩
    · simp [hd, WP_ok, WP_err, WP_bind, WP_ite, need_some, needS_some, res_ok, thenS_ok, WS_thenS, WS_nx, WS_rt, WS_bk, WS_ct, WS_nil, WS_cons, WS_expr, WS_asg, WS_par, WS_setSub, WS_setAtt, WS_ife, WS_ret, WS_retN, WS_ite, sm_v, sm_t, ev, evL, evEs, evAnd, evOr, evAndT, evOrT, evChain, evSlc, dflT, prm, two, one, bltW, bl1, bl2, negW, intOf, vD, vS, vL, conL, conD, vO, conO, truW, tgW_nm, tgW_tup, tgWs_nil, tgWs_cons, lenW, fullW, bindW_nil, kind_append, kind_extend, kind_pop, kind_popAt, kind_reverse, kind_clear, kind_insert, kind_index, kind_join, kind_split, kind_upper, kind_startswith, kind_count, isStrW, newL, newD, wipeW, sizeLine_eq, if_true, if_false, Bool.false_eq_true, not_false_eq_true, not_true_eq_false, bin_addI, bin_subI, cmp_eqI, cmp_eqT, cmp_neT, cmp_gtI, cmp_ltI, cmp_leI, int_bl, idx_t0, idx_t1, idx_l0, idx_l1, pow_25, pow_9, pow_20, List.length_cons, List.length_nil, Nat.zero_add, List.set_cons_zero, List.set_cons_succ, List.getElem?_cons_zero, List.getElem?_cons_succ]
      rw [bin_mulI mu]
      simp [WP_ok, WP_err, WP_bind, WP_ite, need_some, needS_some, res_ok, thenS_ok, WS_thenS, WS_nx, WS_rt, WS_bk, WS_ct, WS_nil, WS_cons, WS_expr, WS_asg, WS_par, WS_setSub, WS_setAtt, WS_ife, WS_ret, WS_retN, WS_ite, sm_v, sm_t, ev, evL, evEs, evAnd, evOr, evAndT, evOrT, evChain, evSlc, dflT, prm, two, one, bltW, bl1, bl2, negW, intOf, vD, vS, vL, conL, conD, vO, conO, truW, tgW_nm, tgW_tup, tgWs_nil, tgWs_cons, lenW, fullW, bindW_nil, kind_append, kind_extend, kind_pop, kind_popAt, kind_reverse, kind_clear, kind_insert, kind_index, kind_join, kind_split, kind_upper, kind_startswith, kind_count, isStrW, newL, newD, wipeW, sizeLine_eq, if_true, if_false, Bool.false_eq_true, not_false_eq_true, not_true_eq_false, bin_addI, bin_subI, cmp_eqI, cmp_eqT, cmp_neT, cmp_gtI, cmp_ltI, cmp_leI, int_bl, idx_t0, idx_t1, idx_l0, idx_l1, pow_25, pow_9, pow_20, List.length_cons, List.length_nil, Nat.zero_add, List.set_cons_zero, List.set_cons_succ, List.getElem?_cons_zero, List.getElem?_cons_succ]
      refine wp_draw rfl p2 (by decide) (by decide) fun d c3 h3 h4 p3 => ?_
      simp only [WP_ok, WP_err, WP_bind, WP_ite, need_some, needS_some, res_ok, thenS_ok, WS_thenS, WS_nx, WS_rt, WS_bk, WS_ct, WS_nil, WS_cons, WS_expr, WS_asg, WS_par, WS_setSub, WS_setAtt, WS_ife, WS_ret, WS_retN, WS_ite, sm_v, sm_t, ev, evL, evEs, evAnd, evOr, evAndT, evOrT, evChain, evSlc, dflT, prm, two, one, bltW, bl1, bl2, negW, intOf, vD, vS, vL, conL, conD, vO, conO, truW, tgW_nm, tgW_tup, tgWs_nil, tgWs_cons, lenW, fullW, bindW_nil, kind_append, kind_extend, kind_pop, kind_popAt, kind_reverse, kind_clear, kind_insert, kind_index, kind_join, kind_split, kind_upper, kind_startswith, kind_count, isStrW, newL, newD, wipeW, sizeLine_eq, if_true, if_false, Bool.false_eq_true, not_false_eq_true, not_true_eq_false, bin_addI, bin_subI, cmp_eqI, cmp_eqT, cmp_neT, cmp_gtI, cmp_ltI, cmp_leI, int_bl, idx_t0, idx_t1, idx_l0, idx_l1, pow_25, pow_9, pow_20, List.length_cons, List.length_nil, Nat.zero_add, List.set_cons_zero, List.set_cons_succ, List.getElem?_cons_zero, List.getElem?_cons_succ]
      exact ⟨_, c3, [], rfl, rfl, by omega, by omega, p3⟩
theorem wp_step {n : Nat} {far : Int} {c : Cell} {M : Store} {Q : W → Store → Prop} (hn : M[n]? = some c) (pc : Pot c) (k : ∀ (x : Int) (c' : Cell), 0 ≤ x → x ≤ 10 ^ 26 → Pot c' → Q (.int x) (M.set n c')) : WP (callW F_law_step.sem true [.ref n, .int far] M) Q := by
  refine wp_ref1 hn rfl pc.pure ((step_spec pc).imp ?_)
  rintro w M' ⟨x, c', r, rfl, rfl, h1, h2, p⟩
  exact ⟨c', r, rfl, p.pure, rfl, k x c' h1 h2 p⟩
def PlanP (fs : List Fd) (w : W) (M' : Store) : Prop := ∃ (ps : List W) (c' : Cell), w = .ref 1 ∧ M' = [c', ⟨true, .lst ps⟩] ∧ ps.length = fs.length ∧ Along PlanE fs ps ∧ Pot c'
def PlanI (fs : List Fd) (far m1 m2 : Int) (i : Nat) (l : LM) (M : Store) : Prop := ∃ (ps : List W) (c' : Cell) (a b d e : Option W), l = [some (.ref 0), some (.lst (fdsW fs)), some (.int far), some (.lst [.int (1 + m1), .int (2 + m2), .int 2]), some (.ref 1), a, b, d, e] ∧ M = [c', ⟨true, .lst ps⟩] ∧ ps.length = i ∧ Along PlanE fs ps ∧ Pot c'
theorem plan_spec {c : Cell} {fs : List Fd} {far : Int} (pc : Pot c) (hf : FdsOk fs) (hl : fs.length ≤ 25) : WP (F_law_plan.sem [.ref 0, .lst (fdsW fs), .int far] [c]) (PlanP fs) := by
  rw [se_law_plan]; refine WP_run (show _ = _ from rfl) ?_
  simp [B_law_plan, D_law_plan, X1_law_plan, ps_law_plan, fn_law_plan_law_draw, fn_law_plan_law_step, fn_law_plan_law_words, ps_law_draw, ps_law_step, ps_law_words, WP_ok, WP_err, WP_bind, WP_ite, need_some, needS_some, res_ok, thenS_ok, WS_thenS, WS_nx, WS_rt, WS_bk, WS_ct, WS_nil, WS_cons, WS_expr, WS_asg, WS_par, WS_setSub, WS_setAtt, WS_ife, WS_ret, WS_retN, WS_ite, sm_v, sm_t, ev, evL, evEs, evAnd, evOr, evAndT, evOrT, evChain, evSlc, dflT, prm, two, one, bltW, bl1, bl2, negW, intOf, vD, vS, vL, conL, conD, vO, conO, truW, tgW_nm, tgW_tup, tgWs_nil, tgWs_cons, lenW, fullW, bindW_nil, kind_append, kind_extend, kind_pop, kind_popAt, kind_reverse, kind_clear, kind_insert, kind_index, kind_join, kind_split, kind_upper, kind_startswith, kind_count, isStrW, newL, newD, wipeW, sizeLine_eq, if_true, if_false, Bool.false_eq_true, not_false_eq_true, not_true_eq_false, bin_addI, bin_subI, cmp_eqI, cmp_eqT, cmp_neT, cmp_gtI, cmp_ltI, cmp_leI, int_bl, idx_t0, idx_t1, idx_l0, idx_l1, pow_25, pow_9, pow_20, List.length_cons, List.length_nil, Nat.zero_add, List.set_cons_zero, List.set_cons_succ, List.getElem?_cons_zero, List.getElem?_cons_succ]
  refine wp_draw rfl pc (by decide) (by decide) fun m1 c1 h1 h2 p1 => ?_
  simp [WP_ok, WP_err, WP_bind, WP_ite, need_some, needS_some, res_ok, thenS_ok, WS_thenS, WS_nx, WS_rt, WS_bk, WS_ct, WS_nil, WS_cons, WS_expr, WS_asg, WS_par, WS_setSub, WS_setAtt, WS_ife, WS_ret, WS_retN, WS_ite, sm_v, sm_t, ev, evL, evEs, evAnd, evOr, evAndT, evOrT, evChain, evSlc, dflT, prm, two, one, bltW, bl1, bl2, negW, intOf, vD, vS, vL, conL, conD, vO, conO, truW, tgW_nm, tgW_tup, tgWs_nil, tgWs_cons, lenW, fullW, bindW_nil, kind_append, kind_extend, kind_pop, kind_popAt, kind_reverse, kind_clear, kind_insert, kind_index, kind_join, kind_split, kind_upper, kind_startswith, kind_count, isStrW, newL, newD, wipeW, sizeLine_eq, if_true, if_false, Bool.false_eq_true, not_false_eq_true, not_true_eq_false, bin_addI, bin_subI, cmp_eqI, cmp_eqT, cmp_neT, cmp_gtI, cmp_ltI, cmp_leI, int_bl, idx_t0, idx_t1, idx_l0, idx_l1, pow_25, pow_9, pow_20, List.length_cons, List.length_nil, Nat.zero_add, List.set_cons_zero, List.set_cons_succ, List.getElem?_cons_zero, List.getElem?_cons_succ]
  refine wp_draw rfl p1 (by decide) (by decide) fun m2 c2 h3 h4 p2 => ?_
  simp [B_law_plan, D_law_plan, X1_law_plan, ps_law_plan, fn_law_plan_law_draw, fn_law_plan_law_step, fn_law_plan_law_words, ps_law_draw, ps_law_step, ps_law_words, WP_ok, WP_err, WP_bind, WP_ite, need_some, needS_some, res_ok, thenS_ok, WS_thenS, WS_nx, WS_rt, WS_bk, WS_ct, WS_nil, WS_cons, WS_expr, WS_asg, WS_par, WS_setSub, WS_setAtt, WS_ife, WS_ret, WS_retN, WS_ite, sm_v, sm_t, ev, evL, evEs, evAnd, evOr, evAndT, evOrT, evChain, evSlc, dflT, prm, two, one, bltW, bl1, bl2, negW, intOf, vD, vS, vL, conL, conD, vO, conO, truW, tgW_nm, tgW_tup, tgWs_nil, tgWs_cons, lenW, fullW, bindW_nil, kind_append, kind_extend, kind_pop, kind_popAt, kind_reverse, kind_clear, kind_insert, kind_index, kind_join, kind_split, kind_upper, kind_startswith, kind_count, isStrW, newL, newD, wipeW, sizeLine_eq, if_true, if_false, Bool.false_eq_true, not_false_eq_true, not_true_eq_false, bin_addI, bin_subI, cmp_eqI, cmp_eqT, cmp_neT, cmp_gtI, cmp_ltI, cmp_leI, int_bl, idx_t0, idx_t1, idx_l0, idx_l1, pow_25, pow_9, pow_20, List.length_cons, List.length_nil, Nat.zero_add, List.set_cons_zero, List.set_cons_succ, List.getElem?_cons_zero, List.getElem?_cons_succ]
  refine WS_for ?_
  simp [WP_ok, WP_err, WP_bind, WP_ite, need_some, needS_some, res_ok, thenS_ok, WS_thenS, WS_nx, WS_rt, WS_bk, WS_ct, WS_nil, WS_cons, WS_expr, WS_asg, WS_par, WS_setSub, WS_setAtt, WS_ife, WS_ret, WS_retN, WS_ite, sm_v, sm_t, ev, evL, evEs, evAnd, evOr, evAndT, evOrT, evChain, evSlc, dflT, prm, two, one, bltW, bl1, bl2, negW, intOf, vD, vS, vL, conL, conD, vO, conO, truW, tgW_nm, tgW_tup, tgWs_nil, tgWs_cons, lenW, fullW, bindW_nil, kind_append, kind_extend, kind_pop, kind_popAt, kind_reverse, kind_clear, kind_insert, kind_index, kind_join, kind_split, kind_upper, kind_startswith, kind_count, isStrW, newL, newD, wipeW, sizeLine_eq, if_true, if_false, Bool.false_eq_true, not_false_eq_true, not_true_eq_false, bin_addI, bin_subI, cmp_eqI, cmp_eqT, cmp_neT, cmp_gtI, cmp_ltI, cmp_leI, int_bl, idx_t0, idx_t1, idx_l0, idx_l1, pow_25, pow_9, pow_20, List.length_cons, List.length_nil, Nat.zero_add, List.set_cons_zero, List.set_cons_succ, List.getElem?_cons_zero, List.getElem?_cons_succ]
  refine ⟨fdsW fs, rfl, PlanI fs far m1 m2, ⟨[], c2, none, none, none, none, rfl, rfl, rfl, Along.nil, p2⟩, ?_, ?_⟩
  · rintro i x l M hx ⟨ps, c3, a, b, d, e, rfl, rfl, hi, hal, p3⟩
    obtain ⟨f, hfi, rfl⟩ := fdsW_get hx
    have hfl := (List.getElem?_eq_some_iff.mp hfi).1
    have hk := hf.kind hfi
    refine ⟨_, rfl, ?_⟩
    simp [B_law_plan, D_law_plan, X1_law_plan, ps_law_plan, fn_law_plan_law_draw, fn_law_plan_law_step, fn_law_plan_law_words, ps_law_draw, ps_law_step, ps_law_words, WP_ok, WP_err, WP_bind, WP_ite, need_some, needS_some, res_ok, thenS_ok, WS_thenS, WS_nx, WS_rt, WS_bk, WS_ct, WS_nil, WS_cons, WS_expr, WS_asg, WS_par, WS_setSub, WS_setAtt, WS_ife, WS_ret, WS_retN, WS_ite, sm_v, sm_t, ev, evL, evEs, evAnd, evOr, evAndT, evOrT, evChain, evSlc, dflT, prm, two, one, bltW, bl1, bl2, negW, intOf, vD, vS, vL, conL, conD, vO, conO, truW, tgW_nm, tgW_tup, tgWs_nil, tgWs_cons, lenW, fullW, bindW_nil, kind_append, kind_extend, kind_pop, kind_popAt, kind_reverse, kind_clear, kind_insert, kind_index, kind_join, kind_split, kind_upper, kind_startswith, kind_count, isStrW, newL, newD, wipeW, sizeLine_eq, if_true, if_false, Bool.false_eq_true, not_false_eq_true, not_true_eq_false, bin_addI, bin_subI, cmp_eqI, cmp_eqT, cmp_neT, cmp_gtI, cmp_ltI, cmp_leI, int_bl, idx_t0, idx_t1, idx_l0, idx_l1, pow_25, pow_9, pow_20, List.length_cons, List.length_nil, Nat.zero_add, List.set_cons_zero, List.set_cons_succ, List.getElem?_cons_zero, List.getElem?_cons_succ, cmp_eqS hk sOk_counter]
    by_cases hc : f.2 = Str.ofString "counter"
    · simp [hc, WP_ok, WP_err, WP_bind, WP_ite, need_some, needS_some, res_ok, thenS_ok, WS_thenS, WS_nx, WS_rt, WS_bk, WS_ct, WS_nil, WS_cons, WS_expr, WS_asg, WS_par, WS_setSub, WS_setAtt, WS_ife, WS_ret, WS_retN, WS_ite, sm_v, sm_t, ev, evL, evEs, evAnd, evOr, evAndT, evOrT, evChain, evSlc, dflT, prm, two, one, bltW, bl1, bl2, negW, intOf, vD, vS, vL, conL, conD, vO, conO, truW, tgW_nm, tgW_tup, tgWs_nil, tgWs_cons, lenW, fullW, bindW_nil, kind_append, kind_extend, kind_pop, kind_popAt, kind_reverse, kind_clear, kind_insert, kind_index, kind_join, kind_split, kind_upper, kind_startswith, kind_count, isStrW, newL, newD, wipeW, sizeLine_eq, if_true, if_false, Bool.false_eq_true, not_false_eq_true, not_true_eq_false, bin_addI, bin_subI, cmp_eqI, cmp_eqT, cmp_neT, cmp_gtI, cmp_ltI, cmp_leI, int_bl, idx_t0, idx_t1, idx_l0, idx_l1, pow_25, pow_9, pow_20, List.length_cons, List.length_nil, Nat.zero_add, List.set_cons_zero, List.set_cons_succ, List.getElem?_cons_zero, List.getElem?_cons_succ]
      refine wp_draw rfl p3 (by decide) (by decide) fun d1 c4 k1 k2 p4 => ?_
      simp [WP_ok, WP_err, WP_bind, WP_ite, need_some, needS_some, res_ok, thenS_ok, WS_thenS, WS_nx, WS_rt, WS_bk, WS_ct, WS_nil, WS_cons, WS_expr, WS_asg, WS_par, WS_setSub, WS_setAtt, WS_ife, WS_ret, WS_retN, WS_ite, sm_v, sm_t, ev, evL, evEs, evAnd, evOr, evAndT, evOrT, evChain, evSlc, dflT, prm, two, one, bltW, bl1, bl2, negW, intOf, vD, vS, vL, conL, conD, vO, conO, truW, tgW_nm, tgW_tup, tgWs_nil, tgWs_cons, lenW, fullW, bindW_nil, kind_append, kind_extend, kind_pop, kind_popAt, kind_reverse, kind_clear, kind_insert, kind_index, kind_join, kind_split, kind_upper, kind_startswith, kind_count, isStrW, newL, newD, wipeW, sizeLine_eq, if_true, if_false, Bool.false_eq_true, not_false_eq_true, not_true_eq_false, bin_addI, bin_subI, cmp_eqI, cmp_eqT, cmp_neT, cmp_gtI, cmp_ltI, cmp_leI, int_bl, idx_t0, idx_t1, idx_l0, idx_l1, pow_25, pow_9, pow_20, List.length_cons, List.length_nil, Nat.zero_add, List.set_cons_zero, List.set_cons_succ, List.getElem?_cons_zero, List.getElem?_cons_succ]
      refine wp_step rfl p4 fun x c5 k3 k4 p5 => ?_
      simp [WP_ok, WP_err, WP_bind, WP_ite, need_some, needS_some, res_ok, thenS_ok, WS_thenS, WS_nx, WS_rt, WS_bk, WS_ct, WS_nil, WS_cons, WS_expr, WS_asg, WS_par, WS_setSub, WS_setAtt, WS_ife, WS_ret, WS_retN, WS_ite, sm_v, sm_t, ev, evL, evEs, evAnd, evOr, evAndT, evOrT, evChain, evSlc, dflT, prm, two, one, bltW, bl1, bl2, negW, intOf, vD, vS, vL, conL, conD, vO, conO, truW, tgW_nm, tgW_tup, tgWs_nil, tgWs_cons, lenW, fullW, bindW_nil, kind_append, kind_extend, kind_pop, kind_popAt, kind_reverse, kind_clear, kind_insert, kind_index, kind_join, kind_split, kind_upper, kind_startswith, kind_count, isStrW, newL, newD, wipeW, sizeLine_eq, if_true, if_false, Bool.false_eq_true, not_false_eq_true, not_true_eq_false, bin_addI, bin_subI, cmp_eqI, cmp_eqT, cmp_neT, cmp_gtI, cmp_ltI, cmp_leI, int_bl, idx_t0, idx_t1, idx_l0, idx_l1, pow_25, pow_9, pow_20, List.length_cons, List.length_nil, Nat.zero_add, List.set_cons_zero, List.set_cons_succ, List.getElem?_cons_zero, List.getElem?_cons_succ]
      rw [mth_app (M := [c5, ⟨true, .lst ps⟩]) (x := ps) rfl (by omega)]
      simp only [WP_ok, List.set_cons_zero, List.set_cons_succ, List.getElem?_cons_zero, List.getElem?_cons_succ]
      refine ⟨rfl, _, c5, _, _, _, _, rfl, rfl, by simp [hi], hal.snoc (by rw [hi]; exact hfi) ?_, p5⟩
      unfold PlanE
      rw [if_pos (isC_true.mp hc)]
      exact ⟨d1 - 20, x, rfl, by omega, by omega, k3, k4⟩
    · simp [hc, WP_ok, WP_err, WP_bind, WP_ite, need_some, needS_some, res_ok, thenS_ok, WS_thenS, WS_nx, WS_rt, WS_bk, WS_ct, WS_nil, WS_cons, WS_expr, WS_asg, WS_par, WS_setSub, WS_setAtt, WS_ife, WS_ret, WS_retN, WS_ite, sm_v, sm_t, ev, evL, evEs, evAnd, evOr, evAndT, evOrT, evChain, evSlc, dflT, prm, two, one, bltW, bl1, bl2, negW, intOf, vD, vS, vL, conL, conD, vO, conO, truW, tgW_nm, tgW_tup, tgWs_nil, tgWs_cons, lenW, fullW, bindW_nil, kind_append, kind_extend, kind_pop, kind_popAt, kind_reverse, kind_clear, kind_insert, kind_index, kind_join, kind_split, kind_upper, kind_startswith, kind_count, isStrW, newL, newD, wipeW, sizeLine_eq, if_true, if_false, Bool.false_eq_true, not_false_eq_true, not_true_eq_false, bin_addI, bin_subI, cmp_eqI, cmp_eqT, cmp_neT, cmp_gtI, cmp_ltI, cmp_leI, int_bl, idx_t0, idx_t1, idx_l0, idx_l1, pow_25, pow_9, pow_20, List.length_cons, List.length_nil, Nat.zero_add, List.set_cons_zero, List.set_cons_succ, List.getElem?_cons_zero, List.getElem?_cons_succ]
      refine wp_draw rfl p3 (by decide) (by decide) fun g c4 k1 k2 p4 => ?_
      simp [B_law_plan, D_law_plan, X1_law_plan, ps_law_plan, fn_law_plan_law_draw, fn_law_plan_law_step, fn_law_plan_law_words, ps_law_draw, ps_law_step, ps_law_words, WP_ok, WP_err, WP_bind, WP_ite, need_some, needS_some, res_ok, thenS_ok, WS_thenS, WS_nx, WS_rt, WS_bk, WS_ct, WS_nil, WS_cons, WS_expr, WS_asg, WS_par, WS_setSub, WS_setAtt, WS_ife, WS_ret, WS_retN, WS_ite, sm_v, sm_t, ev, evL, evEs, evAnd, evOr, evAndT, evOrT, evChain, evSlc, dflT, prm, two, one, bltW, bl1, bl2, negW, intOf, vD, vS, vL, conL, conD, vO, conO, truW, tgW_nm, tgW_tup, tgWs_nil, tgWs_cons, lenW, fullW, bindW_nil, kind_append, kind_extend, kind_pop, kind_popAt, kind_reverse, kind_clear, kind_insert, kind_index, kind_join, kind_split, kind_upper, kind_startswith, kind_count, isStrW, newL, newD, wipeW, sizeLine_eq, if_true, if_false, Bool.false_eq_true, not_false_eq_true, not_true_eq_false, bin_addI, bin_subI, cmp_eqI, cmp_eqT, cmp_neT, cmp_gtI, cmp_ltI, cmp_leI, int_bl, idx_t0, idx_t1, idx_l0, idx_l1, pow_25, pow_9, pow_20, List.length_cons, List.length_nil, Nat.zero_add, List.set_cons_zero, List.set_cons_succ, List.getElem?_cons_zero, List.getElem?_cons_succ]
      refine wp_draw rfl p4 (by decide) (by decide) fun z c5 k3 k4 p5 => ?_
      simp [WP_ok, WP_err, WP_bind, WP_ite, need_some, needS_some, res_ok, thenS_ok, WS_thenS, WS_nx, WS_rt, WS_bk, WS_ct, WS_nil, WS_cons, WS_expr, WS_asg, WS_par, WS_setSub, WS_setAtt, WS_ife, WS_ret, WS_retN, WS_ite, sm_v, sm_t, ev, evL, evEs, evAnd, evOr, evAndT, evOrT, evChain, evSlc, dflT, prm, two, one, bltW, bl1, bl2, negW, intOf, vD, vS, vL, conL, conD, vO, conO, truW, tgW_nm, tgW_tup, tgWs_nil, tgWs_cons, lenW, fullW, bindW_nil, kind_append, kind_extend, kind_pop, kind_popAt, kind_reverse, kind_clear, kind_insert, kind_index, kind_join, kind_split, kind_upper, kind_startswith, kind_count, isStrW, newL, newD, wipeW, sizeLine_eq, if_true, if_false, Bool.false_eq_true, not_false_eq_true, not_true_eq_false, bin_addI, bin_subI, cmp_eqI, cmp_eqT, cmp_neT, cmp_gtI, cmp_ltI, cmp_leI, int_bl, idx_t0, idx_t1, idx_l0, idx_l1, pow_25, pow_9, pow_20, List.length_cons, List.length_nil, Nat.zero_add, List.set_cons_zero, List.set_cons_succ, List.getElem?_cons_zero, List.getElem?_cons_succ]
      have fin : ∀ (sz : Int) (c6 : Cell), 0 < sz → sz ≤ 8 → Pot c6 → ∀ d e, WP (callW F_law_words.sem true [.ref 0, .int sz] [c6, ⟨true, .lst ps⟩]) fun a M => WP (callW F_law_draw.sem true [.ref 0, .int 6] M) fun a_1 M => WP (cmpW .Eq a_1 (.int 0) M) fun a_2 M => WP (mthW .append true [.ref 1, .tup [.int g, a, a_2]] M) fun x M1 =>
          itemsW .seq [.lst (fdsW fs)] M1 = some (fdsW fs) ∧ PlanI fs far m1 m2 (i + 1) [some (.ref 0), some (.lst (fdsW fs)), some (.int far), some (.lst [.int (1 + m1), .int (2 + m2), .int 2]), some (.ref 1), some (.str f.1), some (.str f.2), d, e] M1 := by
        intro sz c6 s1 s2 p6 d e
        refine wp_words rfl p6 (by omega) (by omega) fun ss c7 w1 w2 w3 p7 => ?_
        simp only [List.set_cons_zero, List.set_cons_succ, List.getElem?_cons_zero, List.getElem?_cons_succ]
        refine wp_draw rfl p7 (by decide) (by decide) fun bl c8 k5 k6 p8 => ?_
        simp only [WP_ok, WP_err, WP_bind, WP_ite, need_some, needS_some, res_ok, thenS_ok, WS_thenS, WS_nx, WS_rt, WS_bk, WS_ct, WS_nil, WS_cons, WS_expr, WS_asg, WS_par, WS_setSub, WS_setAtt, WS_ife, WS_ret, WS_retN, WS_ite, sm_v, sm_t, ev, evL, evEs, evAnd, evOr, evAndT, evOrT, evChain, evSlc, dflT, prm, two, one, bltW, bl1, bl2, negW, intOf, vD, vS, vL, conL, conD, vO, conO, truW, tgW_nm, tgW_tup, tgWs_nil, tgWs_cons, lenW, fullW, bindW_nil, kind_append, kind_extend, kind_pop, kind_popAt, kind_reverse, kind_clear, kind_insert, kind_index, kind_join, kind_split, kind_upper, kind_startswith, kind_count, isStrW, newL, newD, wipeW, sizeLine_eq, if_true, if_false, Bool.false_eq_true, not_false_eq_true, not_true_eq_false, bin_addI, bin_subI, cmp_eqI, cmp_eqT, cmp_neT, cmp_gtI, cmp_ltI, cmp_leI, int_bl, idx_t0, idx_t1, idx_l0, idx_l1, pow_25, pow_9, pow_20, List.length_cons, List.length_nil, Nat.zero_add, List.set_cons_zero, List.set_cons_succ, List.getElem?_cons_zero, List.getElem?_cons_succ]
        rw [mth_app (M := [c8, ⟨true, .lst ps⟩]) (x := ps) rfl (by omega)]
        simp only [WP_ok, List.set_cons_zero, List.set_cons_succ, List.getElem?_cons_zero, List.getElem?_cons_succ]
        refine ⟨rfl, _, c8, _, _, _, _, rfl, rfl, by simp [hi], hal.snoc (by rw [hi]; exact hfi) ?_, p8⟩
        unfold PlanE
        rw [if_neg fun h => hc (isC_true.mpr h)]
        refine ⟨g, ss, decide (bl = 0), rfl, k1, k2, ?_, by omega, w2⟩
        intro e
        subst e
        simp at w1
        omega
      by_cases hz : 0 < z
      · simp only [hz, if_true]
        obtain ⟨j, hj, ej⟩ := draw_in (L := ([.int (1 + m1), .int (2 + m2), .int 2] : List W)) k1 k2
        have hj' : ∃ n : Int, j = .int n ∧ 1 ≤ n ∧ n ≤ 8 := by
          simp at hj
          rcases hj with rfl | rfl | rfl <;> exact ⟨_, rfl, by omega, by omega⟩
        obtain ⟨n, rfl, n1, n8⟩ := hj'
        simp [WP_ok, WP_err, WP_bind, WP_ite, need_some, needS_some, res_ok, thenS_ok, WS_thenS, WS_nx, WS_rt, WS_bk, WS_ct, WS_nil, WS_cons, WS_expr, WS_asg, WS_par, WS_setSub, WS_setAtt, WS_ife, WS_ret, WS_retN, WS_ite, sm_v, sm_t, ev, evL, evEs, evAnd, evOr, evAndT, evOrT, evChain, evSlc, dflT, prm, two, one, bltW, bl1, bl2, negW, intOf, vD, vS, vL, conL, conD, vO, conO, truW, tgW_nm, tgW_tup, tgWs_nil, tgWs_cons, lenW, fullW, bindW_nil, kind_append, kind_extend, kind_pop, kind_popAt, kind_reverse, kind_clear, kind_insert, kind_index, kind_join, kind_split, kind_upper, kind_startswith, kind_count, isStrW, newL, newD, wipeW, sizeLine_eq, if_true, if_false, Bool.false_eq_true, not_false_eq_true, not_true_eq_false, bin_addI, bin_subI, cmp_eqI, cmp_eqT, cmp_neT, cmp_gtI, cmp_ltI, cmp_leI, int_bl, idx_t0, idx_t1, idx_l0, idx_l1, pow_25, pow_9, pow_20, List.length_cons, List.length_nil, Nat.zero_add, List.set_cons_zero, List.set_cons_succ, List.getElem?_cons_zero, List.getElem?_cons_succ, idx_lst ej]
        exact fin n c5 (by omega) n8 p5 _ _
      · simp only [hz, if_false]
        refine wp_draw rfl p5 (by decide) (by decide) fun y c6 k5 k6 p6 => ?_
        simp [WP_ok, WP_err, WP_bind, WP_ite, need_some, needS_some, res_ok, thenS_ok, WS_thenS, WS_nx, WS_rt, WS_bk, WS_ct, WS_nil, WS_cons, WS_expr, WS_asg, WS_par, WS_setSub, WS_setAtt, WS_ife, WS_ret, WS_retN, WS_ite, sm_v, sm_t, ev, evL, evEs, evAnd, evOr, evAndT, evOrT, evChain, evSlc, dflT, prm, two, one, bltW, bl1, bl2, negW, intOf, vD, vS, vL, conL, conD, vO, conO, truW, tgW_nm, tgW_tup, tgWs_nil, tgWs_cons, lenW, fullW, bindW_nil, kind_append, kind_extend, kind_pop, kind_popAt, kind_reverse, kind_clear, kind_insert, kind_index, kind_join, kind_split, kind_upper, kind_startswith, kind_count, isStrW, newL, newD, wipeW, sizeLine_eq, if_true, if_false, Bool.false_eq_true, not_false_eq_true, not_true_eq_false, bin_addI, bin_subI, cmp_eqI, cmp_eqT, cmp_neT, cmp_gtI, cmp_ltI, cmp_leI, int_bl, idx_t0, idx_t1, idx_l0, idx_l1, pow_25, pow_9, pow_20, List.length_cons, List.length_nil, Nat.zero_add, List.set_cons_zero, List.set_cons_succ, List.getElem?_cons_zero, List.getElem?_cons_succ]
        exact fin (1 + y) c6 (by omega) (by omega) p6 _ _
  · rintro l M ⟨ps, c3, a, b, d, e, rfl, rfl, hi, hal, p3⟩
    simp [WP_ok, WP_err, WP_bind, WP_ite, need_some, needS_some, res_ok, thenS_ok, WS_thenS, WS_nx, WS_rt, WS_bk, WS_ct, WS_nil, WS_cons, WS_expr, WS_asg, WS_par, WS_setSub, WS_setAtt, WS_ife, WS_ret, WS_retN, WS_ite, sm_v, sm_t, ev, evL, evEs, evAnd, evOr, evAndT, evOrT, evChain, evSlc, dflT, prm, two, one, bltW, bl1, bl2, negW, intOf, vD, vS, vL, conL, conD, vO, conO, truW, tgW_nm, tgW_tup, tgWs_nil, tgWs_cons, lenW, fullW, bindW_nil, kind_append, kind_extend, kind_pop, kind_popAt, kind_reverse, kind_clear, kind_insert, kind_index, kind_join, kind_split, kind_upper, kind_startswith, kind_count, isStrW, newL, newD, wipeW, sizeLine_eq, if_true, if_false, Bool.false_eq_true, not_false_eq_true, not_true_eq_false, bin_addI, bin_subI, cmp_eqI, cmp_eqT, cmp_neT, cmp_gtI, cmp_ltI, cmp_leI, int_bl, idx_t0, idx_t1, idx_l0, idx_l1, pow_25, pow_9, pow_20, List.length_cons, List.length_nil, Nat.zero_add, List.set_cons_zero, List.set_cons_succ, List.getElem?_cons_zero, List.getElem?_cons_succ]
    exact ⟨ps, c3, rfl, rfl, by simpa [fdsW] using hi, hal, p3⟩
theorem wp_plan {n : Nat} {far : Int} {fs : List Fd} {c : Cell} {M : Store} {Q : W → Store → Prop} (hn : M[n]? = some c) (pc : Pot c) (hf : FdsOk fs) (hl : fs.length ≤ 25) (k : ∀ (ps : List W) (c' : Cell), ps.length = fs.length → Along PlanE fs ps → Pot c' → Q (.lst ps) (M.set n c')) : WP (callW F_law_plan.sem true [.ref n, .lst (fdsW fs), .int far] M) Q := by
  refine wp_ref1 hn (by simp [flatW, pureW, fdsW_pure]) pc.pure ((plan_spec pc hf hl).imp ?_)
  rintro w M' ⟨ps, c', rfl, rfl, h1, h2, p⟩
  have hp : pureWs ps = true := h2.pure (by omega) fun _ _ => PlanE.pure
  refine ⟨c', _, rfl, p.pure, ?_, ?_⟩
  · rw [outW_lst (b := true) (by decide) rfl hp]; exact hp
  · rw [outW_lst (b := true) (by decide) rfl hp]; exact k ps c' h1 h2 p
end PyL

open PySem PySem.Spec PyProof.Rows L2 PyI
namespace PyL
abbrev B27 : Int := 1000000000000000000000000000
def RowP (fs : List Fd) (w : W) (M' : Store) : Prop := ∃ (ws : List W) (c' : Cell) (r : Store), w = .tup ws ∧ M' = c' :: r ∧ RowOk B27 fs ws ∧ Pot c'
def RowI (fs : List Fd) (ps : List W) (a b d : Int) (i : Nat) (l : LM) (M : Store) : Prop := ∃ (ws : List W) (c' : Cell) (x5 x6 x7 x8 x9 x10 : Option W), l = [some (.ref 0), some (.lst (fdsW fs)), some (.lst ps), some (.lst [.int a, .int b, .int d]), some (.ref 1), x5, x6, x7, x8, x9, x10] ∧ M = [c', ⟨true, .lst ws⟩] ∧ ws.length = i ∧ Along (ValE B27) fs ws ∧ Pot c'
theorem row_spec {c : Cell} {fs : List Fd} {ps : List W} (pc : Pot c) (hf : FdsOk fs) (hl : fs.length ≤ 25) (hpl : ps.length = fs.length) (hpa : Along PlanE fs ps) : WP (F_law_row.sem [.ref 0, .lst (fdsW fs), .lst ps] [c]) (RowP fs) := by
  rw [se_law_row]; refine WP_run (show _ = _ from rfl) ?_
  simp [B_law_row, D_law_row, X1_law_row, ps_law_row, fn_law_row_law_draw, ps_law_draw, WP_ok, WP_err, WP_bind, WP_ite, need_some, needS_some, res_ok, thenS_ok, WS_thenS, WS_nx, WS_rt, WS_bk, WS_ct, WS_nil, WS_cons, WS_expr, WS_asg, WS_par, WS_setSub, WS_setAtt, WS_ife, WS_ret, WS_retN, WS_ite, sm_v, sm_t, ev, evL, evEs, evAnd, evOr, evAndT, evOrT, evChain, evSlc, dflT, prm, two, one, bltW, bl1, bl2, negW, intOf, vD, vS, vL, conL, conD, vO, conO, truW, tgW_nm, tgW_tup, tgWs_nil, tgWs_cons, lenW, fullW, bindW_nil, kind_append, kind_extend, kind_pop, kind_popAt, kind_reverse, kind_clear, kind_insert, kind_index, kind_join, kind_split, kind_upper, kind_startswith, kind_count, isStrW, newL, newD, wipeW, sizeLine_eq, if_true, if_false, Bool.false_eq_true, not_false_eq_true, not_true_eq_false, bin_addI, bin_subI, cmp_eqI, cmp_eqT, cmp_neT, cmp_gtI, cmp_ltI, cmp_leI, int_bl, idx_t0, idx_t1, idx_l0, idx_l1, pow_25, pow_9, pow_20, List.length_cons, List.length_nil, Nat.zero_add, List.set_cons_zero, List.set_cons_succ, List.getElem?_cons_zero, List.getElem?_cons_succ]
  refine wp_draw rfl pc (by decide) (by decide) fun a c1 a1 a2 p1 => ?_
  simp [WP_ok, WP_err, WP_bind, WP_ite, need_some, needS_some, res_ok, thenS_ok, WS_thenS, WS_nx, WS_rt, WS_bk, WS_ct, WS_nil, WS_cons, WS_expr, WS_asg, WS_par, WS_setSub, WS_setAtt, WS_ife, WS_ret, WS_retN, WS_ite, sm_v, sm_t, ev, evL, evEs, evAnd, evOr, evAndT, evOrT, evChain, evSlc, dflT, prm, two, one, bltW, bl1, bl2, negW, intOf, vD, vS, vL, conL, conD, vO, conO, truW, tgW_nm, tgW_tup, tgWs_nil, tgWs_cons, lenW, fullW, bindW_nil, kind_append, kind_extend, kind_pop, kind_popAt, kind_reverse, kind_clear, kind_insert, kind_index, kind_join, kind_split, kind_upper, kind_startswith, kind_count, isStrW, newL, newD, wipeW, sizeLine_eq, if_true, if_false, Bool.false_eq_true, not_false_eq_true, not_true_eq_false, bin_addI, bin_subI, cmp_eqI, cmp_eqT, cmp_neT, cmp_gtI, cmp_ltI, cmp_leI, int_bl, idx_t0, idx_t1, idx_l0, idx_l1, pow_25, pow_9, pow_20, List.length_cons, List.length_nil, Nat.zero_add, List.set_cons_zero, List.set_cons_succ, List.getElem?_cons_zero, List.getElem?_cons_succ]
  refine wp_draw rfl p1 (by decide) (by decide) fun b c2 b1 b2 p2 => ?_
  simp [WP_ok, WP_err, WP_bind, WP_ite, need_some, needS_some, res_ok, thenS_ok, WS_thenS, WS_nx, WS_rt, WS_bk, WS_ct, WS_nil, WS_cons, WS_expr, WS_asg, WS_par, WS_setSub, WS_setAtt, WS_ife, WS_ret, WS_retN, WS_ite, sm_v, sm_t, ev, evL, evEs, evAnd, evOr, evAndT, evOrT, evChain, evSlc, dflT, prm, two, one, bltW, bl1, bl2, negW, intOf, vD, vS, vL, conL, conD, vO, conO, truW, tgW_nm, tgW_tup, tgWs_nil, tgWs_cons, lenW, fullW, bindW_nil, kind_append, kind_extend, kind_pop, kind_popAt, kind_reverse, kind_clear, kind_insert, kind_index, kind_join, kind_split, kind_upper, kind_startswith, kind_count, isStrW, newL, newD, wipeW, sizeLine_eq, if_true, if_false, Bool.false_eq_true, not_false_eq_true, not_true_eq_false, bin_addI, bin_subI, cmp_eqI, cmp_eqT, cmp_neT, cmp_gtI, cmp_ltI, cmp_leI, int_bl, idx_t0, idx_t1, idx_l0, idx_l1, pow_25, pow_9, pow_20, List.length_cons, List.length_nil, Nat.zero_add, List.set_cons_zero, List.set_cons_succ, List.getElem?_cons_zero, List.getElem?_cons_succ]
  refine wp_draw rfl p2 (by decide) (by decide) fun d c3 d1 d2 p3 => ?_
  simp [B_law_row, D_law_row, X1_law_row, ps_law_row, fn_law_row_law_draw, ps_law_draw, WP_ok, WP_err, WP_bind, WP_ite, need_some, needS_some, res_ok, thenS_ok, WS_thenS, WS_nx, WS_rt, WS_bk, WS_ct, WS_nil, WS_cons, WS_expr, WS_asg, WS_par, WS_setSub, WS_setAtt, WS_ife, WS_ret, WS_retN, WS_ite, sm_v, sm_t, ev, evL, evEs, evAnd, evOr, evAndT, evOrT, evChain, evSlc, dflT, prm, two, one, bltW, bl1, bl2, negW, intOf, vD, vS, vL, conL, conD, vO, conO, truW, tgW_nm, tgW_tup, tgWs_nil, tgWs_cons, lenW, fullW, bindW_nil, kind_append, kind_extend, kind_pop, kind_popAt, kind_reverse, kind_clear, kind_insert, kind_index, kind_join, kind_split, kind_upper, kind_startswith, kind_count, isStrW, newL, newD, wipeW, sizeLine_eq, if_true, if_false, Bool.false_eq_true, not_false_eq_true, not_true_eq_false, bin_addI, bin_subI, cmp_eqI, cmp_eqT, cmp_neT, cmp_gtI, cmp_ltI, cmp_leI, int_bl, idx_t0, idx_t1, idx_l0, idx_l1, pow_25, pow_9, pow_20, List.length_cons, List.length_nil, Nat.zero_add, List.set_cons_zero, List.set_cons_succ, List.getElem?_cons_zero, List.getElem?_cons_succ]
  refine WS_for ?_
  simp [WP_ok, WP_err, WP_bind, WP_ite, need_some, needS_some, res_ok, thenS_ok, WS_thenS, WS_nx, WS_rt, WS_bk, WS_ct, WS_nil, WS_cons, WS_expr, WS_asg, WS_par, WS_setSub, WS_setAtt, WS_ife, WS_ret, WS_retN, WS_ite, sm_v, sm_t, ev, evL, evEs, evAnd, evOr, evAndT, evOrT, evChain, evSlc, dflT, prm, two, one, bltW, bl1, bl2, negW, intOf, vD, vS, vL, conL, conD, vO, conO, truW, tgW_nm, tgW_tup, tgWs_nil, tgWs_cons, lenW, fullW, bindW_nil, kind_append, kind_extend, kind_pop, kind_popAt, kind_reverse, kind_clear, kind_insert, kind_index, kind_join, kind_split, kind_upper, kind_startswith, kind_count, isStrW, newL, newD, wipeW, sizeLine_eq, if_true, if_false, Bool.false_eq_true, not_false_eq_true, not_true_eq_false, bin_addI, bin_subI, cmp_eqI, cmp_eqT, cmp_neT, cmp_gtI, cmp_ltI, cmp_leI, int_bl, idx_t0, idx_t1, idx_l0, idx_l1, pow_25, pow_9, pow_20, List.length_cons, List.length_nil, Nat.zero_add, List.set_cons_zero, List.set_cons_succ, List.getElem?_cons_zero, List.getElem?_cons_succ]
  refine ⟨_, enum_items, RowI fs ps a b d, ⟨[], c3, none, none, none, none, none, none, rfl, rfl, rfl, Along.nil, p3⟩, ?_, ?_⟩
  · rintro i x l M hx ⟨ws, c4, x5, x6, x7, x8, x9, x10, rfl, rfl, hi, hal, p4⟩
    obtain ⟨w, hw, rfl⟩ := enum_get hx
    obtain ⟨f, hfi, rfl⟩ := fdsW_get hw
    have hfl := (List.getElem?_eq_some_iff.mp hfi).1
    have hk := hf.kind hfi
    obtain ⟨pw, hpw⟩ : ∃ pw, ps[i]? = some pw := ⟨_, List.getElem?_eq_getElem (by omega)⟩
    have hpe := hpa i f pw hfi hpw
    refine ⟨_, rfl, ?_⟩
    simp [B_law_row, D_law_row, X1_law_row, ps_law_row, fn_law_row_law_draw, ps_law_draw, WP_ok, WP_err, WP_bind, WP_ite, need_some, needS_some, res_ok, thenS_ok, WS_thenS, WS_nx, WS_rt, WS_bk, WS_ct, WS_nil, WS_cons, WS_expr, WS_asg, WS_par, WS_setSub, WS_setAtt, WS_ife, WS_ret, WS_retN, WS_ite, sm_v, sm_t, ev, evL, evEs, evAnd, evOr, evAndT, evOrT, evChain, evSlc, dflT, prm, two, one, bltW, bl1, bl2, negW, intOf, vD, vS, vL, conL, conD, vO, conO, truW, tgW_nm, tgW_tup, tgWs_nil, tgWs_cons, lenW, fullW, bindW_nil, kind_append, kind_extend, kind_pop, kind_popAt, kind_reverse, kind_clear, kind_insert, kind_index, kind_join, kind_split, kind_upper, kind_startswith, kind_count, isStrW, newL, newD, wipeW, sizeLine_eq, if_true, if_false, Bool.false_eq_true, not_false_eq_true, not_true_eq_false, bin_addI, bin_subI, cmp_eqI, cmp_eqT, cmp_neT, cmp_gtI, cmp_ltI, cmp_leI, int_bl, idx_t0, idx_t1, idx_l0, idx_l1, pow_25, pow_9, pow_20, List.length_cons, List.length_nil, Nat.zero_add, List.set_cons_zero, List.set_cons_succ, List.getElem?_cons_zero, List.getElem?_cons_succ, fdW, cmp_eqS hk sOk_counter]
    by_cases hc : f.2 = Str.ofString "counter"
    · unfold PlanE at hpe
      rw [if_pos (isC_true.mp hc)] at hpe
      obtain ⟨u, v, rfl, u1, u2, v1, v2⟩ := hpe
      simp [hc, WP_ok, WP_err, WP_bind, WP_ite, need_some, needS_some, res_ok, thenS_ok, WS_thenS, WS_nx, WS_rt, WS_bk, WS_ct, WS_nil, WS_cons, WS_expr, WS_asg, WS_par, WS_setSub, WS_setAtt, WS_ife, WS_ret, WS_retN, WS_ite, sm_v, sm_t, ev, evL, evEs, evAnd, evOr, evAndT, evOrT, evChain, evSlc, dflT, prm, two, one, bltW, bl1, bl2, negW, intOf, vD, vS, vL, conL, conD, vO, conO, truW, tgW_nm, tgW_tup, tgWs_nil, tgWs_cons, lenW, fullW, bindW_nil, kind_append, kind_extend, kind_pop, kind_popAt, kind_reverse, kind_clear, kind_insert, kind_index, kind_join, kind_split, kind_upper, kind_startswith, kind_count, isStrW, newL, newD, wipeW, sizeLine_eq, if_true, if_false, Bool.false_eq_true, not_false_eq_true, not_true_eq_false, bin_addI, bin_subI, cmp_eqI, cmp_eqT, cmp_neT, cmp_gtI, cmp_ltI, cmp_leI, int_bl, idx_t0, idx_t1, idx_l0, idx_l1, pow_25, pow_9, pow_20, List.length_cons, List.length_nil, Nat.zero_add, List.set_cons_zero, List.set_cons_succ, List.getElem?_cons_zero, List.getElem?_cons_succ, idx_lstN hpw]
      refine wp_draw rfl p4 (by decide) (by decide) fun z c5 z1 z2 p5 => ?_
      have mu : CMul v (z - 3) := .inr (by omega)
      simp only [WP_ok, WP_err, WP_bind, WP_ite, need_some, needS_some, res_ok, thenS_ok, WS_thenS, WS_nx, WS_rt, WS_bk, WS_ct, WS_nil, WS_cons, WS_expr, WS_asg, WS_par, WS_setSub, WS_setAtt, WS_ife, WS_ret, WS_retN, WS_ite, sm_v, sm_t, ev, evL, evEs, evAnd, evOr, evAndT, evOrT, evChain, evSlc, dflT, prm, two, one, bltW, bl1, bl2, negW, intOf, vD, vS, vL, conL, conD, vO, conO, truW, tgW_nm, tgW_tup, tgWs_nil, tgWs_cons, lenW, fullW, bindW_nil, kind_append, kind_extend, kind_pop, kind_popAt, kind_reverse, kind_clear, kind_insert, kind_index, kind_join, kind_split, kind_upper, kind_startswith, kind_count, isStrW, newL, newD, wipeW, sizeLine_eq, if_true, if_false, Bool.false_eq_true, not_false_eq_true, not_true_eq_false, bin_addI, bin_subI, cmp_eqI, cmp_eqT, cmp_neT, cmp_gtI, cmp_ltI, cmp_leI, int_bl, idx_t0, idx_t1, idx_l0, idx_l1, pow_25, pow_9, pow_20, List.length_cons, List.length_nil, Nat.zero_add, List.set_cons_zero, List.set_cons_succ, List.getElem?_cons_zero, List.getElem?_cons_succ, bin_mulI mu]
      rw [mth_app (M := [c5, ⟨true, .lst ws⟩]) (x := ws) rfl (by omega)]
      simp only [WP_ok, List.set_cons_zero, List.set_cons_succ, List.getElem?_cons_zero, List.getElem?_cons_succ]
      refine ⟨enum_items, _, c5, _, _, _, _, _, _, rfl, rfl, by simp [hi], hal.snoc (by rw [hi]; exact hfi) ?_, p5⟩
      unfold ValE
      rw [if_pos (isC_true.mp hc)]
      refine ⟨u + v * (z - 3), rfl, ?_, ?_⟩
      · have : -(v * 3) ≤ v * (z - 3) := by
          rw [← Int.mul_neg]
          exact Int.mul_le_mul_of_nonneg_left (by omega) v1
        have hB : B27 = 1000000000000000000000000000 := rfl
        omega
      · have : v * (z - 3) ≤ v * 3 := Int.mul_le_mul_of_nonneg_left (by omega) v1
        have hB : B27 = 1000000000000000000000000000 := rfl
        omega
    · unfold PlanE at hpe
      rw [if_neg fun h => hc (isC_true.mpr h)] at hpe
      obtain ⟨g, ss, bl, rfl, g1, g2, s1, s2, s3⟩ := hpe
      have hss : 0 < ss.length := List.length_pos_iff.mpr s1
      simp [hc, WP_ok, WP_err, WP_bind, WP_ite, need_some, needS_some, res_ok, thenS_ok, WS_thenS, WS_nx, WS_rt, WS_bk, WS_ct, WS_nil, WS_cons, WS_expr, WS_asg, WS_par, WS_setSub, WS_setAtt, WS_ife, WS_ret, WS_retN, WS_ite, sm_v, sm_t, ev, evL, evEs, evAnd, evOr, evAndT, evOrT, evChain, evSlc, dflT, prm, two, one, bltW, bl1, bl2, negW, intOf, vD, vS, vL, conL, conD, vO, conO, truW, tgW_nm, tgW_tup, tgWs_nil, tgWs_cons, lenW, fullW, bindW_nil, kind_append, kind_extend, kind_pop, kind_popAt, kind_reverse, kind_clear, kind_insert, kind_index, kind_join, kind_split, kind_upper, kind_startswith, kind_count, isStrW, newL, newD, wipeW, sizeLine_eq, if_true, if_false, Bool.false_eq_true, not_false_eq_true, not_true_eq_false, bin_addI, bin_subI, cmp_eqI, cmp_eqT, cmp_neT, cmp_gtI, cmp_ltI, cmp_leI, int_bl, idx_t0, idx_t1, idx_l0, idx_l1, pow_25, pow_9, pow_20, List.length_cons, List.length_nil, Nat.zero_add, List.set_cons_zero, List.set_cons_succ, List.getElem?_cons_zero, List.getElem?_cons_succ, idx_lstN hpw]
      have fin : ∀ (ix : Int) (c5 : Cell), Pot c5 → 0 ≤ ix → ∀ x7, WP (binW .Mod true (.int ix) (.int (ss.length : Int)) [c5, ⟨true, .lst ws⟩]) fun u M => WP (idxW (.lst (ss.map W.str)) u M) fun u M => WP (mthW .append true [.ref 1, u] M) fun x M1 =>
          itemsW .enum [.lst (fdsW fs)] M1 = some ((List.range (fdsW fs).length).zipWith (fun (i : Nat) w => .tup [.int (i : Int), w]) (fdsW fs)) ∧ RowI fs ps a b d (i + 1) [some (.ref 0), some (.lst (fdsW fs)), some (.lst ps), some (.lst [.int a, .int b, .int d]), some (.ref 1), some (.int (i : Int)), some (.tup [.str f.1, .str f.2]), x7, some (.int g), some (.lst (ss.map W.str)), some (.bl bl)] M1 := by
        intro ix c5 p5 hix x7
        rw [bin_modI (by omega)]
        have m1 := Int.emod_nonneg ix (b := (ss.length : Int)) (by omega)
        have m2 := Int.emod_lt_of_pos ix (b := (ss.length : Int)) (by omega)
        have hlt : (ix % (ss.length : Int)).toNat < ss.length := by omega
        have hat : atI (ss.map W.str) (ix % (ss.length : Int)) = some (W.str ss[(ix % (ss.length : Int)).toNat]) := by
          rw [atI_get m1 (by simpa using m2), List.getElem?_map, List.getElem?_eq_getElem hlt]
          rfl
        simp only [WP_ok, idx_lst hat]
        rw [mth_app (M := [c5, ⟨true, .lst ws⟩]) (x := ws) rfl (by omega)]
        simp only [WP_ok, List.set_cons_zero, List.set_cons_succ, List.getElem?_cons_zero, List.getElem?_cons_succ]
        refine ⟨enum_items, _, c5, _, _, _, _, _, _, rfl, rfl, by simp [hi], hal.snoc (by rw [hi]; exact hfi) ?_, p5⟩
        unfold ValE
        rw [if_neg fun h => hc (isC_true.mpr h)]
        exact ⟨_, rfl, s3 _ (List.getElem_mem hlt)⟩
      by_cases hb : bl = true
      · simp only [hb, if_true] at fin ⊢
        refine wp_draw rfl p4 (by omega) (by omega) fun z c5 z1 z2 p5 => ?_
        simp [List.set_cons_zero, List.set_cons_succ, List.getElem?_cons_zero, List.getElem?_cons_succ]
        exact fin z c5 p5 z1 _
      · simp only [hb] at fin ⊢
        simp only [Bool.false_eq_true, if_false] at fin ⊢
        obtain ⟨j, hj, ej⟩ := draw_in (L := ([.int a, .int b, .int d] : List W)) g1 g2
        have hj' : ∃ n : Int, j = .int n ∧ 0 ≤ n := by
          simp at hj
          rcases hj with rfl | rfl | rfl
          · exact ⟨_, rfl, a1⟩
          · exact ⟨_, rfl, b1⟩
          · exact ⟨_, rfl, d1⟩
        obtain ⟨n, rfl, n0⟩ := hj'
        simp [WP_ok, WP_err, WP_bind, WP_ite, need_some, needS_some, res_ok, thenS_ok, WS_thenS, WS_nx, WS_rt, WS_bk, WS_ct, WS_nil, WS_cons, WS_expr, WS_asg, WS_par, WS_setSub, WS_setAtt, WS_ife, WS_ret, WS_retN, WS_ite, sm_v, sm_t, ev, evL, evEs, evAnd, evOr, evAndT, evOrT, evChain, evSlc, dflT, prm, two, one, bltW, bl1, bl2, negW, intOf, vD, vS, vL, conL, conD, vO, conO, truW, tgW_nm, tgW_tup, tgWs_nil, tgWs_cons, lenW, fullW, bindW_nil, kind_append, kind_extend, kind_pop, kind_popAt, kind_reverse, kind_clear, kind_insert, kind_index, kind_join, kind_split, kind_upper, kind_startswith, kind_count, isStrW, newL, newD, wipeW, sizeLine_eq, if_true, if_false, Bool.false_eq_true, not_false_eq_true, not_true_eq_false, bin_addI, bin_subI, cmp_eqI, cmp_eqT, cmp_neT, cmp_gtI, cmp_ltI, cmp_leI, int_bl, idx_t0, idx_t1, idx_l0, idx_l1, pow_25, pow_9, pow_20, List.length_cons, List.length_nil, Nat.zero_add, List.set_cons_zero, List.set_cons_succ, List.getElem?_cons_zero, List.getElem?_cons_succ, idx_lst ej]
        exact fin n c4 p4 n0 _
  · rintro l M ⟨ws, c4, x5, x6, x7, x8, x9, x10, rfl, rfl, hi, hal, p4⟩
    simp [WP_ok, WP_err, WP_bind, WP_ite, need_some, needS_some, res_ok, thenS_ok, WS_thenS, WS_nx, WS_rt, WS_bk, WS_ct, WS_nil, WS_cons, WS_expr, WS_asg, WS_par, WS_setSub, WS_setAtt, WS_ife, WS_ret, WS_retN, WS_ite, sm_v, sm_t, ev, evL, evEs, evAnd, evOr, evAndT, evOrT, evChain, evSlc, dflT, prm, two, one, bltW, bl1, bl2, negW, intOf, vD, vS, vL, conL, conD, vO, conO, truW, tgW_nm, tgW_tup, tgWs_nil, tgWs_cons, lenW, fullW, bindW_nil, kind_append, kind_extend, kind_pop, kind_popAt, kind_reverse, kind_clear, kind_insert, kind_index, kind_join, kind_split, kind_upper, kind_startswith, kind_count, isStrW, newL, newD, wipeW, sizeLine_eq, if_true, if_false, Bool.false_eq_true, not_false_eq_true, not_true_eq_false, bin_addI, bin_subI, cmp_eqI, cmp_eqT, cmp_neT, cmp_gtI, cmp_ltI, cmp_leI, int_bl, idx_t0, idx_t1, idx_l0, idx_l1, pow_25, pow_9, pow_20, List.length_cons, List.length_nil, Nat.zero_add, List.set_cons_zero, List.set_cons_succ, List.getElem?_cons_zero, List.getElem?_cons_succ]
    exact ⟨ws, c4, _, rfl, rfl, ⟨by simpa [fdsW] using hi, hal⟩, p4⟩
end PyL

open PySem PySem.Spec PyProof.Rows L2 PyI
namespace PyL
def IsRow (B : Int) (fs : List Fd) (r : W) : Prop := ∃ ws, r = .tup ws ∧ RowOk B fs ws
theorem IsRow.pure {B : Int} {fs : List Fd} {r : W} (h : IsRow B fs r) : pureW r = true := by
  obtain ⟨ws, rfl, h⟩ := h
  exact h.pure
theorem IsRow.mono {B B' : Int} {fs : List Fd} {r : W} (h : IsRow B fs r) (hb : B ≤ B') : IsRow B' fs r := let ⟨ws, e, h⟩ := h; ⟨ws, e, h.mono hb⟩
theorem rows_pure {B : Int} {fs : List Fd} {rs : List W} (h : ∀ r ∈ rs, IsRow B fs r) : pureWs rs = true := pureWs_iff.mpr fun r hr => (h r hr).pure
theorem wp_row {n : Nat} {fs : List Fd} {ps : List W} {c : Cell} {M : Store} {Q : W → Store → Prop} (hn : M[n]? = some c) (pc : Pot c) (hf : FdsOk fs) (hl : fs.length ≤ 25) (hpl : ps.length = fs.length) (hpa : Along PlanE fs ps)
    (k : ∀ (r : W) (c' : Cell), IsRow B27 fs r → Pot c' → Q r (M.set n c')) : WP (callW F_law_row.sem true [.ref n, .lst (fdsW fs), .lst ps] M) Q := by
  have hp : pureWs ps = true := hpa.pure (by omega) fun _ _ => PlanE.pure
  refine wp_ref1 hn (by simp [flatW, pureW, fdsW_pure, hp]) pc.pure ((row_spec pc hf hl hpl hpa).imp ?_)
  rintro w M' ⟨ws, c', r, rfl, rfl, h1, p⟩
  refine ⟨c', r, rfl, p.pure, ?_, ?_⟩
  · rw [outW_tupP h1.pure]; exact h1.pure
  · rw [outW_tupP h1.pure]; exact k _ c' ⟨ws, rfl, h1⟩ p
def RowsP (most : Int) (fs : List Fd) (w : W) (M' : Store) : Prop := ∃ (rs : List W) (c' : Cell), w = .ref 1 ∧ M' = [c', ⟨true, .lst rs⟩] ∧ rs ≠ [] ∧ (rs.length : Int) ≤ most + 1 ∧ (∀ r ∈ rs, IsRow B27 fs r) ∧ Pot c'
def RowsI (fs : List Fd) (i : Nat) (ys : List W) (M : Store) : Prop := ∃ c', M = [c'] ∧ ys.length = i ∧ (∀ r ∈ ys, IsRow B27 fs r) ∧ Pot c'
theorem rows_spec {c : Cell} {fs : List Fd} {most far : Int} (pc : Pot c) (hf : FdsOk fs) (hl : fs.length ≤ 25) (m0 : 0 < most) (m1 : most ≤ 1000) : WP (F_law_rows.sem [.ref 0, .lst (fdsW fs), .int most, .int far] [c]) (RowsP most fs) := by
  rw [se_law_rows]; refine WP_run (show _ = _ from rfl) ?_
  simp [B_law_rows, D_law_rows, e1_law_rows, ps_law_rows, fn_law_rows_law_plan, fn_law_rows_law_draw, fn_law_rows_law_row, ps_law_plan, ps_law_draw, ps_law_row, WP_ok, WP_err, WP_bind, WP_ite, need_some, needS_some, res_ok, thenS_ok, WS_thenS, WS_nx, WS_rt, WS_bk, WS_ct, WS_nil, WS_cons, WS_expr, WS_asg, WS_par, WS_setSub, WS_setAtt, WS_ife, WS_ret, WS_retN, WS_ite, sm_v, sm_t, ev, evL, evEs, evAnd, evOr, evAndT, evOrT, evChain, evSlc, dflT, prm, two, one, bltW, bl1, bl2, negW, intOf, vD, vS, vL, conL, conD, vO, conO, truW, tgW_nm, tgW_tup, tgWs_nil, tgWs_cons, lenW, fullW, bindW_nil, kind_append, kind_extend, kind_pop, kind_popAt, kind_reverse, kind_clear, kind_insert, kind_index, kind_join, kind_split, kind_upper, kind_startswith, kind_count, isStrW, newL, newD, wipeW, sizeLine_eq, if_true, if_false, Bool.false_eq_true, not_false_eq_true, not_true_eq_false, bin_addI, bin_subI, cmp_eqI, cmp_eqT, cmp_neT, cmp_gtI, cmp_ltI, cmp_leI, int_bl, idx_t0, idx_t1, idx_l0, idx_l1, pow_25, pow_9, pow_20, List.length_cons, List.length_nil, Nat.zero_add, List.set_cons_zero, List.set_cons_succ, List.getElem?_cons_zero, List.getElem?_cons_succ]
  refine wp_plan rfl pc hf hl fun ps c1 hpl hpa p1 => ?_
  simp only [List.set_cons_zero, List.set_cons_succ, List.getElem?_cons_zero, List.getElem?_cons_succ]
  refine WP_lc ?_
  simp [B_law_rows, D_law_rows, e1_law_rows, ps_law_rows, fn_law_rows_law_plan, fn_law_rows_law_draw, fn_law_rows_law_row, ps_law_plan, ps_law_draw, ps_law_row, WP_ok, WP_err, WP_bind, WP_ite, need_some, needS_some, res_ok, thenS_ok, WS_thenS, WS_nx, WS_rt, WS_bk, WS_ct, WS_nil, WS_cons, WS_expr, WS_asg, WS_par, WS_setSub, WS_setAtt, WS_ife, WS_ret, WS_retN, WS_ite, sm_v, sm_t, ev, evL, evEs, evAnd, evOr, evAndT, evOrT, evChain, evSlc, dflT, prm, two, one, bltW, bl1, bl2, negW, intOf, vD, vS, vL, conL, conD, vO, conO, truW, tgW_nm, tgW_tup, tgWs_nil, tgWs_cons, lenW, fullW, bindW_nil, kind_append, kind_extend, kind_pop, kind_popAt, kind_reverse, kind_clear, kind_insert, kind_index, kind_join, kind_split, kind_upper, kind_startswith, kind_count, isStrW, newL, newD, wipeW, sizeLine_eq, if_true, if_false, Bool.false_eq_true, not_false_eq_true, not_true_eq_false, bin_addI, bin_subI, cmp_eqI, cmp_eqT, cmp_neT, cmp_gtI, cmp_ltI, cmp_leI, int_bl, idx_t0, idx_t1, idx_l0, idx_l1, pow_25, pow_9, pow_20, List.length_cons, List.length_nil, Nat.zero_add, List.set_cons_zero, List.set_cons_succ, List.getElem?_cons_zero, List.getElem?_cons_succ]
  refine wp_draw rfl p1 m0 (by omega) fun d c2 d0 d1 p2 => ?_
  simp [WP_ok, WP_err, WP_bind, WP_ite, need_some, needS_some, res_ok, thenS_ok, WS_thenS, WS_nx, WS_rt, WS_bk, WS_ct, WS_nil, WS_cons, WS_expr, WS_asg, WS_par, WS_setSub, WS_setAtt, WS_ife, WS_ret, WS_retN, WS_ite, sm_v, sm_t, ev, evL, evEs, evAnd, evOr, evAndT, evOrT, evChain, evSlc, dflT, prm, two, one, bltW, bl1, bl2, negW, intOf, vD, vS, vL, conL, conD, vO, conO, truW, tgW_nm, tgW_tup, tgWs_nil, tgWs_cons, lenW, fullW, bindW_nil, kind_append, kind_extend, kind_pop, kind_popAt, kind_reverse, kind_clear, kind_insert, kind_index, kind_join, kind_split, kind_upper, kind_startswith, kind_count, isStrW, newL, newD, wipeW, sizeLine_eq, if_true, if_false, Bool.false_eq_true, not_false_eq_true, not_true_eq_false, bin_addI, bin_subI, cmp_eqI, cmp_eqT, cmp_neT, cmp_gtI, cmp_ltI, cmp_leI, int_bl, idx_t0, idx_t1, idx_l0, idx_l1, pow_25, pow_9, pow_20, List.length_cons, List.length_nil, Nat.zero_add, List.set_cons_zero, List.set_cons_succ, List.getElem?_cons_zero, List.getElem?_cons_succ]
  refine ⟨_, rng_items (by omega) (by omega), by rw [sizeLine_eq]; simp; omega, RowsI fs, ⟨c2, rfl, rfl, by simp, p2⟩, ?_, ?_⟩
  · rintro i x ys M hx ⟨c3, rfl, hy, hr, p3⟩
    refine ⟨_, rfl, ?_⟩
    simp [B_law_rows, D_law_rows, e1_law_rows, ps_law_rows, fn_law_rows_law_plan, fn_law_rows_law_draw, fn_law_rows_law_row, ps_law_plan, ps_law_draw, ps_law_row, WP_ok, WP_err, WP_bind, WP_ite, need_some, needS_some, res_ok, thenS_ok, WS_thenS, WS_nx, WS_rt, WS_bk, WS_ct, WS_nil, WS_cons, WS_expr, WS_asg, WS_par, WS_setSub, WS_setAtt, WS_ife, WS_ret, WS_retN, WS_ite, sm_v, sm_t, ev, evL, evEs, evAnd, evOr, evAndT, evOrT, evChain, evSlc, dflT, prm, two, one, bltW, bl1, bl2, negW, intOf, vD, vS, vL, conL, conD, vO, conO, truW, tgW_nm, tgW_tup, tgWs_nil, tgWs_cons, lenW, fullW, bindW_nil, kind_append, kind_extend, kind_pop, kind_popAt, kind_reverse, kind_clear, kind_insert, kind_index, kind_join, kind_split, kind_upper, kind_startswith, kind_count, isStrW, newL, newD, wipeW, sizeLine_eq, if_true, if_false, Bool.false_eq_true, not_false_eq_true, not_true_eq_false, bin_addI, bin_subI, cmp_eqI, cmp_eqT, cmp_neT, cmp_gtI, cmp_ltI, cmp_leI, int_bl, idx_t0, idx_t1, idx_l0, idx_l1, pow_25, pow_9, pow_20, List.length_cons, List.length_nil, Nat.zero_add, List.set_cons_zero, List.set_cons_succ, List.getElem?_cons_zero, List.getElem?_cons_succ]
    refine wp_row rfl p3 hf hl hpl hpa fun r c4 h1 p4 => ?_
    simp only [List.set_cons_zero, List.set_cons_succ, List.getElem?_cons_zero, List.getElem?_cons_succ]
    refine ⟨rng_it (by omega) (by omega), c4, rfl, by simp [hy], fun t ht => ?_, p4⟩
    rcases List.mem_append.mp ht with h | h
    · exact hr t h
    · have : t = r := by simpa using h
      rw [this]; exact h1
  · rintro ys M hyl ⟨c3, rfl, hy, hr, p3⟩
    have hy2 : (ys.length : Int) = 1 + d := by
      rw [hy]; simp; omega
    simp [B_law_rows, D_law_rows, e1_law_rows, ps_law_rows, fn_law_rows_law_plan, fn_law_rows_law_draw, fn_law_rows_law_row, ps_law_plan, ps_law_draw, ps_law_row, WP_ok, WP_err, WP_bind, WP_ite, need_some, needS_some, res_ok, thenS_ok, WS_thenS, WS_nx, WS_rt, WS_bk, WS_ct, WS_nil, WS_cons, WS_expr, WS_asg, WS_par, WS_setSub, WS_setAtt, WS_ife, WS_ret, WS_retN, WS_ite, sm_v, sm_t, ev, evL, evEs, evAnd, evOr, evAndT, evOrT, evChain, evSlc, dflT, prm, two, one, bltW, bl1, bl2, negW, intOf, vD, vS, vL, conL, conD, vO, conO, truW, tgW_nm, tgW_tup, tgWs_nil, tgWs_cons, lenW, fullW, bindW_nil, kind_append, kind_extend, kind_pop, kind_popAt, kind_reverse, kind_clear, kind_insert, kind_index, kind_join, kind_split, kind_upper, kind_startswith, kind_count, isStrW, newL, newD, wipeW, sizeLine_eq, if_true, if_false, Bool.false_eq_true, not_false_eq_true, not_true_eq_false, bin_addI, bin_subI, cmp_eqI, cmp_eqT, cmp_neT, cmp_gtI, cmp_ltI, cmp_leI, int_bl, idx_t0, idx_t1, idx_l0, idx_l1, pow_25, pow_9, pow_20, List.length_cons, List.length_nil, Nat.zero_add, List.set_cons_zero, List.set_cons_succ, List.getElem?_cons_zero, List.getElem?_cons_succ]
    refine wp_draw rfl p3 (by decide) (by decide) fun z c4 z0 z1 p4 => ?_
    simp [WP_ok, WP_err, WP_bind, WP_ite, need_some, needS_some, res_ok, thenS_ok, WS_thenS, WS_nx, WS_rt, WS_bk, WS_ct, WS_nil, WS_cons, WS_expr, WS_asg, WS_par, WS_setSub, WS_setAtt, WS_ife, WS_ret, WS_retN, WS_ite, sm_v, sm_t, ev, evL, evEs, evAnd, evOr, evAndT, evOrT, evChain, evSlc, dflT, prm, two, one, bltW, bl1, bl2, negW, intOf, vD, vS, vL, conL, conD, vO, conO, truW, tgW_nm, tgW_tup, tgWs_nil, tgWs_cons, lenW, fullW, bindW_nil, kind_append, kind_extend, kind_pop, kind_popAt, kind_reverse, kind_clear, kind_insert, kind_index, kind_join, kind_split, kind_upper, kind_startswith, kind_count, isStrW, newL, newD, wipeW, sizeLine_eq, if_true, if_false, Bool.false_eq_true, not_false_eq_true, not_true_eq_false, bin_addI, bin_subI, cmp_eqI, cmp_eqT, cmp_neT, cmp_gtI, cmp_ltI, cmp_leI, int_bl, idx_t0, idx_t1, idx_l0, idx_l1, pow_25, pow_9, pow_20, List.length_cons, List.length_nil, Nat.zero_add, List.set_cons_zero, List.set_cons_succ, List.getElem?_cons_zero, List.getElem?_cons_succ]
    by_cases hz : z = 0
    · simp [hz, WP_ok, WP_err, WP_bind, WP_ite, need_some, needS_some, res_ok, thenS_ok, WS_thenS, WS_nx, WS_rt, WS_bk, WS_ct, WS_nil, WS_cons, WS_expr, WS_asg, WS_par, WS_setSub, WS_setAtt, WS_ife, WS_ret, WS_retN, WS_ite, sm_v, sm_t, ev, evL, evEs, evAnd, evOr, evAndT, evOrT, evChain, evSlc, dflT, prm, two, one, bltW, bl1, bl2, negW, intOf, vD, vS, vL, conL, conD, vO, conO, truW, tgW_nm, tgW_tup, tgWs_nil, tgWs_cons, lenW, fullW, bindW_nil, kind_append, kind_extend, kind_pop, kind_popAt, kind_reverse, kind_clear, kind_insert, kind_index, kind_join, kind_split, kind_upper, kind_startswith, kind_count, isStrW, newL, newD, wipeW, sizeLine_eq, if_true, if_false, Bool.false_eq_true, not_false_eq_true, not_true_eq_false, bin_addI, bin_subI, cmp_eqI, cmp_eqT, cmp_neT, cmp_gtI, cmp_ltI, cmp_leI, int_bl, idx_t0, idx_t1, idx_l0, idx_l1, pow_25, pow_9, pow_20, List.length_cons, List.length_nil, Nat.zero_add, List.set_cons_zero, List.set_cons_succ, List.getElem?_cons_zero, List.getElem?_cons_succ]
      refine wp_draw rfl p4 (by omega) (by omega) fun j c5 j0 j1 p5 => ?_
      obtain ⟨r, hr1, ej⟩ := draw_in (L := ys) j0 j1
      simp only [List.set_cons_zero, List.set_cons_succ, List.getElem?_cons_zero, List.getElem?_cons_succ]
      rw [idx_ref (M := [c5, ⟨true, .lst ys⟩]) (n := 1) rfl ej]
      simp only [WP_ok, WP_err, WP_bind, WP_ite, need_some, needS_some, res_ok, thenS_ok, WS_thenS, WS_nx, WS_rt, WS_bk, WS_ct, WS_nil, WS_cons, WS_expr, WS_asg, WS_par, WS_setSub, WS_setAtt, WS_ife, WS_ret, WS_retN, WS_ite, sm_v, sm_t, ev, evL, evEs, evAnd, evOr, evAndT, evOrT, evChain, evSlc, dflT, prm, two, one, bltW, bl1, bl2, negW, intOf, vD, vS, vL, conL, conD, vO, conO, truW, tgW_nm, tgW_tup, tgWs_nil, tgWs_cons, lenW, fullW, bindW_nil, kind_append, kind_extend, kind_pop, kind_popAt, kind_reverse, kind_clear, kind_insert, kind_index, kind_join, kind_split, kind_upper, kind_startswith, kind_count, isStrW, newL, newD, wipeW, sizeLine_eq, if_true, if_false, Bool.false_eq_true, not_false_eq_true, not_true_eq_false, bin_addI, bin_subI, cmp_eqI, cmp_eqT, cmp_neT, cmp_gtI, cmp_ltI, cmp_leI, int_bl, idx_t0, idx_t1, idx_l0, idx_l1, pow_25, pow_9, pow_20, List.length_cons, List.length_nil, Nat.zero_add, List.set_cons_zero, List.set_cons_succ, List.getElem?_cons_zero, List.getElem?_cons_succ]
      rw [mth_app (M := [c5, ⟨true, .lst ys⟩]) (x := ys) rfl (by omega)]
      simp [WP_ok, WP_err, WP_bind, WP_ite, need_some, needS_some, res_ok, thenS_ok, WS_thenS, WS_nx, WS_rt, WS_bk, WS_ct, WS_nil, WS_cons, WS_expr, WS_asg, WS_par, WS_setSub, WS_setAtt, WS_ife, WS_ret, WS_retN, WS_ite, sm_v, sm_t, ev, evL, evEs, evAnd, evOr, evAndT, evOrT, evChain, evSlc, dflT, prm, two, one, bltW, bl1, bl2, negW, intOf, vD, vS, vL, conL, conD, vO, conO, truW, tgW_nm, tgW_tup, tgWs_nil, tgWs_cons, lenW, fullW, bindW_nil, kind_append, kind_extend, kind_pop, kind_popAt, kind_reverse, kind_clear, kind_insert, kind_index, kind_join, kind_split, kind_upper, kind_startswith, kind_count, isStrW, newL, newD, wipeW, sizeLine_eq, if_true, if_false, Bool.false_eq_true, not_false_eq_true, not_true_eq_false, bin_addI, bin_subI, cmp_eqI, cmp_eqT, cmp_neT, cmp_gtI, cmp_ltI, cmp_leI, int_bl, idx_t0, idx_t1, idx_l0, idx_l1, pow_25, pow_9, pow_20, List.length_cons, List.length_nil, Nat.zero_add, List.set_cons_zero, List.set_cons_succ, List.getElem?_cons_zero, List.getElem?_cons_succ]
      refine ⟨ys ++ [r], c5, rfl, rfl, by simp, by simp; omega, fun t ht => ?_, p5⟩
      rcases List.mem_append.mp ht with h | h
      · exact hr t h
      · have : t = r := by simpa using h
        rw [this]; exact hr r hr1
    · simp [hz, WP_ok, WP_err, WP_bind, WP_ite, need_some, needS_some, res_ok, thenS_ok, WS_thenS, WS_nx, WS_rt, WS_bk, WS_ct, WS_nil, WS_cons, WS_expr, WS_asg, WS_par, WS_setSub, WS_setAtt, WS_ife, WS_ret, WS_retN, WS_ite, sm_v, sm_t, ev, evL, evEs, evAnd, evOr, evAndT, evOrT, evChain, evSlc, dflT, prm, two, one, bltW, bl1, bl2, negW, intOf, vD, vS, vL, conL, conD, vO, conO, truW, tgW_nm, tgW_tup, tgWs_nil, tgWs_cons, lenW, fullW, bindW_nil, kind_append, kind_extend, kind_pop, kind_popAt, kind_reverse, kind_clear, kind_insert, kind_index, kind_join, kind_split, kind_upper, kind_startswith, kind_count, isStrW, newL, newD, wipeW, sizeLine_eq, if_true, if_false, Bool.false_eq_true, not_false_eq_true, not_true_eq_false, bin_addI, bin_subI, cmp_eqI, cmp_eqT, cmp_neT, cmp_gtI, cmp_ltI, cmp_leI, int_bl, idx_t0, idx_t1, idx_l0, idx_l1, pow_25, pow_9, pow_20, List.length_cons, List.length_nil, Nat.zero_add, List.set_cons_zero, List.set_cons_succ, List.getElem?_cons_zero, List.getElem?_cons_succ]
      refine ⟨ys, c4, rfl, rfl, ?_, by omega, hr, p4⟩
      intro e
      subst e
      simp at hy2
      omega
theorem wp_rows {n : Nat} {fs : List Fd} {most far : Int} {c : Cell} {M : Store} {Q : W → Store → Prop} (hn : M[n]? = some c) (pc : Pot c) (hf : FdsOk fs) (hl : fs.length ≤ 25) (m0 : 0 < most) (m1 : most ≤ 1000)
    (k : ∀ (rs : List W) (c' : Cell), rs ≠ [] → (rs.length : Int) ≤ most + 1 → (∀ r ∈ rs, IsRow B27 fs r) → Pot c' → Q (.lst rs) (M.set n c')) : WP (callW F_law_rows.sem true [.ref n, .lst (fdsW fs), .int most, .int far] M) Q := by
  refine wp_ref1 hn (by simp [flatW, pureW, fdsW_pure]) pc.pure ((rows_spec pc hf hl m0 m1).imp ?_)
  rintro w M' ⟨rs, c', rfl, rfl, h1, h2, h3, p⟩
  have hp := rows_pure h3
  refine ⟨c', _, rfl, p.pure, ?_, ?_⟩
  · rw [outW_lst (b := true) (by decide) rfl hp]; exact hp
  · rw [outW_lst (b := true) (by decide) rfl hp]; exact k rs c' h1 h2 h3 p
def CaseP (a b most : Int) (w : W) (M' : Store) : Prop := ∃ (fs : List Fd) (rs : List W) (c' : Cell) (r : Store), w = .tup [.lst (fdsW fs), .lst rs] ∧ M' = c' :: r ∧ FdsOk fs ∧ fs ≠ [] ∧ fs.length ≤ 25 ∧ (cntC fs : Int) ≤ b ∧ (cntL fs : Int) ≤ max a 1 ∧ rs ≠ [] ∧ (rs.length : Int) ≤ most + 1 ∧ (∀ r ∈ rs, IsRow B27 fs r) ∧ Pot c'
theorem case_spec {c : Cell} {a b most : Int} (pc : Pot c) (a0 : 0 ≤ a) (b0 : 0 ≤ b) (hab : a + b ≤ 24) (m0 : 0 < most) (m1 : most ≤ 1000) : WP (F_law_case.sem [.ref 0, .int a, .int b, .int most] [c]) (CaseP a b most) := by
  rw [se_law_case]; refine WP_run (show _ = _ from rfl) ?_
  simp [B_law_case, D_law_case, ps_law_case, fn_law_case_law_shape, fn_law_case_law_rows, fn_law_case_law_draw, ps_law_shape, ps_law_rows, ps_law_draw, WP_ok, WP_err, WP_bind, WP_ite, need_some, needS_some, res_ok, thenS_ok, WS_thenS, WS_nx, WS_rt, WS_bk, WS_ct, WS_nil, WS_cons, WS_expr, WS_asg, WS_par, WS_setSub, WS_setAtt, WS_ife, WS_ret, WS_retN, WS_ite, sm_v, sm_t, ev, evL, evEs, evAnd, evOr, evAndT, evOrT, evChain, evSlc, dflT, prm, two, one, bltW, bl1, bl2, negW, intOf, vD, vS, vL, conL, conD, vO, conO, truW, tgW_nm, tgW_tup, tgWs_nil, tgWs_cons, lenW, fullW, bindW_nil, kind_append, kind_extend, kind_pop, kind_popAt, kind_reverse, kind_clear, kind_insert, kind_index, kind_join, kind_split, kind_upper, kind_startswith, kind_count, isStrW, newL, newD, wipeW, sizeLine_eq, if_true, if_false, Bool.false_eq_true, not_false_eq_true, not_true_eq_false, bin_addI, bin_subI, cmp_eqI, cmp_eqT, cmp_neT, cmp_gtI, cmp_ltI, cmp_leI, int_bl, idx_t0, idx_t1, idx_l0, idx_l1, pow_25, pow_9, pow_20, List.length_cons, List.length_nil, Nat.zero_add, List.set_cons_zero, List.set_cons_succ, List.getElem?_cons_zero, List.getElem?_cons_succ]
  refine wp_shape rfl pc a0 b0 hab fun fs c1 f1 f2 f3 f4 f5 p1 => ?_
  simp [B_law_case, D_law_case, ps_law_case, fn_law_case_law_shape, fn_law_case_law_rows, fn_law_case_law_draw, ps_law_shape, ps_law_rows, ps_law_draw, WP_ok, WP_err, WP_bind, WP_ite, need_some, needS_some, res_ok, thenS_ok, WS_thenS, WS_nx, WS_rt, WS_bk, WS_ct, WS_nil, WS_cons, WS_expr, WS_asg, WS_par, WS_setSub, WS_setAtt, WS_ife, WS_ret, WS_retN, WS_ite, sm_v, sm_t, ev, evL, evEs, evAnd, evOr, evAndT, evOrT, evChain, evSlc, dflT, prm, two, one, bltW, bl1, bl2, negW, intOf, vD, vS, vL, conL, conD, vO, conO, truW, tgW_nm, tgW_tup, tgWs_nil, tgWs_cons, lenW, fullW, bindW_nil, kind_append, kind_extend, kind_pop, kind_popAt, kind_reverse, kind_clear, kind_insert, kind_index, kind_join, kind_split, kind_upper, kind_startswith, kind_count, isStrW, newL, newD, wipeW, sizeLine_eq, if_true, if_false, Bool.false_eq_true, not_false_eq_true, not_true_eq_false, bin_addI, bin_subI, cmp_eqI, cmp_eqT, cmp_neT, cmp_gtI, cmp_ltI, cmp_leI, int_bl, idx_t0, idx_t1, idx_l0, idx_l1, pow_25, pow_9, pow_20, List.length_cons, List.length_nil, Nat.zero_add, List.set_cons_zero, List.set_cons_succ, List.getElem?_cons_zero, List.getElem?_cons_succ]
  refine wp_draw rfl p1 (by decide) (by decide) fun z c2 z0 z1 p2 => ?_
  simp [WP_ok, WP_err, WP_bind, WP_ite, need_some, needS_some, res_ok, thenS_ok, WS_thenS, WS_nx, WS_rt, WS_bk, WS_ct, WS_nil, WS_cons, WS_expr, WS_asg, WS_par, WS_setSub, WS_setAtt, WS_ife, WS_ret, WS_retN, WS_ite, sm_v, sm_t, ev, evL, evEs, evAnd, evOr, evAndT, evOrT, evChain, evSlc, dflT, prm, two, one, bltW, bl1, bl2, negW, intOf, vD, vS, vL, conL, conD, vO, conO, truW, tgW_nm, tgW_tup, tgWs_nil, tgWs_cons, lenW, fullW, bindW_nil, kind_append, kind_extend, kind_pop, kind_popAt, kind_reverse, kind_clear, kind_insert, kind_index, kind_join, kind_split, kind_upper, kind_startswith, kind_count, isStrW, newL, newD, wipeW, sizeLine_eq, if_true, if_false, Bool.false_eq_true, not_false_eq_true, not_true_eq_false, bin_addI, bin_subI, cmp_eqI, cmp_eqT, cmp_neT, cmp_gtI, cmp_ltI, cmp_leI, int_bl, idx_t0, idx_t1, idx_l0, idx_l1, pow_25, pow_9, pow_20, List.length_cons, List.length_nil, Nat.zero_add, List.set_cons_zero, List.set_cons_succ, List.getElem?_cons_zero, List.getElem?_cons_succ]
  refine wp_rows rfl p2 f1 f3 m0 m1 fun rs c3 r1 r2 r3 p3 => ?_
  simp [WP_ok, WP_err, WP_bind, WP_ite, need_some, needS_some, res_ok, thenS_ok, WS_thenS, WS_nx, WS_rt, WS_bk, WS_ct, WS_nil, WS_cons, WS_expr, WS_asg, WS_par, WS_setSub, WS_setAtt, WS_ife, WS_ret, WS_retN, WS_ite, sm_v, sm_t, ev, evL, evEs, evAnd, evOr, evAndT, evOrT, evChain, evSlc, dflT, prm, two, one, bltW, bl1, bl2, negW, intOf, vD, vS, vL, conL, conD, vO, conO, truW, tgW_nm, tgW_tup, tgWs_nil, tgWs_cons, lenW, fullW, bindW_nil, kind_append, kind_extend, kind_pop, kind_popAt, kind_reverse, kind_clear, kind_insert, kind_index, kind_join, kind_split, kind_upper, kind_startswith, kind_count, isStrW, newL, newD, wipeW, sizeLine_eq, if_true, if_false, Bool.false_eq_true, not_false_eq_true, not_true_eq_false, bin_addI, bin_subI, cmp_eqI, cmp_eqT, cmp_neT, cmp_gtI, cmp_ltI, cmp_leI, int_bl, idx_t0, idx_t1, idx_l0, idx_l1, pow_25, pow_9, pow_20, List.length_cons, List.length_nil, Nat.zero_add, List.set_cons_zero, List.set_cons_succ, List.getElem?_cons_zero, List.getElem?_cons_succ]
  exact ⟨fs, rs, c3, [], rfl, rfl, f1, f2, f3, f4, f5, r1, r2, r3, p3⟩
theorem wp_case {n : Nat} {a b most : Int} {c : Cell} {M : Store} {Q : W → Store → Prop} (hn : M[n]? = some c) (pc : Pot c) (a0 : 0 ≤ a) (b0 : 0 ≤ b) (hab : a + b ≤ 24) (m0 : 0 < most) (m1 : most ≤ 1000)
    (k : ∀ (fs : List Fd) (rs : List W) (c' : Cell), FdsOk fs → fs ≠ [] → fs.length ≤ 25 → (cntC fs : Int) ≤ b → (cntL fs : Int) ≤ max a 1 → rs ≠ [] → (rs.length : Int) ≤ most + 1 → (∀ r ∈ rs, IsRow B27 fs r) → Pot c' → Q (.tup [.lst (fdsW fs), .lst rs]) (M.set n c')) : WP (callW F_law_case.sem true [.ref n, .int a, .int b, .int most] M) Q := by
  refine wp_ref1 hn rfl pc.pure ((case_spec pc a0 b0 hab m0 m1).imp ?_)
  rintro w M' ⟨fs, rs, c', r, rfl, rfl, f1, f2, f3, f4, f5, r1, r2, r3, p⟩
  have hp : pureWs [W.lst (fdsW fs), .lst rs] = true := by simp [pureWs, pureW, fdsW_pure, rows_pure r3]
  refine ⟨c', r, rfl, p.pure, ?_, ?_⟩
  · rw [outW_tupP hp]; exact hp
  · rw [outW_tupP hp]; exact k fs rs c' f1 f2 f3 f4 f5 r1 r2 r3 p
/-- one of a list's values -/
def AmongP (rs : List W) (w : W) (M' : Store) : Prop := ∃ (c' : Cell) (r : Store), w ∈ rs ∧ M' = c' :: r ∧ Pot c'
theorem among_spec {c : Cell} {rs : List W} (pc : Pot c) (h0 : rs ≠ []) (hl : rs.length ≤ 100000) : WP (F_law_among.sem [.ref 0, .lst rs] [c]) (AmongP rs) := by
  have hpos : 0 < rs.length := List.length_pos_iff.mpr h0
  rw [se_law_among]; refine WP_run (show _ = _ from rfl) ?_
  simp [B_law_among, D_law_among, ps_law_among, fn_law_among_law_draw, ps_law_draw, WP_ok, WP_err, WP_bind, WP_ite, need_some, needS_some, res_ok, thenS_ok, WS_thenS, WS_nx, WS_rt, WS_bk, WS_ct, WS_nil, WS_cons, WS_expr, WS_asg, WS_par, WS_setSub, WS_setAtt, WS_ife, WS_ret, WS_retN, WS_ite, sm_v, sm_t, ev, evL, evEs, evAnd, evOr, evAndT, evOrT, evChain, evSlc, dflT, prm, two, one, bltW, bl1, bl2, negW, intOf, vD, vS, vL, conL, conD, vO, conO, truW, tgW_nm, tgW_tup, tgWs_nil, tgWs_cons, lenW, fullW, bindW_nil, kind_append, kind_extend, kind_pop, kind_popAt, kind_reverse, kind_clear, kind_insert, kind_index, kind_join, kind_split, kind_upper, kind_startswith, kind_count, isStrW, newL, newD, wipeW, sizeLine_eq, if_true, if_false, Bool.false_eq_true, not_false_eq_true, not_true_eq_false, bin_addI, bin_subI, cmp_eqI, cmp_eqT, cmp_neT, cmp_gtI, cmp_ltI, cmp_leI, int_bl, idx_t0, idx_t1, idx_l0, idx_l1, pow_25, pow_9, pow_20, List.length_cons, List.length_nil, Nat.zero_add, List.set_cons_zero, List.set_cons_succ, List.getElem?_cons_zero, List.getElem?_cons_succ]
  refine wp_draw rfl pc (by omega) (by omega) fun d c1 d0 d1 p1 => ?_
  obtain ⟨r, hr1, ej⟩ := draw_in (L := rs) d0 d1
  simp only [WP_ok, WP_err, WP_bind, WP_ite, need_some, needS_some, res_ok, thenS_ok, WS_thenS, WS_nx, WS_rt, WS_bk, WS_ct, WS_nil, WS_cons, WS_expr, WS_asg, WS_par, WS_setSub, WS_setAtt, WS_ife, WS_ret, WS_retN, WS_ite, sm_v, sm_t, ev, evL, evEs, evAnd, evOr, evAndT, evOrT, evChain, evSlc, dflT, prm, two, one, bltW, bl1, bl2, negW, intOf, vD, vS, vL, conL, conD, vO, conO, truW, tgW_nm, tgW_tup, tgWs_nil, tgWs_cons, lenW, fullW, bindW_nil, kind_append, kind_extend, kind_pop, kind_popAt, kind_reverse, kind_clear, kind_insert, kind_index, kind_join, kind_split, kind_upper, kind_startswith, kind_count, isStrW, newL, newD, wipeW, sizeLine_eq, if_true, if_false, Bool.false_eq_true, not_false_eq_true, not_true_eq_false, bin_addI, bin_subI, cmp_eqI, cmp_eqT, cmp_neT, cmp_gtI, cmp_ltI, cmp_leI, int_bl, idx_t0, idx_t1, idx_l0, idx_l1, pow_25, pow_9, pow_20, List.length_cons, List.length_nil, Nat.zero_add, List.set_cons_zero, List.set_cons_succ, List.getElem?_cons_zero, List.getElem?_cons_succ, idx_lst ej]
  exact ⟨c1, [], hr1, rfl, p1⟩
theorem wp_among {n : Nat} {rs : List W} {c : Cell} {M : Store} {Q : W → Store → Prop} (hn : M[n]? = some c) (pc : Pot c) (h0 : rs ≠ []) (hl : rs.length ≤ 100000) (hp : pureWs rs = true) (k : ∀ (r : W) (c' : Cell), r ∈ rs → Pot c' → Q r (M.set n c')) : WP (callW F_law_among.sem true [.ref n, .lst rs] M) Q := by
  refine wp_ref1 hn (by simp [flatW, pureW, hp]) pc.pure ((among_spec pc h0 hl).imp ?_)
  rintro w M' ⟨c', r, hw, rfl, p⟩
  have hpw := pureWs_iff.mp hp w hw
  exact ⟨c', r, rfl, p.pure, by rw [outW_pure hpw]; exact hpw, by rw [outW_pure hpw]; exact k w c' hw p⟩
end PyL

open PySem PySem.Spec PyProof.Rows L2 PyI
namespace PyL
/-! ### names, kinds, values -/
theorem isname_spec {s : Str} (hs : s.length ≤ 1000) : WP (F_is_name.sem [.str s] []) fun w _ => w = .bl (wordB s) := by
  have hz : s.length ≤ 16777216 := by omega
  rw [se_is_name]; refine WP_run (show _ = _ from rfl) ?_
  by_cases h : 1 ≤ s.length ∧ s.length ≤ 8
  · have h1 : (1 : Int) ≤ (s.length : Int) := by omega
    have h2 : (s.length : Int) ≤ 8 := by omega
    simp [B_is_name, D_is_name, e1_is_name, ps_is_name, co_is_name_MOST_LETTERS, co_is_name_LETTERS, WP_ok, WP_err, WP_bind, WP_ite, need_some, needS_some, res_ok, thenS_ok, WS_thenS, WS_nx, WS_rt, WS_bk, WS_ct, WS_nil, WS_cons, WS_expr, WS_asg, WS_par, WS_setSub, WS_setAtt, WS_ife, WS_ret, WS_retN, WS_ite, sm_v, sm_t, ev, evL, evEs, evAnd, evOr, evAndT, evOrT, evChain, evSlc, dflT, prm, two, one, bltW, bl1, bl2, negW, intOf, vD, vS, vL, conL, conD, vO, conO, truW, tgW_nm, tgW_tup, tgWs_nil, tgWs_cons, lenW, fullW, bindW_nil, kind_append, kind_extend, kind_pop, kind_popAt, kind_reverse, kind_clear, kind_insert, kind_index, kind_join, kind_split, kind_upper, kind_startswith, kind_count, isStrW, newL, newD, wipeW, sizeLine_eq, if_true, if_false, Bool.false_eq_true, not_false_eq_true, not_true_eq_false, bin_addI, bin_subI, cmp_eqI, cmp_eqT, cmp_neT, cmp_gtI, cmp_ltI, cmp_leI, int_bl, idx_t0, idx_t1, idx_l0, idx_l1, pow_25, pow_9, pow_20, List.length_cons, List.length_nil, Nat.zero_add, List.set_cons_zero, List.set_cons_succ, List.getElem?_cons_zero, List.getElem?_cons_succ, tyW, isiAll, isiOne, ask_str, hz, h1, h2]
    refine WP_lcMap (fun x => .bl (letB x)) ?_
    simp [WP_ok, WP_err, WP_bind, WP_ite, need_some, needS_some, res_ok, thenS_ok, WS_thenS, WS_nx, WS_rt, WS_bk, WS_ct, WS_nil, WS_cons, WS_expr, WS_asg, WS_par, WS_setSub, WS_setAtt, WS_ife, WS_ret, WS_retN, WS_ite, sm_v, sm_t, ev, evL, evEs, evAnd, evOr, evAndT, evOrT, evChain, evSlc, dflT, prm, two, one, bltW, bl1, bl2, negW, intOf, vD, vS, vL, conL, conD, vO, conO, truW, tgW_nm, tgW_tup, tgWs_nil, tgWs_cons, lenW, fullW, bindW_nil, kind_append, kind_extend, kind_pop, kind_popAt, kind_reverse, kind_clear, kind_insert, kind_index, kind_join, kind_split, kind_upper, kind_startswith, kind_count, isStrW, newL, newD, wipeW, sizeLine_eq, if_true, if_false, Bool.false_eq_true, not_false_eq_true, not_true_eq_false, bin_addI, bin_subI, cmp_eqI, cmp_eqT, cmp_neT, cmp_gtI, cmp_ltI, cmp_leI, int_bl, idx_t0, idx_t1, idx_l0, idx_l1, pow_25, pow_9, pow_20, List.length_cons, List.length_nil, Nat.zero_add, List.set_cons_zero, List.set_cons_succ, List.getElem?_cons_zero, List.getElem?_cons_succ]
    refine ⟨chars s, rfl, by rw [sizeLine_eq]; simp [chars]; exact hz, fun x hx => ?_, ?_⟩
    · simp only [chars, List.mem_map] at hx
      obtain ⟨ch, _, rfl⟩ := hx
      refine ⟨_, rfl, ?_⟩
      simp [B_is_name, D_is_name, e1_is_name, ps_is_name, co_is_name_MOST_LETTERS, co_is_name_LETTERS, WP_ok, WP_err, WP_bind, WP_ite, need_some, needS_some, res_ok, thenS_ok, WS_thenS, WS_nx, WS_rt, WS_bk, WS_ct, WS_nil, WS_cons, WS_expr, WS_asg, WS_par, WS_setSub, WS_setAtt, WS_ife, WS_ret, WS_retN, WS_ite, sm_v, sm_t, ev, evL, evEs, evAnd, evOr, evAndT, evOrT, evChain, evSlc, dflT, prm, two, one, bltW, bl1, bl2, negW, intOf, vD, vS, vL, conL, conD, vO, conO, truW, tgW_nm, tgW_tup, tgWs_nil, tgWs_cons, lenW, fullW, bindW_nil, kind_append, kind_extend, kind_pop, kind_popAt, kind_reverse, kind_clear, kind_insert, kind_index, kind_join, kind_split, kind_upper, kind_startswith, kind_count, isStrW, newL, newD, wipeW, sizeLine_eq, if_true, if_false, Bool.false_eq_true, not_false_eq_true, not_true_eq_false, bin_addI, bin_subI, cmp_eqI, cmp_eqT, cmp_neT, cmp_gtI, cmp_ltI, cmp_leI, int_bl, idx_t0, idx_t1, idx_l0, idx_l1, pow_25, pow_9, pow_20, List.length_cons, List.length_nil, Nat.zero_add, List.set_cons_zero, List.set_cons_succ, List.getElem?_cons_zero, List.getElem?_cons_succ, cmpW, inW, letB]
    · have bm : ∀ xs : List W, blsOf (xs.map fun x => .bl (letB x)) = some (xs.map letB) := by
        intro xs
        induction xs with
        | nil => rfl
        | cons x xs ih => simp [blsOf, ih]
      simp [WP_ok, WP_err, WP_bind, WP_ite, need_some, needS_some, res_ok, thenS_ok, WS_thenS, WS_nx, WS_rt, WS_bk, WS_ct, WS_nil, WS_cons, WS_expr, WS_asg, WS_par, WS_setSub, WS_setAtt, WS_ife, WS_ret, WS_retN, WS_ite, sm_v, sm_t, ev, evL, evEs, evAnd, evOr, evAndT, evOrT, evChain, evSlc, dflT, prm, two, one, bltW, bl1, bl2, negW, intOf, vD, vS, vL, conL, conD, vO, conO, truW, tgW_nm, tgW_tup, tgWs_nil, tgWs_cons, lenW, fullW, bindW_nil, kind_append, kind_extend, kind_pop, kind_popAt, kind_reverse, kind_clear, kind_insert, kind_index, kind_join, kind_split, kind_upper, kind_startswith, kind_count, isStrW, newL, newD, wipeW, sizeLine_eq, if_true, if_false, Bool.false_eq_true, not_false_eq_true, not_true_eq_false, bin_addI, bin_subI, cmp_eqI, cmp_eqT, cmp_neT, cmp_gtI, cmp_ltI, cmp_leI, int_bl, idx_t0, idx_t1, idx_l0, idx_l1, pow_25, pow_9, pow_20, List.length_cons, List.length_nil, Nat.zero_add, List.set_cons_zero, List.set_cons_succ, List.getElem?_cons_zero, List.getElem?_cons_succ, blsW, bm, wordB, h]
  · have h3 : wordB s = false := by unfold wordB; simp; intro a b; exact absurd ⟨a, b⟩ h
    have h1 : ¬ ((1 : Int) ≤ (s.length : Int)) ∨ ((1 : Int) ≤ (s.length : Int) ∧ ¬ ((s.length : Int) ≤ 8)) := by omega
    rcases h1 with h1 | ⟨h1, h2⟩
    · simp [B_is_name, D_is_name, e1_is_name, ps_is_name, co_is_name_MOST_LETTERS, co_is_name_LETTERS, WP_ok, WP_err, WP_bind, WP_ite, need_some, needS_some, res_ok, thenS_ok, WS_thenS, WS_nx, WS_rt, WS_bk, WS_ct, WS_nil, WS_cons, WS_expr, WS_asg, WS_par, WS_setSub, WS_setAtt, WS_ife, WS_ret, WS_retN, WS_ite, sm_v, sm_t, ev, evL, evEs, evAnd, evOr, evAndT, evOrT, evChain, evSlc, dflT, prm, two, one, bltW, bl1, bl2, negW, intOf, vD, vS, vL, conL, conD, vO, conO, truW, tgW_nm, tgW_tup, tgWs_nil, tgWs_cons, lenW, fullW, bindW_nil, kind_append, kind_extend, kind_pop, kind_popAt, kind_reverse, kind_clear, kind_insert, kind_index, kind_join, kind_split, kind_upper, kind_startswith, kind_count, isStrW, newL, newD, wipeW, sizeLine_eq, if_true, if_false, Bool.false_eq_true, not_false_eq_true, not_true_eq_false, bin_addI, bin_subI, cmp_eqI, cmp_eqT, cmp_neT, cmp_gtI, cmp_ltI, cmp_leI, int_bl, idx_t0, idx_t1, idx_l0, idx_l1, pow_25, pow_9, pow_20, List.length_cons, List.length_nil, Nat.zero_add, List.set_cons_zero, List.set_cons_succ, List.getElem?_cons_zero, List.getElem?_cons_succ, tyW, isiAll, isiOne, ask_str, hz, h1, h3]
    · simp [B_is_name, D_is_name, e1_is_name, ps_is_name, co_is_name_MOST_LETTERS, co_is_name_LETTERS, WP_ok, WP_err, WP_bind, WP_ite, need_some, needS_some, res_ok, thenS_ok, WS_thenS, WS_nx, WS_rt, WS_bk, WS_ct, WS_nil, WS_cons, WS_expr, WS_asg, WS_par, WS_setSub, WS_setAtt, WS_ife, WS_ret, WS_retN, WS_ite, sm_v, sm_t, ev, evL, evEs, evAnd, evOr, evAndT, evOrT, evChain, evSlc, dflT, prm, two, one, bltW, bl1, bl2, negW, intOf, vD, vS, vL, conL, conD, vO, conO, truW, tgW_nm, tgW_tup, tgWs_nil, tgWs_cons, lenW, fullW, bindW_nil, kind_append, kind_extend, kind_pop, kind_popAt, kind_reverse, kind_clear, kind_insert, kind_index, kind_join, kind_split, kind_upper, kind_startswith, kind_count, isStrW, newL, newD, wipeW, sizeLine_eq, if_true, if_false, Bool.false_eq_true, not_false_eq_true, not_true_eq_false, bin_addI, bin_subI, cmp_eqI, cmp_eqT, cmp_neT, cmp_gtI, cmp_ltI, cmp_leI, int_bl, idx_t0, idx_t1, idx_l0, idx_l1, pow_25, pow_9, pow_20, List.length_cons, List.length_nil, Nat.zero_add, List.set_cons_zero, List.set_cons_succ, List.getElem?_cons_zero, List.getElem?_cons_succ, tyW, isiAll, isiOne, ask_str, hz, h1, h2, h3]
theorem wp_isname {s : Str} {M : Store} {Q : W → Store → Prop} (hs : s.length ≤ 1000) (k : Q (.bl (wordB s)) M) : WP (callW F_is_name.sem true [.str s] M) Q :=
  wp_flat rfl ((isname_spec hs).imp fun w _ e => by rw [e]; exact ⟨rfl, k⟩)
theorem wp_isint {i : Int} {M : Store} {Q : W → Store → Prop} (k : Q (.bl true) M) : WP (callW F_is_integer.sem true [.int i] M) Q := by
  refine wp_flat rfl ?_
  rw [se_is_integer]; refine WP_run (show _ = _ from rfl) ?_
  simp [B_is_integer, D_is_integer, ps_is_integer, WP_ok, WP_err, WP_bind, WP_ite, need_some, needS_some, res_ok, thenS_ok, WS_thenS, WS_nx, WS_rt, WS_bk, WS_ct, WS_nil, WS_cons, WS_expr, WS_asg, WS_par, WS_setSub, WS_setAtt, WS_ife, WS_ret, WS_retN, WS_ite, sm_v, sm_t, ev, evL, evEs, evAnd, evOr, evAndT, evOrT, evChain, evSlc, dflT, prm, two, one, bltW, bl1, bl2, negW, intOf, vD, vS, vL, conL, conD, vO, conO, truW, tgW_nm, tgW_tup, tgWs_nil, tgWs_cons, lenW, fullW, bindW_nil, kind_append, kind_extend, kind_pop, kind_popAt, kind_reverse, kind_clear, kind_insert, kind_index, kind_join, kind_split, kind_upper, kind_startswith, kind_count, isStrW, newL, newD, wipeW, sizeLine_eq, if_true, if_false, Bool.false_eq_true, not_false_eq_true, not_true_eq_false, bin_addI, bin_subI, cmp_eqI, cmp_eqT, cmp_neT, cmp_gtI, cmp_ltI, cmp_leI, int_bl, idx_t0, idx_t1, idx_l0, idx_l1, pow_25, pow_9, pow_20, List.length_cons, List.length_nil, Nat.zero_add, List.set_cons_zero, List.set_cons_succ, List.getElem?_cons_zero, List.getElem?_cons_succ, tyW, isiAll, isiOne, ask_int, ask_bool, pureW, k]
theorem wp_isvalue {B : Int} {kd : Str} {w : W} {M : Store} {Q : W → Store → Prop} (h : ValE B kd w) (k : Q (.bl true) M) : WP (callW F_is_value.sem true [.str kd, w] M) Q := by
  refine wp_flat (by simp [flatW, pureW, h.pure]) ?_
  rw [se_is_value]; refine WP_run (show _ = _ from rfl) ?_
  simp [B_is_value, D_is_value, ps_is_value, fn_is_value_is_integer, fn_is_value_is_name, ps_is_integer, ps_is_name, co_is_value_COUNTER, WP_ok, WP_err, WP_bind, WP_ite, need_some, needS_some, res_ok, thenS_ok, WS_thenS, WS_nx, WS_rt, WS_bk, WS_ct, WS_nil, WS_cons, WS_expr, WS_asg, WS_par, WS_setSub, WS_setAtt, WS_ife, WS_ret, WS_retN, WS_ite, sm_v, sm_t, ev, evL, evEs, evAnd, evOr, evAndT, evOrT, evChain, evSlc, dflT, prm, two, one, bltW, bl1, bl2, negW, intOf, vD, vS, vL, conL, conD, vO, conO, truW, tgW_nm, tgW_tup, tgWs_nil, tgWs_cons, lenW, fullW, bindW_nil, kind_append, kind_extend, kind_pop, kind_popAt, kind_reverse, kind_clear, kind_insert, kind_index, kind_join, kind_split, kind_upper, kind_startswith, kind_count, isStrW, newL, newD, wipeW, sizeLine_eq, if_true, if_false, Bool.false_eq_true, not_false_eq_true, not_true_eq_false, bin_addI, bin_subI, cmp_eqI, cmp_eqT, cmp_neT, cmp_gtI, cmp_ltI, cmp_leI, int_bl, idx_t0, idx_t1, idx_l0, idx_l1, pow_25, pow_9, pow_20, List.length_cons, List.length_nil, Nat.zero_add, List.set_cons_zero, List.set_cons_succ, List.getElem?_cons_zero, List.getElem?_cons_succ]
  unfold ValE at h
  by_cases hc : kd = Str.ofString "counter"
  · rw [if_pos (isC_true.mp hc)] at h
    obtain ⟨a, rfl, _⟩ := h
    simp [hc, WP_ok, WP_err, WP_bind, WP_ite, need_some, needS_some, res_ok, thenS_ok, WS_thenS, WS_nx, WS_rt, WS_bk, WS_ct, WS_nil, WS_cons, WS_expr, WS_asg, WS_par, WS_setSub, WS_setAtt, WS_ife, WS_ret, WS_retN, WS_ite, sm_v, sm_t, ev, evL, evEs, evAnd, evOr, evAndT, evOrT, evChain, evSlc, dflT, prm, two, one, bltW, bl1, bl2, negW, intOf, vD, vS, vL, conL, conD, vO, conO, truW, tgW_nm, tgW_tup, tgWs_nil, tgWs_cons, lenW, fullW, bindW_nil, kind_append, kind_extend, kind_pop, kind_popAt, kind_reverse, kind_clear, kind_insert, kind_index, kind_join, kind_split, kind_upper, kind_startswith, kind_count, isStrW, newL, newD, wipeW, sizeLine_eq, if_true, if_false, Bool.false_eq_true, not_false_eq_true, not_true_eq_false, bin_addI, bin_subI, cmp_eqI, cmp_eqT, cmp_neT, cmp_gtI, cmp_ltI, cmp_leI, int_bl, idx_t0, idx_t1, idx_l0, idx_l1, pow_25, pow_9, pow_20, List.length_cons, List.length_nil, Nat.zero_add, List.set_cons_zero, List.set_cons_succ, List.getElem?_cons_zero, List.getElem?_cons_succ]
    refine wp_isint ?_
    exact ⟨rfl, k⟩
  · rw [if_neg fun h => hc (isC_true.mpr h)] at h
    obtain ⟨s, rfl, hs⟩ := h
    simp [hc, WP_ok, WP_err, WP_bind, WP_ite, need_some, needS_some, res_ok, thenS_ok, WS_thenS, WS_nx, WS_rt, WS_bk, WS_ct, WS_nil, WS_cons, WS_expr, WS_asg, WS_par, WS_setSub, WS_setAtt, WS_ife, WS_ret, WS_retN, WS_ite, sm_v, sm_t, ev, evL, evEs, evAnd, evOr, evAndT, evOrT, evChain, evSlc, dflT, prm, two, one, bltW, bl1, bl2, negW, intOf, vD, vS, vL, conL, conD, vO, conO, truW, tgW_nm, tgW_tup, tgWs_nil, tgWs_cons, lenW, fullW, bindW_nil, kind_append, kind_extend, kind_pop, kind_popAt, kind_reverse, kind_clear, kind_insert, kind_index, kind_join, kind_split, kind_upper, kind_startswith, kind_count, isStrW, newL, newD, wipeW, sizeLine_eq, if_true, if_false, Bool.false_eq_true, not_false_eq_true, not_true_eq_false, bin_addI, bin_subI, cmp_eqI, cmp_eqT, cmp_neT, cmp_gtI, cmp_ltI, cmp_leI, int_bl, idx_t0, idx_t1, idx_l0, idx_l1, pow_25, pow_9, pow_20, List.length_cons, List.length_nil, Nat.zero_add, List.set_cons_zero, List.set_cons_succ, List.getElem?_cons_zero, List.getElem?_cons_succ]
    refine wp_isname (by have := hs.most; omega) ?_
    rw [hs.b]
    exact ⟨rfl, k⟩
theorem sch_len {fs : List Fd} {M : Store} {Q : W → Store → Prop} (hl : fs.length ≤ 1000) (k : Q (.int (fs.length : Int)) M) : WP (callW F_Schema___len.sem true [schW fs] M) Q := by
  refine wp_flat (by simp [flatW, schW_pure]) ?_
  rw [se_Schema___len]; refine WP_run (show _ = _ from rfl) ?_
  simp [B_Schema___len, D_Schema___len, ps_Schema___len, fl_Schema___len_Schema_field_list, WP_ok, WP_err, WP_bind, WP_ite, need_some, needS_some, res_ok, thenS_ok, WS_thenS, WS_nx, WS_rt, WS_bk, WS_ct, WS_nil, WS_cons, WS_expr, WS_asg, WS_par, WS_setSub, WS_setAtt, WS_ife, WS_ret, WS_retN, WS_ite, sm_v, sm_t, ev, evL, evEs, evAnd, evOr, evAndT, evOrT, evChain, evSlc, dflT, prm, two, one, bltW, bl1, bl2, negW, intOf, vD, vS, vL, conL, conD, vO, conO, truW, tgW_nm, tgW_tup, tgWs_nil, tgWs_cons, lenW, fullW, bindW_nil, kind_append, kind_extend, kind_pop, kind_popAt, kind_reverse, kind_clear, kind_insert, kind_index, kind_join, kind_split, kind_upper, kind_startswith, kind_count, isStrW, newL, newD, wipeW, sizeLine_eq, if_true, if_false, Bool.false_eq_true, not_false_eq_true, not_true_eq_false, bin_addI, bin_subI, cmp_eqI, cmp_eqT, cmp_neT, cmp_gtI, cmp_ltI, cmp_leI, int_bl, idx_t0, idx_t1, idx_l0, idx_l1, pow_25, pow_9, pow_20, List.length_cons, List.length_nil, Nat.zero_add, List.set_cons_zero, List.set_cons_succ, List.getElem?_cons_zero, List.getElem?_cons_succ]
  simp only [schW, WP_ok, WP_err, WP_bind, WP_ite, need_some, needS_some, res_ok, thenS_ok, WS_thenS, WS_nx, WS_rt, WS_bk, WS_ct, WS_nil, WS_cons, WS_expr, WS_asg, WS_par, WS_setSub, WS_setAtt, WS_ife, WS_ret, WS_retN, WS_ite, sm_v, sm_t, ev, evL, evEs, evAnd, evOr, evAndT, evOrT, evChain, evSlc, dflT, prm, two, one, bltW, bl1, bl2, negW, intOf, vD, vS, vL, conL, conD, vO, conO, truW, tgW_nm, tgW_tup, tgWs_nil, tgWs_cons, lenW, fullW, bindW_nil, kind_append, kind_extend, kind_pop, kind_popAt, kind_reverse, kind_clear, kind_insert, kind_index, kind_join, kind_split, kind_upper, kind_startswith, kind_count, isStrW, newL, newD, wipeW, sizeLine_eq, if_true, if_false, Bool.false_eq_true, not_false_eq_true, not_true_eq_false, bin_addI, bin_subI, cmp_eqI, cmp_eqT, cmp_neT, cmp_gtI, cmp_ltI, cmp_leI, int_bl, idx_t0, idx_t1, idx_l0, idx_l1, pow_25, pow_9, pow_20, List.length_cons, List.length_nil, Nat.zero_add, List.set_cons_zero, List.set_cons_succ, List.getElem?_cons_zero, List.getElem?_cons_succ]
  simp [WP_ok, WP_err, WP_bind, WP_ite, need_some, needS_some, res_ok, thenS_ok, WS_thenS, WS_nx, WS_rt, WS_bk, WS_ct, WS_nil, WS_cons, WS_expr, WS_asg, WS_par, WS_setSub, WS_setAtt, WS_ife, WS_ret, WS_retN, WS_ite, sm_v, sm_t, ev, evL, evEs, evAnd, evOr, evAndT, evOrT, evChain, evSlc, dflT, prm, two, one, bltW, bl1, bl2, negW, intOf, vD, vS, vL, conL, conD, vO, conO, truW, tgW_nm, tgW_tup, tgWs_nil, tgWs_cons, lenW, fullW, bindW_nil, kind_append, kind_extend, kind_pop, kind_popAt, kind_reverse, kind_clear, kind_insert, kind_index, kind_join, kind_split, kind_upper, kind_startswith, kind_count, isStrW, newL, newD, wipeW, sizeLine_eq, if_true, if_false, Bool.false_eq_true, not_false_eq_true, not_true_eq_false, bin_addI, bin_subI, cmp_eqI, cmp_eqT, cmp_neT, cmp_gtI, cmp_ltI, cmp_leI, int_bl, idx_t0, idx_t1, idx_l0, idx_l1, pow_25, pow_9, pow_20, List.length_cons, List.length_nil, Nat.zero_add, List.set_cons_zero, List.set_cons_succ, List.getElem?_cons_zero, List.getElem?_cons_succ, pureW, fdsW, fl_Schema___len_Schema_field_list, k]
theorem wp_schfields {fs : List Fd} {M : Store} {Q : W → Store → Prop} (k : Q (.lst (fdsW fs)) M) : WP (callW F_Schema_fields.sem true [schW fs] M) Q := by
  refine wp_flat (by simp [flatW, schW_pure]) ?_
  rw [se_Schema_fields]; refine WP_run (show _ = _ from rfl) ?_
  simp [B_Schema_fields, D_Schema_fields, ps_Schema_fields, fl_Schema_fields_Schema_field_list, WP_ok, WP_err, WP_bind, WP_ite, need_some, needS_some, res_ok, thenS_ok, WS_thenS, WS_nx, WS_rt, WS_bk, WS_ct, WS_nil, WS_cons, WS_expr, WS_asg, WS_par, WS_setSub, WS_setAtt, WS_ife, WS_ret, WS_retN, WS_ite, sm_v, sm_t, ev, evL, evEs, evAnd, evOr, evAndT, evOrT, evChain, evSlc, dflT, prm, two, one, bltW, bl1, bl2, negW, intOf, vD, vS, vL, conL, conD, vO, conO, truW, tgW_nm, tgW_tup, tgWs_nil, tgWs_cons, lenW, fullW, bindW_nil, kind_append, kind_extend, kind_pop, kind_popAt, kind_reverse, kind_clear, kind_insert, kind_index, kind_join, kind_split, kind_upper, kind_startswith, kind_count, isStrW, newL, newD, wipeW, sizeLine_eq, if_true, if_false, Bool.false_eq_true, not_false_eq_true, not_true_eq_false, bin_addI, bin_subI, cmp_eqI, cmp_eqT, cmp_neT, cmp_gtI, cmp_ltI, cmp_leI, int_bl, idx_t0, idx_t1, idx_l0, idx_l1, pow_25, pow_9, pow_20, List.length_cons, List.length_nil, Nat.zero_add, List.set_cons_zero, List.set_cons_succ, List.getElem?_cons_zero, List.getElem?_cons_succ]
  simp only [schW, WP_ok, WP_err, WP_bind, WP_ite, need_some, needS_some, res_ok, thenS_ok, WS_thenS, WS_nx, WS_rt, WS_bk, WS_ct, WS_nil, WS_cons, WS_expr, WS_asg, WS_par, WS_setSub, WS_setAtt, WS_ife, WS_ret, WS_retN, WS_ite, sm_v, sm_t, ev, evL, evEs, evAnd, evOr, evAndT, evOrT, evChain, evSlc, dflT, prm, two, one, bltW, bl1, bl2, negW, intOf, vD, vS, vL, conL, conD, vO, conO, truW, tgW_nm, tgW_tup, tgWs_nil, tgWs_cons, lenW, fullW, bindW_nil, kind_append, kind_extend, kind_pop, kind_popAt, kind_reverse, kind_clear, kind_insert, kind_index, kind_join, kind_split, kind_upper, kind_startswith, kind_count, isStrW, newL, newD, wipeW, sizeLine_eq, if_true, if_false, Bool.false_eq_true, not_false_eq_true, not_true_eq_false, bin_addI, bin_subI, cmp_eqI, cmp_eqT, cmp_neT, cmp_gtI, cmp_ltI, cmp_leI, int_bl, idx_t0, idx_t1, idx_l0, idx_l1, pow_25, pow_9, pow_20, List.length_cons, List.length_nil, Nat.zero_add, List.set_cons_zero, List.set_cons_succ, List.getElem?_cons_zero, List.getElem?_cons_succ]
  simp [WP_ok, WP_err, WP_bind, WP_ite, need_some, needS_some, res_ok, thenS_ok, WS_thenS, WS_nx, WS_rt, WS_bk, WS_ct, WS_nil, WS_cons, WS_expr, WS_asg, WS_par, WS_setSub, WS_setAtt, WS_ife, WS_ret, WS_retN, WS_ite, sm_v, sm_t, ev, evL, evEs, evAnd, evOr, evAndT, evOrT, evChain, evSlc, dflT, prm, two, one, bltW, bl1, bl2, negW, intOf, vD, vS, vL, conL, conD, vO, conO, truW, tgW_nm, tgW_tup, tgWs_nil, tgWs_cons, lenW, fullW, bindW_nil, kind_append, kind_extend, kind_pop, kind_popAt, kind_reverse, kind_clear, kind_insert, kind_index, kind_join, kind_split, kind_upper, kind_startswith, kind_count, isStrW, newL, newD, wipeW, sizeLine_eq, if_true, if_false, Bool.false_eq_true, not_false_eq_true, not_true_eq_false, bin_addI, bin_subI, cmp_eqI, cmp_eqT, cmp_neT, cmp_gtI, cmp_ltI, cmp_leI, int_bl, idx_t0, idx_t1, idx_l0, idx_l1, pow_25, pow_9, pow_20, List.length_cons, List.length_nil, Nat.zero_add, List.set_cons_zero, List.set_cons_succ, List.getElem?_cons_zero, List.getElem?_cons_succ, pureW, fdsW_pure, fl_Schema_fields_Schema_field_list, k]
/-- a row of the schema is a version of it -/
theorem wp_isversion {B : Int} {fs : List Fd} {ws : List W} {M : Store} {Q : W → Store → Prop} (hf : FdsOk fs) (hl : fs.length ≤ 1000) (h : RowOk B fs ws) (k : Q (.bl true) M) : WP (callW F_is_version.sem true [schW fs, .tup ws] M) Q := by
  refine wp_flat (by simp [flatW, schW_pure, pureW, h.pure]) ?_
  rw [se_is_version]; refine WP_run (show _ = _ from rfl) ?_
  have hown : ∀ M, (ownW Y_is_version "Schema" "__len__" true [schW fs] M) = callW F_Schema___len.sem true [schW fs] M := by
    intro M
    exact own_sch mt_is_version_Schema___len ps_Schema___len (by decide +kernel)
  simp [B_is_version, D_is_version, e1_is_version, ps_is_version, fn_is_version_is_value, ps_is_value, mt_is_version_Schema___len, ps_Schema___len, fl_is_version_Schema_field_list, WP_ok, WP_err, WP_bind, WP_ite, need_some, needS_some, res_ok, thenS_ok, WS_thenS, WS_nx, WS_rt, WS_bk, WS_ct, WS_nil, WS_cons, WS_expr, WS_asg, WS_par, WS_setSub, WS_setAtt, WS_ife, WS_ret, WS_retN, WS_ite, sm_v, sm_t, ev, evL, evEs, evAnd, evOr, evAndT, evOrT, evChain, evSlc, dflT, prm, two, one, bltW, bl1, bl2, negW, intOf, vD, vS, vL, conL, conD, vO, conO, truW, tgW_nm, tgW_tup, tgWs_nil, tgWs_cons, lenW, fullW, bindW_nil, kind_append, kind_extend, kind_pop, kind_popAt, kind_reverse, kind_clear, kind_insert, kind_index, kind_join, kind_split, kind_upper, kind_startswith, kind_count, isStrW, newL, newD, wipeW, sizeLine_eq, if_true, if_false, Bool.false_eq_true, not_false_eq_true, not_true_eq_false, bin_addI, bin_subI, cmp_eqI, cmp_eqT, cmp_neT, cmp_gtI, cmp_ltI, cmp_leI, int_bl, idx_t0, idx_t1, idx_l0, idx_l1, pow_25, pow_9, pow_20, List.length_cons, List.length_nil, Nat.zero_add, List.set_cons_zero, List.set_cons_succ, List.getElem?_cons_zero, List.getElem?_cons_succ, tyW, isiAll, isiOne, ask_tuple, hown, h.len]
  refine sch_len hl ?_
  have hlt : (fs.length : Int) < 4611686018427387904 := by omega
  have he : cmpW .NotEq (.int (fs.length : Int)) (.int (fs.length : Int)) [] = .ok (.bl false) [] := by rw [cmp_Ne eqW_ints]; simp
  simp [WP_ok, WP_err, WP_bind, WP_ite, need_some, needS_some, res_ok, thenS_ok, WS_thenS, WS_nx, WS_rt, WS_bk, WS_ct, WS_nil, WS_cons, WS_expr, WS_asg, WS_par, WS_setSub, WS_setAtt, WS_ife, WS_ret, WS_retN, WS_ite, sm_v, sm_t, ev, evL, evEs, evAnd, evOr, evAndT, evOrT, evChain, evSlc, dflT, prm, two, one, bltW, bl1, bl2, negW, intOf, vD, vS, vL, conL, conD, vO, conO, truW, tgW_nm, tgW_tup, tgWs_nil, tgWs_cons, lenW, fullW, bindW_nil, kind_append, kind_extend, kind_pop, kind_popAt, kind_reverse, kind_clear, kind_insert, kind_index, kind_join, kind_split, kind_upper, kind_startswith, kind_count, isStrW, newL, newD, wipeW, sizeLine_eq, if_true, if_false, Bool.false_eq_true, not_false_eq_true, not_true_eq_false, bin_addI, bin_subI, cmp_eqI, cmp_eqT, cmp_neT, cmp_gtI, cmp_ltI, cmp_leI, int_bl, idx_t0, idx_t1, idx_l0, idx_l1, pow_25, pow_9, pow_20, List.length_cons, List.length_nil, Nat.zero_add, List.set_cons_zero, List.set_cons_succ, List.getElem?_cons_zero, List.getElem?_cons_succ, hlt, he]
  refine WP_lc ?_
  simp [B_is_version, D_is_version, e1_is_version, ps_is_version, fn_is_version_is_value, ps_is_value, mt_is_version_Schema___len, ps_Schema___len, fl_is_version_Schema_field_list, WP_ok, WP_err, WP_bind, WP_ite, need_some, needS_some, res_ok, thenS_ok, WS_thenS, WS_nx, WS_rt, WS_bk, WS_ct, WS_nil, WS_cons, WS_expr, WS_asg, WS_par, WS_setSub, WS_setAtt, WS_ife, WS_ret, WS_retN, WS_ite, sm_v, sm_t, ev, evL, evEs, evAnd, evOr, evAndT, evOrT, evChain, evSlc, dflT, prm, two, one, bltW, bl1, bl2, negW, intOf, vD, vS, vL, conL, conD, vO, conO, truW, tgW_nm, tgW_tup, tgWs_nil, tgWs_cons, lenW, fullW, bindW_nil, kind_append, kind_extend, kind_pop, kind_popAt, kind_reverse, kind_clear, kind_insert, kind_index, kind_join, kind_split, kind_upper, kind_startswith, kind_count, isStrW, newL, newD, wipeW, sizeLine_eq, if_true, if_false, Bool.false_eq_true, not_false_eq_true, not_true_eq_false, bin_addI, bin_subI, cmp_eqI, cmp_eqT, cmp_neT, cmp_gtI, cmp_ltI, cmp_leI, int_bl, idx_t0, idx_t1, idx_l0, idx_l1, pow_25, pow_9, pow_20, List.length_cons, List.length_nil, Nat.zero_add, List.set_cons_zero, List.set_cons_succ, List.getElem?_cons_zero, List.getElem?_cons_succ]
  simp only [schW, WP_ok, WP_err, WP_bind, WP_ite, need_some, needS_some, res_ok, thenS_ok, WS_thenS, WS_nx, WS_rt, WS_bk, WS_ct, WS_nil, WS_cons, WS_expr, WS_asg, WS_par, WS_setSub, WS_setAtt, WS_ife, WS_ret, WS_retN, WS_ite, sm_v, sm_t, ev, evL, evEs, evAnd, evOr, evAndT, evOrT, evChain, evSlc, dflT, prm, two, one, bltW, bl1, bl2, negW, intOf, vD, vS, vL, conL, conD, vO, conO, truW, tgW_nm, tgW_tup, tgWs_nil, tgWs_cons, lenW, fullW, bindW_nil, kind_append, kind_extend, kind_pop, kind_popAt, kind_reverse, kind_clear, kind_insert, kind_index, kind_join, kind_split, kind_upper, kind_startswith, kind_count, isStrW, newL, newD, wipeW, sizeLine_eq, if_true, if_false, Bool.false_eq_true, not_false_eq_true, not_true_eq_false, bin_addI, bin_subI, cmp_eqI, cmp_eqT, cmp_neT, cmp_gtI, cmp_ltI, cmp_leI, int_bl, idx_t0, idx_t1, idx_l0, idx_l1, pow_25, pow_9, pow_20, List.length_cons, List.length_nil, Nat.zero_add, List.set_cons_zero, List.set_cons_succ, List.getElem?_cons_zero, List.getElem?_cons_succ]
  simp [WP_ok, WP_err, WP_bind, WP_ite, need_some, needS_some, res_ok, thenS_ok, WS_thenS, WS_nx, WS_rt, WS_bk, WS_ct, WS_nil, WS_cons, WS_expr, WS_asg, WS_par, WS_setSub, WS_setAtt, WS_ife, WS_ret, WS_retN, WS_ite, sm_v, sm_t, ev, evL, evEs, evAnd, evOr, evAndT, evOrT, evChain, evSlc, dflT, prm, two, one, bltW, bl1, bl2, negW, intOf, vD, vS, vL, conL, conD, vO, conO, truW, tgW_nm, tgW_tup, tgWs_nil, tgWs_cons, lenW, fullW, bindW_nil, kind_append, kind_extend, kind_pop, kind_popAt, kind_reverse, kind_clear, kind_insert, kind_index, kind_join, kind_split, kind_upper, kind_startswith, kind_count, isStrW, newL, newD, wipeW, sizeLine_eq, if_true, if_false, Bool.false_eq_true, not_false_eq_true, not_true_eq_false, bin_addI, bin_subI, cmp_eqI, cmp_eqT, cmp_neT, cmp_gtI, cmp_ltI, cmp_leI, int_bl, idx_t0, idx_t1, idx_l0, idx_l1, pow_25, pow_9, pow_20, List.length_cons, List.length_nil, Nat.zero_add, List.set_cons_zero, List.set_cons_succ, List.getElem?_cons_zero, List.getElem?_cons_succ, fl_is_version_Schema_field_list]
  have hlen : (fdsW fs).length = ws.length := by rw [h.len]; simp [fdsW]
  refine ⟨(fdsW fs).zipWith (fun u v => .tup [u, v]) ws, by simp [itemsW, vS, hlen], by rw [sizeLine_eq]; simp [fdsW]; omega, fun i ys M => ys = List.replicate i (.bl true) ∧ M = [], ⟨rfl, rfl⟩, ?_, ?_⟩
  · rintro i x ys M hx ⟨rfl, rfl⟩
    rw [List.getElem?_zipWith] at hx
    obtain ⟨f, w, hfi, hwi, rfl⟩ : ∃ f w, fs[i]? = some f ∧ ws[i]? = some w ∧ x = .tup [fdW f, w] := by
      cases h1 : (fdsW fs)[i]? with
      | none => rw [h1] at hx; simp at hx
      | some u =>
        cases h2 : ws[i]? with
        | none => rw [h1, h2] at hx; simp at hx
        | some w =>
          rw [h1, h2] at hx
          obtain ⟨f, hf1, rfl⟩ := fdsW_get h1
          exact ⟨f, w, hf1, rfl, by simpa using hx.symm⟩
    refine ⟨_, rfl, ?_⟩
    simp [B_is_version, D_is_version, e1_is_version, ps_is_version, fn_is_version_is_value, ps_is_value, mt_is_version_Schema___len, ps_Schema___len, fl_is_version_Schema_field_list, WP_ok, WP_err, WP_bind, WP_ite, need_some, needS_some, res_ok, thenS_ok, WS_thenS, WS_nx, WS_rt, WS_bk, WS_ct, WS_nil, WS_cons, WS_expr, WS_asg, WS_par, WS_setSub, WS_setAtt, WS_ife, WS_ret, WS_retN, WS_ite, sm_v, sm_t, ev, evL, evEs, evAnd, evOr, evAndT, evOrT, evChain, evSlc, dflT, prm, two, one, bltW, bl1, bl2, negW, intOf, vD, vS, vL, conL, conD, vO, conO, truW, tgW_nm, tgW_tup, tgWs_nil, tgWs_cons, lenW, fullW, bindW_nil, kind_append, kind_extend, kind_pop, kind_popAt, kind_reverse, kind_clear, kind_insert, kind_index, kind_join, kind_split, kind_upper, kind_startswith, kind_count, isStrW, newL, newD, wipeW, sizeLine_eq, if_true, if_false, Bool.false_eq_true, not_false_eq_true, not_true_eq_false, bin_addI, bin_subI, cmp_eqI, cmp_eqT, cmp_neT, cmp_gtI, cmp_ltI, cmp_leI, int_bl, idx_t0, idx_t1, idx_l0, idx_l1, pow_25, pow_9, pow_20, List.length_cons, List.length_nil, Nat.zero_add, List.set_cons_zero, List.set_cons_succ, List.getElem?_cons_zero, List.getElem?_cons_succ, fdW]
    refine wp_isvalue (h.al i f w hfi hwi) ?_
    refine ⟨by simp [itemsW, vS, hlen], ?_, rfl⟩
    rw [List.replicate_succ']
  · rintro ys M hyl ⟨rfl, rfl⟩
    have hb : ∀ n, blsOf (List.replicate n (W.bl true)) = some (List.replicate n true) := by
      intro n
      induction n with
      | zero => rfl
      | succ n ih => simp [List.replicate_succ, blsOf, ih]
    simp [WP_ok, WP_err, WP_bind, WP_ite, need_some, needS_some, res_ok, thenS_ok, WS_thenS, WS_nx, WS_rt, WS_bk, WS_ct, WS_nil, WS_cons, WS_expr, WS_asg, WS_par, WS_setSub, WS_setAtt, WS_ife, WS_ret, WS_retN, WS_ite, sm_v, sm_t, ev, evL, evEs, evAnd, evOr, evAndT, evOrT, evChain, evSlc, dflT, prm, two, one, bltW, bl1, bl2, negW, intOf, vD, vS, vL, conL, conD, vO, conO, truW, tgW_nm, tgW_tup, tgWs_nil, tgWs_cons, lenW, fullW, bindW_nil, kind_append, kind_extend, kind_pop, kind_popAt, kind_reverse, kind_clear, kind_insert, kind_index, kind_join, kind_split, kind_upper, kind_startswith, kind_count, isStrW, newL, newD, wipeW, sizeLine_eq, if_true, if_false, Bool.false_eq_true, not_false_eq_true, not_true_eq_false, bin_addI, bin_subI, cmp_eqI, cmp_eqT, cmp_neT, cmp_gtI, cmp_ltI, cmp_leI, int_bl, idx_t0, idx_t1, idx_l0, idx_l1, pow_25, pow_9, pow_20, List.length_cons, List.length_nil, Nat.zero_add, List.set_cons_zero, List.set_cons_succ, List.getElem?_cons_zero, List.getElem?_cons_succ, blsW, hb, pureW, k]
theorem wp_checkv {B : Int} {fs : List Fd} {rs : List W} {M : Store} {Q : W → Store → Prop} (hf : FdsOk fs) (hl : fs.length ≤ 1000) (h : ∀ r ∈ rs, IsRow B fs r) (hz : rs.length ≤ 100000) (k : Q .non M) : WP (callW F_check_versions.sem true [schW fs, .lst rs] M) Q := by
  refine wp_flat (by simp [flatW, schW_pure, pureW, rows_pure h]) ?_
  rw [se_check_versions]; refine WP_run (show _ = _ from rfl) ?_
  simp [B_check_versions, D_check_versions, X1_check_versions, ps_check_versions, fn_check_versions_is_version, ps_is_version, WP_ok, WP_err, WP_bind, WP_ite, need_some, needS_some, res_ok, thenS_ok, WS_thenS, WS_nx, WS_rt, WS_bk, WS_ct, WS_nil, WS_cons, WS_expr, WS_asg, WS_par, WS_setSub, WS_setAtt, WS_ife, WS_ret, WS_retN, WS_ite, sm_v, sm_t, ev, evL, evEs, evAnd, evOr, evAndT, evOrT, evChain, evSlc, dflT, prm, two, one, bltW, bl1, bl2, negW, intOf, vD, vS, vL, conL, conD, vO, conO, truW, tgW_nm, tgW_tup, tgWs_nil, tgWs_cons, lenW, fullW, bindW_nil, kind_append, kind_extend, kind_pop, kind_popAt, kind_reverse, kind_clear, kind_insert, kind_index, kind_join, kind_split, kind_upper, kind_startswith, kind_count, isStrW, newL, newD, wipeW, sizeLine_eq, if_true, if_false, Bool.false_eq_true, not_false_eq_true, not_true_eq_false, bin_addI, bin_subI, cmp_eqI, cmp_eqT, cmp_neT, cmp_gtI, cmp_ltI, cmp_leI, int_bl, idx_t0, idx_t1, idx_l0, idx_l1, pow_25, pow_9, pow_20, List.length_cons, List.length_nil, Nat.zero_add, List.set_cons_zero, List.set_cons_succ, List.getElem?_cons_zero, List.getElem?_cons_succ]
  refine WS_for ?_
  simp [WP_ok, WP_err, WP_bind, WP_ite, need_some, needS_some, res_ok, thenS_ok, WS_thenS, WS_nx, WS_rt, WS_bk, WS_ct, WS_nil, WS_cons, WS_expr, WS_asg, WS_par, WS_setSub, WS_setAtt, WS_ife, WS_ret, WS_retN, WS_ite, sm_v, sm_t, ev, evL, evEs, evAnd, evOr, evAndT, evOrT, evChain, evSlc, dflT, prm, two, one, bltW, bl1, bl2, negW, intOf, vD, vS, vL, conL, conD, vO, conO, truW, tgW_nm, tgW_tup, tgWs_nil, tgWs_cons, lenW, fullW, bindW_nil, kind_append, kind_extend, kind_pop, kind_popAt, kind_reverse, kind_clear, kind_insert, kind_index, kind_join, kind_split, kind_upper, kind_startswith, kind_count, isStrW, newL, newD, wipeW, sizeLine_eq, if_true, if_false, Bool.false_eq_true, not_false_eq_true, not_true_eq_false, bin_addI, bin_subI, cmp_eqI, cmp_eqT, cmp_neT, cmp_gtI, cmp_ltI, cmp_leI, int_bl, idx_t0, idx_t1, idx_l0, idx_l1, pow_25, pow_9, pow_20, List.length_cons, List.length_nil, Nat.zero_add, List.set_cons_zero, List.set_cons_succ, List.getElem?_cons_zero, List.getElem?_cons_succ]
  refine ⟨rs, rfl, fun i l M => ∃ x, l = [some (schW fs), some (.lst rs), x] ∧ M = [], ⟨none, rfl, rfl⟩, ?_, ?_⟩
  · rintro i x l M hx ⟨y, rfl, rfl⟩
    obtain ⟨ws, rfl, hw⟩ := h x (List.mem_of_getElem? hx)
    refine ⟨_, rfl, ?_⟩
    simp [B_check_versions, D_check_versions, X1_check_versions, ps_check_versions, fn_check_versions_is_version, ps_is_version, WP_ok, WP_err, WP_bind, WP_ite, need_some, needS_some, res_ok, thenS_ok, WS_thenS, WS_nx, WS_rt, WS_bk, WS_ct, WS_nil, WS_cons, WS_expr, WS_asg, WS_par, WS_setSub, WS_setAtt, WS_ife, WS_ret, WS_retN, WS_ite, sm_v, sm_t, ev, evL, evEs, evAnd, evOr, evAndT, evOrT, evChain, evSlc, dflT, prm, two, one, bltW, bl1, bl2, negW, intOf, vD, vS, vL, conL, conD, vO, conO, truW, tgW_nm, tgW_tup, tgWs_nil, tgWs_cons, lenW, fullW, bindW_nil, kind_append, kind_extend, kind_pop, kind_popAt, kind_reverse, kind_clear, kind_insert, kind_index, kind_join, kind_split, kind_upper, kind_startswith, kind_count, isStrW, newL, newD, wipeW, sizeLine_eq, if_true, if_false, Bool.false_eq_true, not_false_eq_true, not_true_eq_false, bin_addI, bin_subI, cmp_eqI, cmp_eqT, cmp_neT, cmp_gtI, cmp_ltI, cmp_leI, int_bl, idx_t0, idx_t1, idx_l0, idx_l1, pow_25, pow_9, pow_20, List.length_cons, List.length_nil, Nat.zero_add, List.set_cons_zero, List.set_cons_succ, List.getElem?_cons_zero, List.getElem?_cons_succ]
    refine wp_isversion hf hl hw ?_
    simp [WP_ok, WP_err, WP_bind, WP_ite, need_some, needS_some, res_ok, thenS_ok, WS_thenS, WS_nx, WS_rt, WS_bk, WS_ct, WS_nil, WS_cons, WS_expr, WS_asg, WS_par, WS_setSub, WS_setAtt, WS_ife, WS_ret, WS_retN, WS_ite, sm_v, sm_t, ev, evL, evEs, evAnd, evOr, evAndT, evOrT, evChain, evSlc, dflT, prm, two, one, bltW, bl1, bl2, negW, intOf, vD, vS, vL, conL, conD, vO, conO, truW, tgW_nm, tgW_tup, tgWs_nil, tgWs_cons, lenW, fullW, bindW_nil, kind_append, kind_extend, kind_pop, kind_popAt, kind_reverse, kind_clear, kind_insert, kind_index, kind_join, kind_split, kind_upper, kind_startswith, kind_count, isStrW, newL, newD, wipeW, sizeLine_eq, if_true, if_false, Bool.false_eq_true, not_false_eq_true, not_true_eq_false, bin_addI, bin_subI, cmp_eqI, cmp_eqT, cmp_neT, cmp_gtI, cmp_ltI, cmp_leI, int_bl, idx_t0, idx_t1, idx_l0, idx_l1, pow_25, pow_9, pow_20, List.length_cons, List.length_nil, Nat.zero_add, List.set_cons_zero, List.set_cons_succ, List.getElem?_cons_zero, List.getElem?_cons_succ]
    rfl
  · rintro l M ⟨y, rfl, rfl⟩
    exact ⟨rfl, k⟩
end PyL

open PySem PySem.Spec PyProof.Rows L2 PyI
namespace PyL
theorem wp_picked {B : Int} {k : Str} {x b y : W} {M : Store} {Q : W → Store → Prop} (hk : k ∈ kinds3) (hx : ValE B k x) (hb : ValE B k b) (hy : ValE B k y) (q : Q (pickV k x b y) M) : WP (callW F_picked_value.sem true [.str k, x, b, y] M) Q := by
  refine wp_flat (by simp [flatW, pureW, hx.pure, hb.pure, hy.pure]) ?_
  rw [se_picked_value]; refine WP_run (show _ = _ from rfl) ?_
  have e1 := cmp_Eq (M := []) (eqW_vEq (M := []) hx hb)
  have e2 := cmp_Eq (M := []) (eqW_vEq (M := []) hy hb)
  rcases kinds3_cases hk with rfl | rfl | rfl
  · simp [B_picked_value, D_picked_value, ps_picked_value, WP_ok, WP_err, WP_bind, WP_ite, need_some, needS_some, res_ok, thenS_ok, WS_thenS, WS_nx, WS_rt, WS_bk, WS_ct, WS_nil, WS_cons, WS_expr, WS_asg, WS_par, WS_setSub, WS_setAtt, WS_ife, WS_ret, WS_retN, WS_ite, sm_v, sm_t, ev, evL, evEs, evAnd, evOr, evAndT, evOrT, evChain, evSlc, dflT, prm, two, one, bltW, bl1, bl2, negW, intOf, vD, vS, vL, conL, conD, vO, conO, truW, tgW_nm, tgW_tup, tgWs_nil, tgWs_cons, lenW, fullW, bindW_nil, kind_append, kind_extend, kind_pop, kind_popAt, kind_reverse, kind_clear, kind_insert, kind_index, kind_join, kind_split, kind_upper, kind_startswith, kind_count, isStrW, newL, newD, wipeW, sizeLine_eq, if_true, if_false, Bool.false_eq_true, not_false_eq_true, not_true_eq_false, bin_addI, bin_subI, cmp_eqI, cmp_eqT, cmp_neT, cmp_gtI, cmp_ltI, cmp_leI, int_bl, idx_t0, idx_t1, idx_l0, idx_l1, pow_25, pow_9, pow_20, List.length_cons, List.length_nil, Nat.zero_add, List.set_cons_zero, List.set_cons_succ, List.getElem?_cons_zero, List.getElem?_cons_succ, e1]
    unfold pickV at q
    rw [if_pos rfl] at q
    by_cases h : vEq x b = true
    · simp [h] at q ⊢
      exact ⟨hy.pure, q⟩
    · simp [h] at q ⊢
      exact ⟨hx.pure, q⟩
  · simp [B_picked_value, D_picked_value, ps_picked_value, WP_ok, WP_err, WP_bind, WP_ite, need_some, needS_some, res_ok, thenS_ok, WS_thenS, WS_nx, WS_rt, WS_bk, WS_ct, WS_nil, WS_cons, WS_expr, WS_asg, WS_par, WS_setSub, WS_setAtt, WS_ife, WS_ret, WS_retN, WS_ite, sm_v, sm_t, ev, evL, evEs, evAnd, evOr, evAndT, evOrT, evChain, evSlc, dflT, prm, two, one, bltW, bl1, bl2, negW, intOf, vD, vS, vL, conL, conD, vO, conO, truW, tgW_nm, tgW_tup, tgWs_nil, tgWs_cons, lenW, fullW, bindW_nil, kind_append, kind_extend, kind_pop, kind_popAt, kind_reverse, kind_clear, kind_insert, kind_index, kind_join, kind_split, kind_upper, kind_startswith, kind_count, isStrW, newL, newD, wipeW, sizeLine_eq, if_true, if_false, Bool.false_eq_true, not_false_eq_true, not_true_eq_false, bin_addI, bin_subI, cmp_eqI, cmp_eqT, cmp_neT, cmp_gtI, cmp_ltI, cmp_leI, int_bl, idx_t0, idx_t1, idx_l0, idx_l1, pow_25, pow_9, pow_20, List.length_cons, List.length_nil, Nat.zero_add, List.set_cons_zero, List.set_cons_succ, List.getElem?_cons_zero, List.getElem?_cons_succ, ne_mt, e2]
    unfold pickV at q
    rw [if_neg ne_mt, if_pos rfl] at q
    by_cases h : vEq y b = true
    · simp [h] at q ⊢
      exact ⟨hx.pure, q⟩
    · simp [h] at q ⊢
      exact ⟨hy.pure, q⟩
  · unfold pickV at q
    rw [if_neg ne_cm, if_neg ne_ct] at q
    unfold ValE at hx hb hy
    rw [if_pos isC_c] at hx hb hy
    obtain ⟨i, rfl, _⟩ := hx
    obtain ⟨j, rfl, _⟩ := hb
    obtain ⟨m, rfl, _⟩ := hy
    simp [B_picked_value, D_picked_value, ps_picked_value, WP_ok, WP_err, WP_bind, WP_ite, need_some, needS_some, res_ok, thenS_ok, WS_thenS, WS_nx, WS_rt, WS_bk, WS_ct, WS_nil, WS_cons, WS_expr, WS_asg, WS_par, WS_setSub, WS_setAtt, WS_ife, WS_ret, WS_retN, WS_ite, sm_v, sm_t, ev, evL, evEs, evAnd, evOr, evAndT, evOrT, evChain, evSlc, dflT, prm, two, one, bltW, bl1, bl2, negW, intOf, vD, vS, vL, conL, conD, vO, conO, truW, tgW_nm, tgW_tup, tgWs_nil, tgWs_cons, lenW, fullW, bindW_nil, kind_append, kind_extend, kind_pop, kind_popAt, kind_reverse, kind_clear, kind_insert, kind_index, kind_join, kind_split, kind_upper, kind_startswith, kind_count, isStrW, newL, newD, wipeW, sizeLine_eq, if_true, if_false, Bool.false_eq_true, not_false_eq_true, not_true_eq_false, bin_addI, bin_subI, cmp_eqI, cmp_eqT, cmp_neT, cmp_gtI, cmp_ltI, cmp_leI, int_bl, idx_t0, idx_t1, idx_l0, idx_l1, pow_25, pow_9, pow_20, List.length_cons, List.length_nil, Nat.zero_add, List.set_cons_zero, List.set_cons_succ, List.getElem?_cons_zero, List.getElem?_cons_succ, ne_cm, ne_ct]
    exact ⟨rfl, q⟩
theorem enum_mem {ws : List W} {x : W} (h : x ∈ (List.range ws.length).zipWith (fun (i : Nat) w => W.tup [.int (i : Int), w]) ws) : ∃ (i : Nat) (w : W), ws[i]? = some w ∧ x = .tup [.int (i : Int), w] := by
  obtain ⟨i, hi, e⟩ := List.mem_iff_getElem.mp h
  obtain ⟨w, h1, h2⟩ := enum_get (ws := ws) (i := i) (x := x) (by rw [List.getElem?_eq_getElem hi, e])
  exact ⟨i, w, h1, h2⟩
def pickF (xs bs ys : List W) : W → W
  | .tup [.int i, .str k] => pickV k (gW xs i.toNat) (gW bs i.toNat) (gW ys i.toNat)
  | _ => .non
theorem wp_pick {B : Int} {fs : List Fd} {xs bs ys : List W} {M : Store} {Q : W → Store → Prop} (hf : FdsOk fs) (hl : fs.length ≤ 1000) (hB : 0 ≤ B) (hx' : RowOk B fs xs) (hb : RowOk B fs bs) (hy : RowOk B fs ys) (q : Q (.tup (pickR fs xs bs ys)) M) :
    WP (callW F_pick.sem true [schW fs, .tup xs, .tup bs, .tup ys] M) Q := by
  have hp := (pickR_ok hf hB hx' hb hy).pure
  refine wp_flat (by simp [flatW, schW_pure, pureW, hx'.pure, hb.pure, hy.pure]) ?_
  rw [se_pick]; refine WP_run (show _ = _ from rfl) ?_
  simp [B_pick, D_pick, e1_pick, e3_pick, ps_pick, fn_pick_check_versions, fn_pick_picked_value, ps_check_versions, ps_picked_value, mt_pick_Schema_fields, ps_Schema_fields, WP_ok, WP_err, WP_bind, WP_ite, need_some, needS_some, res_ok, thenS_ok, WS_thenS, WS_nx, WS_rt, WS_bk, WS_ct, WS_nil, WS_cons, WS_expr, WS_asg, WS_par, WS_setSub, WS_setAtt, WS_ife, WS_ret, WS_retN, WS_ite, sm_v, sm_t, ev, evL, evEs, evAnd, evOr, evAndT, evOrT, evChain, evSlc, dflT, prm, two, one, bltW, bl1, bl2, negW, intOf, vD, vS, vL, conL, conD, vO, conO, truW, tgW_nm, tgW_tup, tgWs_nil, tgWs_cons, lenW, fullW, bindW_nil, kind_append, kind_extend, kind_pop, kind_popAt, kind_reverse, kind_clear, kind_insert, kind_index, kind_join, kind_split, kind_upper, kind_startswith, kind_count, isStrW, newL, newD, wipeW, sizeLine_eq, if_true, if_false, Bool.false_eq_true, not_false_eq_true, not_true_eq_false, bin_addI, bin_subI, cmp_eqI, cmp_eqT, cmp_neT, cmp_gtI, cmp_ltI, cmp_leI, int_bl, idx_t0, idx_t1, idx_l0, idx_l1, pow_25, pow_9, pow_20, List.length_cons, List.length_nil, Nat.zero_add, List.set_cons_zero, List.set_cons_succ, List.getElem?_cons_zero, List.getElem?_cons_succ]
  refine wp_checkv (B := B) hf hl (fun r hr => ?_) (by simp) ?_
  · simp at hr
    rcases hr with rfl | rfl | rfl
    · exact ⟨_, rfl, hx'⟩
    · exact ⟨_, rfl, hb⟩
    · exact ⟨_, rfl, hy⟩
  refine WP_lcMap (fun x => match x with | .tup [_, k] => k | _ => .non) ?_
  have hno : Str.ofString "fields" ∉ (["field_list", "places"] : List Str) := by decide +kernel
  simp [B_pick, D_pick, e1_pick, e3_pick, ps_pick, fn_pick_check_versions, fn_pick_picked_value, ps_check_versions, ps_picked_value, mt_pick_Schema_fields, ps_Schema_fields, WP_ok, WP_err, WP_bind, WP_ite, need_some, needS_some, res_ok, thenS_ok, WS_thenS, WS_nx, WS_rt, WS_bk, WS_ct, WS_nil, WS_cons, WS_expr, WS_asg, WS_par, WS_setSub, WS_setAtt, WS_ife, WS_ret, WS_retN, WS_ite, sm_v, sm_t, ev, evL, evEs, evAnd, evOr, evAndT, evOrT, evChain, evSlc, dflT, prm, two, one, bltW, bl1, bl2, negW, intOf, vD, vS, vL, conL, conD, vO, conO, truW, tgW_nm, tgW_tup, tgWs_nil, tgWs_cons, lenW, fullW, bindW_nil, kind_append, kind_extend, kind_pop, kind_popAt, kind_reverse, kind_clear, kind_insert, kind_index, kind_join, kind_split, kind_upper, kind_startswith, kind_count, isStrW, newL, newD, wipeW, sizeLine_eq, if_true, if_false, Bool.false_eq_true, not_false_eq_true, not_true_eq_false, bin_addI, bin_subI, cmp_eqI, cmp_eqT, cmp_neT, cmp_gtI, cmp_ltI, cmp_leI, int_bl, idx_t0, idx_t1, idx_l0, idx_l1, pow_25, pow_9, pow_20, List.length_cons, List.length_nil, Nat.zero_add, List.set_cons_zero, List.set_cons_succ, List.getElem?_cons_zero, List.getElem?_cons_succ]

  simp only [schW, WP_ok, WP_err, WP_bind, WP_ite, need_some, needS_some, res_ok, thenS_ok, WS_thenS, WS_nx, WS_rt, WS_bk, WS_ct, WS_nil, WS_cons, WS_expr, WS_asg, WS_par, WS_setSub, WS_setAtt, WS_ife, WS_ret, WS_retN, WS_ite, sm_v, sm_t, ev, evL, evEs, evAnd, evOr, evAndT, evOrT, evChain, evSlc, dflT, prm, two, one, bltW, bl1, bl2, negW, intOf, vD, vS, vL, conL, conD, vO, conO, truW, tgW_nm, tgW_tup, tgWs_nil, tgWs_cons, lenW, fullW, bindW_nil, kind_append, kind_extend, kind_pop, kind_popAt, kind_reverse, kind_clear, kind_insert, kind_index, kind_join, kind_split, kind_upper, kind_startswith, kind_count, isStrW, newL, newD, wipeW, sizeLine_eq, if_true, if_false, Bool.false_eq_true, not_false_eq_true, not_true_eq_false, bin_addI, bin_subI, cmp_eqI, cmp_eqT, cmp_neT, cmp_gtI, cmp_ltI, cmp_leI, int_bl, idx_t0, idx_t1, idx_l0, idx_l1, pow_25, pow_9, pow_20, List.length_cons, List.length_nil, Nat.zero_add, List.set_cons_zero, List.set_cons_succ, List.getElem?_cons_zero, List.getElem?_cons_succ, List.getElem?_cons_zero, List.map_cons, List.cons_append]
  rw [if_pos ⟨trivial, hno⟩]
  refine wp_schfields (fs := fs) ?_
  have hkd : ∀ x ∈ fdsW fs, ∃ f ∈ fs, x = fdW f := fun x hx => by
    obtain ⟨f, hf1, rfl⟩ := List.mem_map.mp hx
    exact ⟨f, hf1, rfl⟩
  refine ⟨fdsW fs, rfl, by rw [sizeLine_eq]; simp [fdsW]; omega, fun x hx => ?_, ?_⟩
  · obtain ⟨f, _, rfl⟩ := hkd x hx
    refine ⟨_, rfl, ?_⟩
    simp [B_pick, D_pick, e1_pick, e3_pick, ps_pick, fn_pick_check_versions, fn_pick_picked_value, ps_check_versions, ps_picked_value, mt_pick_Schema_fields, ps_Schema_fields, WP_ok, WP_err, WP_bind, WP_ite, need_some, needS_some, res_ok, thenS_ok, WS_thenS, WS_nx, WS_rt, WS_bk, WS_ct, WS_nil, WS_cons, WS_expr, WS_asg, WS_par, WS_setSub, WS_setAtt, WS_ife, WS_ret, WS_retN, WS_ite, sm_v, sm_t, ev, evL, evEs, evAnd, evOr, evAndT, evOrT, evChain, evSlc, dflT, prm, two, one, bltW, bl1, bl2, negW, intOf, vD, vS, vL, conL, conD, vO, conO, truW, tgW_nm, tgW_tup, tgWs_nil, tgWs_cons, lenW, fullW, bindW_nil, kind_append, kind_extend, kind_pop, kind_popAt, kind_reverse, kind_clear, kind_insert, kind_index, kind_join, kind_split, kind_upper, kind_startswith, kind_count, isStrW, newL, newD, wipeW, sizeLine_eq, if_true, if_false, Bool.false_eq_true, not_false_eq_true, not_true_eq_false, bin_addI, bin_subI, cmp_eqI, cmp_eqT, cmp_neT, cmp_gtI, cmp_ltI, cmp_leI, int_bl, idx_t0, idx_t1, idx_l0, idx_l1, pow_25, pow_9, pow_20, List.length_cons, List.length_nil, Nat.zero_add, List.set_cons_zero, List.set_cons_succ, List.getElem?_cons_zero, List.getElem?_cons_succ, fdW]
  have hks : (fdsW fs).map (fun x => match x with | .tup [_, k] => k | _ => .non) = fs.map fun f => W.str f.2 := by
    unfold fdsW
    rw [List.map_map]
    rfl
  rw [hks]
  simp only [WP_ok, WP_err, WP_bind, WP_ite, need_some, needS_some, res_ok, thenS_ok, WS_thenS, WS_nx, WS_rt, WS_bk, WS_ct, WS_nil, WS_cons, WS_expr, WS_asg, WS_par, WS_setSub, WS_setAtt, WS_ife, WS_ret, WS_retN, WS_ite, sm_v, sm_t, ev, evL, evEs, evAnd, evOr, evAndT, evOrT, evChain, evSlc, dflT, prm, two, one, bltW, bl1, bl2, negW, intOf, vD, vS, vL, conL, conD, vO, conO, truW, tgW_nm, tgW_tup, tgWs_nil, tgWs_cons, lenW, fullW, bindW_nil, kind_append, kind_extend, kind_pop, kind_popAt, kind_reverse, kind_clear, kind_insert, kind_index, kind_join, kind_split, kind_upper, kind_startswith, kind_count, isStrW, newL, newD, wipeW, sizeLine_eq, if_true, if_false, Bool.false_eq_true, not_false_eq_true, not_true_eq_false, bin_addI, bin_subI, cmp_eqI, cmp_eqT, cmp_neT, cmp_gtI, cmp_ltI, cmp_leI, int_bl, idx_t0, idx_t1, idx_l0, idx_l1, pow_25, pow_9, pow_20, List.length_cons, List.length_nil, Nat.zero_add, List.set_cons_zero, List.set_cons_succ, List.getElem?_cons_zero, List.getElem?_cons_succ]
  refine WP_lcMap (pickF xs bs ys) ?_
  simp [B_pick, D_pick, e1_pick, e3_pick, ps_pick, fn_pick_check_versions, fn_pick_picked_value, ps_check_versions, ps_picked_value, mt_pick_Schema_fields, ps_Schema_fields, WP_ok, WP_err, WP_bind, WP_ite, need_some, needS_some, res_ok, thenS_ok, WS_thenS, WS_nx, WS_rt, WS_bk, WS_ct, WS_nil, WS_cons, WS_expr, WS_asg, WS_par, WS_setSub, WS_setAtt, WS_ife, WS_ret, WS_retN, WS_ite, sm_v, sm_t, ev, evL, evEs, evAnd, evOr, evAndT, evOrT, evChain, evSlc, dflT, prm, two, one, bltW, bl1, bl2, negW, intOf, vD, vS, vL, conL, conD, vO, conO, truW, tgW_nm, tgW_tup, tgWs_nil, tgWs_cons, lenW, fullW, bindW_nil, kind_append, kind_extend, kind_pop, kind_popAt, kind_reverse, kind_clear, kind_insert, kind_index, kind_join, kind_split, kind_upper, kind_startswith, kind_count, isStrW, newL, newD, wipeW, sizeLine_eq, if_true, if_false, Bool.false_eq_true, not_false_eq_true, not_true_eq_false, bin_addI, bin_subI, cmp_eqI, cmp_eqT, cmp_neT, cmp_gtI, cmp_ltI, cmp_leI, int_bl, idx_t0, idx_t1, idx_l0, idx_l1, pow_25, pow_9, pow_20, List.length_cons, List.length_nil, Nat.zero_add, List.set_cons_zero, List.set_cons_succ, List.getElem?_cons_zero, List.getElem?_cons_succ]
  refine ⟨_, enum_items, by rw [sizeLine_eq]; simp; omega, fun x hx => ?_, ?_⟩
  · obtain ⟨i, w, h1, rfl⟩ := enum_mem hx
    rw [List.getElem?_map, Option.map_eq_some_iff] at h1
    obtain ⟨f, hfi, rfl⟩ := h1
    have hi := (List.getElem?_eq_some_iff.mp hfi).1
    have hk := hf.kat hi
    rw [kdAt_of hfi] at hk
    have v1 := hx'.at hi
    have v2 := hb.at hi
    have v3 := hy.at hi
    rw [kdAt_of hfi] at v1 v2 v3
    refine ⟨_, rfl, ?_⟩
    simp [B_pick, D_pick, e1_pick, e3_pick, ps_pick, fn_pick_check_versions, fn_pick_picked_value, ps_check_versions, ps_picked_value, mt_pick_Schema_fields, ps_Schema_fields, WP_ok, WP_err, WP_bind, WP_ite, need_some, needS_some, res_ok, thenS_ok, WS_thenS, WS_nx, WS_rt, WS_bk, WS_ct, WS_nil, WS_cons, WS_expr, WS_asg, WS_par, WS_setSub, WS_setAtt, WS_ife, WS_ret, WS_retN, WS_ite, sm_v, sm_t, ev, evL, evEs, evAnd, evOr, evAndT, evOrT, evChain, evSlc, dflT, prm, two, one, bltW, bl1, bl2, negW, intOf, vD, vS, vL, conL, conD, vO, conO, truW, tgW_nm, tgW_tup, tgWs_nil, tgWs_cons, lenW, fullW, bindW_nil, kind_append, kind_extend, kind_pop, kind_popAt, kind_reverse, kind_clear, kind_insert, kind_index, kind_join, kind_split, kind_upper, kind_startswith, kind_count, isStrW, newL, newD, wipeW, sizeLine_eq, if_true, if_false, Bool.false_eq_true, not_false_eq_true, not_true_eq_false, bin_addI, bin_subI, cmp_eqI, cmp_eqT, cmp_neT, cmp_gtI, cmp_ltI, cmp_leI, int_bl, idx_t0, idx_t1, idx_l0, idx_l1, pow_25, pow_9, pow_20, List.length_cons, List.length_nil, Nat.zero_add, List.set_cons_zero, List.set_cons_succ, List.getElem?_cons_zero, List.getElem?_cons_succ, idx_tupN (get_gW (ws := xs) (i := i) (by rw [hx'.len]; exact hi)), idx_tupN (get_gW (ws := bs) (i := i) (by rw [hb.len]; exact hi)), idx_tupN (get_gW (ws := ys) (i := i) (by rw [hy.len]; exact hi))]
    refine wp_picked hk v1 v2 v3 ?_
    exact ⟨rfl, rfl⟩
  · have hm : ((List.range (fs.map fun f => W.str f.2).length).zipWith (fun (i : Nat) w => W.tup [.int (i : Int), w]) (fs.map fun f => W.str f.2)).map (pickF xs bs ys) = pickR fs xs bs ys := by
      refine List.ext_getElem? fun i => ?_
      by_cases hi : i < fs.length
      · rw [pickR_get hi, List.getElem?_map, List.getElem?_zipWith, List.getElem?_range (by simpa using hi), List.getElem?_map, List.getElem?_eq_getElem hi]
        simp only [Option.map_some, pickF, Int.toNat_natCast]
        rw [kdAt_of (List.getElem?_eq_getElem hi)]
      · rw [List.getElem?_eq_none (by simp; omega), List.getElem?_eq_none (by rw [pickR_len]; omega)]
    rw [hm]
    simp [WP_ok, WP_err, WP_bind, WP_ite, need_some, needS_some, res_ok, thenS_ok, WS_thenS, WS_nx, WS_rt, WS_bk, WS_ct, WS_nil, WS_cons, WS_expr, WS_asg, WS_par, WS_setSub, WS_setAtt, WS_ife, WS_ret, WS_retN, WS_ite, sm_v, sm_t, ev, evL, evEs, evAnd, evOr, evAndT, evOrT, evChain, evSlc, dflT, prm, two, one, bltW, bl1, bl2, negW, intOf, vD, vS, vL, conL, conD, vO, conO, truW, tgW_nm, tgW_tup, tgWs_nil, tgWs_cons, lenW, fullW, bindW_nil, kind_append, kind_extend, kind_pop, kind_popAt, kind_reverse, kind_clear, kind_insert, kind_index, kind_join, kind_split, kind_upper, kind_startswith, kind_count, isStrW, newL, newD, wipeW, sizeLine_eq, if_true, if_false, Bool.false_eq_true, not_false_eq_true, not_true_eq_false, bin_addI, bin_subI, cmp_eqI, cmp_eqT, cmp_neT, cmp_gtI, cmp_ltI, cmp_leI, int_bl, idx_t0, idx_t1, idx_l0, idx_l1, pow_25, pow_9, pow_20, List.length_cons, List.length_nil, Nat.zero_add, List.set_cons_zero, List.set_cons_succ, List.getElem?_cons_zero, List.getElem?_cons_succ]
    exact ⟨hp, q⟩
theorem wp_double {B : Int} {fs : List Fd} {xs bs ys : List W} {M : Store} {Q : W → Store → Prop} (hf : FdsOk fs) (hl : fs.length ≤ 1000) (hB : 0 ≤ B) (hx : RowOk B fs xs) (hb : RowOk B fs bs) (hy : RowOk B fs ys) (q : Q (.tup (pickR fs xs (pickR fs xs bs ys) ys)) M) :
    WP (callW F_double_pick.sem true [schW fs, .tup xs, .tup bs, .tup ys] M) Q := by
  have h1 := pickR_ok hf hB hx hb hy
  have h2 := pickR_ok hf (by omega) (hx.mono (B' := 3 * B) (by omega)) h1 (hy.mono (B' := 3 * B) (by omega))
  refine wp_flat (by simp [flatW, schW_pure, pureW, hx.pure, hb.pure, hy.pure]) ?_
  rw [se_double_pick]; refine WP_run (show _ = _ from rfl) ?_
  simp [B_double_pick, D_double_pick, ps_double_pick, fn_double_pick_pick, ps_pick, WP_ok, WP_err, WP_bind, WP_ite, need_some, needS_some, res_ok, thenS_ok, WS_thenS, WS_nx, WS_rt, WS_bk, WS_ct, WS_nil, WS_cons, WS_expr, WS_asg, WS_par, WS_setSub, WS_setAtt, WS_ife, WS_ret, WS_retN, WS_ite, sm_v, sm_t, ev, evL, evEs, evAnd, evOr, evAndT, evOrT, evChain, evSlc, dflT, prm, two, one, bltW, bl1, bl2, negW, intOf, vD, vS, vL, conL, conD, vO, conO, truW, tgW_nm, tgW_tup, tgWs_nil, tgWs_cons, lenW, fullW, bindW_nil, kind_append, kind_extend, kind_pop, kind_popAt, kind_reverse, kind_clear, kind_insert, kind_index, kind_join, kind_split, kind_upper, kind_startswith, kind_count, isStrW, newL, newD, wipeW, sizeLine_eq, if_true, if_false, Bool.false_eq_true, not_false_eq_true, not_true_eq_false, bin_addI, bin_subI, cmp_eqI, cmp_eqT, cmp_neT, cmp_gtI, cmp_ltI, cmp_leI, int_bl, idx_t0, idx_t1, idx_l0, idx_l1, pow_25, pow_9, pow_20, List.length_cons, List.length_nil, Nat.zero_add, List.set_cons_zero, List.set_cons_succ, List.getElem?_cons_zero, List.getElem?_cons_succ]
  refine wp_pick hf hl hB hx hb hy ?_
  refine wp_pick hf hl (B := 3 * B) (by omega) (hx.mono (by omega)) h1 (hy.mono (by omega)) ?_
  exact ⟨h2.pure, q⟩
def LPickI (fs : List Fd) (xs bs ys : List W) (i : Nat) (l : LM) (M : Store) : Prop := ∃ (a b c d e : Option W), l = [some (.lst (fdsW fs)), some (.tup xs), some (.tup bs), some (.tup ys), some (.ref 0), a, b, c, d, e] ∧ M = [⟨true, .lst ((pickR fs xs bs ys).take i)⟩]
theorem wp_lawpick {B : Int} {fs : List Fd} {xs bs ys : List W} {M : Store} {Q : W → Store → Prop} (hf : FdsOk fs) (hl : fs.length ≤ 1000) (hB : 0 ≤ B) (hx : RowOk B fs xs) (hb : RowOk B fs bs) (hy : RowOk B fs ys) (q : Q (.tup (pickR fs xs bs ys)) M) :
    WP (callW F_law_pick.sem true [.lst (fdsW fs), .tup xs, .tup bs, .tup ys] M) Q := by
  have hp := (pickR_ok hf hB hx hb hy).pure
  refine wp_flat (by simp [flatW, fdsW_pure, pureW, hx.pure, hb.pure, hy.pure]) ?_
  rw [se_law_pick]; refine WP_run (show _ = _ from rfl) ?_
  simp [B_law_pick, D_law_pick, X1_law_pick, ps_law_pick, WP_ok, WP_err, WP_bind, WP_ite, need_some, needS_some, res_ok, thenS_ok, WS_thenS, WS_nx, WS_rt, WS_bk, WS_ct, WS_nil, WS_cons, WS_expr, WS_asg, WS_par, WS_setSub, WS_setAtt, WS_ife, WS_ret, WS_retN, WS_ite, sm_v, sm_t, ev, evL, evEs, evAnd, evOr, evAndT, evOrT, evChain, evSlc, dflT, prm, two, one, bltW, bl1, bl2, negW, intOf, vD, vS, vL, conL, conD, vO, conO, truW, tgW_nm, tgW_tup, tgWs_nil, tgWs_cons, lenW, fullW, bindW_nil, kind_append, kind_extend, kind_pop, kind_popAt, kind_reverse, kind_clear, kind_insert, kind_index, kind_join, kind_split, kind_upper, kind_startswith, kind_count, isStrW, newL, newD, wipeW, sizeLine_eq, if_true, if_false, Bool.false_eq_true, not_false_eq_true, not_true_eq_false, bin_addI, bin_subI, cmp_eqI, cmp_eqT, cmp_neT, cmp_gtI, cmp_ltI, cmp_leI, int_bl, idx_t0, idx_t1, idx_l0, idx_l1, pow_25, pow_9, pow_20, List.length_cons, List.length_nil, Nat.zero_add, List.set_cons_zero, List.set_cons_succ, List.getElem?_cons_zero, List.getElem?_cons_succ]
  refine WS_for ?_
  simp [WP_ok, WP_err, WP_bind, WP_ite, need_some, needS_some, res_ok, thenS_ok, WS_thenS, WS_nx, WS_rt, WS_bk, WS_ct, WS_nil, WS_cons, WS_expr, WS_asg, WS_par, WS_setSub, WS_setAtt, WS_ife, WS_ret, WS_retN, WS_ite, sm_v, sm_t, ev, evL, evEs, evAnd, evOr, evAndT, evOrT, evChain, evSlc, dflT, prm, two, one, bltW, bl1, bl2, negW, intOf, vD, vS, vL, conL, conD, vO, conO, truW, tgW_nm, tgW_tup, tgWs_nil, tgWs_cons, lenW, fullW, bindW_nil, kind_append, kind_extend, kind_pop, kind_popAt, kind_reverse, kind_clear, kind_insert, kind_index, kind_join, kind_split, kind_upper, kind_startswith, kind_count, isStrW, newL, newD, wipeW, sizeLine_eq, if_true, if_false, Bool.false_eq_true, not_false_eq_true, not_true_eq_false, bin_addI, bin_subI, cmp_eqI, cmp_eqT, cmp_neT, cmp_gtI, cmp_ltI, cmp_leI, int_bl, idx_t0, idx_t1, idx_l0, idx_l1, pow_25, pow_9, pow_20, List.length_cons, List.length_nil, Nat.zero_add, List.set_cons_zero, List.set_cons_succ, List.getElem?_cons_zero, List.getElem?_cons_succ]
  refine ⟨_, enum_items, LPickI fs xs bs ys, ⟨_, _, _, _, _, rfl, rfl⟩, ?_, ?_⟩
  · rintro i x l M hx1 ⟨a, b, c, d, e, rfl, rfl⟩
    obtain ⟨w, hw, rfl⟩ := enum_get hx1
    obtain ⟨f, hfi, rfl⟩ := fdsW_get hw
    have hi := (List.getElem?_eq_some_iff.mp hfi).1
    have hk := hf.kat hi
    have v1 := hx.at hi
    have v2 := hb.at hi
    have v3 := hy.at hi
    have hg := pickR_get (fs := fs) (xs := xs) (bs := bs) (ys := ys) hi
    have htk : (pickR fs xs bs ys).take i ++ [pickV (kdAt fs i) (gW xs i) (gW bs i) (gW ys i)] = (pickR fs xs bs ys).take (i + 1) := by
      rw [List.take_add_one, hg]; rfl
    have hlen : ((pickR fs xs bs ys).take i).length < 16777216 := by simp [pickR_len]; omega
    rw [kdAt_of hfi] at hk v1 v2 v3 htk
    have e1 := fun M => cmp_Eq (M := M) (eqW_vEq (M := M) v1 v2)
    have e2 := fun M => cmp_Eq (M := M) (eqW_vEq (M := M) v3 v2)
    refine ⟨_, rfl, ?_⟩
    have fin : ∀ l1 : LM, (∃ a b c d e, l1 = [some (.lst (fdsW fs)), some (.tup xs), some (.tup bs), some (.tup ys), some (.ref 0), a, b, c, d, e]) → WP (mthW .append true [.ref 0, pickV f.2 (gW xs i) (gW bs i) (gW ys i)] [⟨true, .lst ((pickR fs xs bs ys).take i)⟩]) fun x M1 =>
        itemsW .enum [.lst (fdsW fs)] M1 = some ((List.range (fdsW fs).length).zipWith (fun (i : Nat) w => .tup [.int (i : Int), w]) (fdsW fs)) ∧ LPickI fs xs bs ys (i + 1) l1 M1 := by
      rintro l1 ⟨a, b, c, d, e, rfl⟩
      rw [mth_app (x := (pickR fs xs bs ys).take i) rfl hlen, htk]
      simp only [WP_ok, List.set_cons_zero, List.set_cons_succ, List.getElem?_cons_zero, List.getElem?_cons_succ]
      exact ⟨enum_items, a, b, c, d, e, rfl, rfl⟩
    simp [B_law_pick, D_law_pick, X1_law_pick, ps_law_pick, WP_ok, WP_err, WP_bind, WP_ite, need_some, needS_some, res_ok, thenS_ok, WS_thenS, WS_nx, WS_rt, WS_bk, WS_ct, WS_nil, WS_cons, WS_expr, WS_asg, WS_par, WS_setSub, WS_setAtt, WS_ife, WS_ret, WS_retN, WS_ite, sm_v, sm_t, ev, evL, evEs, evAnd, evOr, evAndT, evOrT, evChain, evSlc, dflT, prm, two, one, bltW, bl1, bl2, negW, intOf, vD, vS, vL, conL, conD, vO, conO, truW, tgW_nm, tgW_tup, tgWs_nil, tgWs_cons, lenW, fullW, bindW_nil, kind_append, kind_extend, kind_pop, kind_popAt, kind_reverse, kind_clear, kind_insert, kind_index, kind_join, kind_split, kind_upper, kind_startswith, kind_count, isStrW, newL, newD, wipeW, sizeLine_eq, if_true, if_false, Bool.false_eq_true, not_false_eq_true, not_true_eq_false, bin_addI, bin_subI, cmp_eqI, cmp_eqT, cmp_neT, cmp_gtI, cmp_ltI, cmp_leI, int_bl, idx_t0, idx_t1, idx_l0, idx_l1, pow_25, pow_9, pow_20, List.length_cons, List.length_nil, Nat.zero_add, List.set_cons_zero, List.set_cons_succ, List.getElem?_cons_zero, List.getElem?_cons_succ, fdW, idx_tupN (get_gW (ws := xs) (i := i) (by rw [hx.len]; exact hi)), idx_tupN (get_gW (ws := bs) (i := i) (by rw [hb.len]; exact hi)), idx_tupN (get_gW (ws := ys) (i := i) (by rw [hy.len]; exact hi))]
    rcases kinds3_cases hk with h | h | h
    · rw [h] at fin
      simp [h, WP_ok, WP_err, WP_bind, WP_ite, need_some, needS_some, res_ok, thenS_ok, WS_thenS, WS_nx, WS_rt, WS_bk, WS_ct, WS_nil, WS_cons, WS_expr, WS_asg, WS_par, WS_setSub, WS_setAtt, WS_ife, WS_ret, WS_retN, WS_ite, sm_v, sm_t, ev, evL, evEs, evAnd, evOr, evAndT, evOrT, evChain, evSlc, dflT, prm, two, one, bltW, bl1, bl2, negW, intOf, vD, vS, vL, conL, conD, vO, conO, truW, tgW_nm, tgW_tup, tgWs_nil, tgWs_cons, lenW, fullW, bindW_nil, kind_append, kind_extend, kind_pop, kind_popAt, kind_reverse, kind_clear, kind_insert, kind_index, kind_join, kind_split, kind_upper, kind_startswith, kind_count, isStrW, newL, newD, wipeW, sizeLine_eq, if_true, if_false, Bool.false_eq_true, not_false_eq_true, not_true_eq_false, bin_addI, bin_subI, cmp_eqI, cmp_eqT, cmp_neT, cmp_gtI, cmp_ltI, cmp_leI, int_bl, idx_t0, idx_t1, idx_l0, idx_l1, pow_25, pow_9, pow_20, List.length_cons, List.length_nil, Nat.zero_add, List.set_cons_zero, List.set_cons_succ, List.getElem?_cons_zero, List.getElem?_cons_succ, ne_mc, e1]
      unfold pickV at fin
      rw [if_pos rfl] at fin
      by_cases hv : vEq (gW xs i) (gW bs i) = true
      · simp [hv, WP_ok, WP_err, WP_bind, WP_ite, need_some, needS_some, res_ok, thenS_ok, WS_thenS, WS_nx, WS_rt, WS_bk, WS_ct, WS_nil, WS_cons, WS_expr, WS_asg, WS_par, WS_setSub, WS_setAtt, WS_ife, WS_ret, WS_retN, WS_ite, sm_v, sm_t, ev, evL, evEs, evAnd, evOr, evAndT, evOrT, evChain, evSlc, dflT, prm, two, one, bltW, bl1, bl2, negW, intOf, vD, vS, vL, conL, conD, vO, conO, truW, tgW_nm, tgW_tup, tgWs_nil, tgWs_cons, lenW, fullW, bindW_nil, kind_append, kind_extend, kind_pop, kind_popAt, kind_reverse, kind_clear, kind_insert, kind_index, kind_join, kind_split, kind_upper, kind_startswith, kind_count, isStrW, newL, newD, wipeW, sizeLine_eq, if_true, if_false, Bool.false_eq_true, not_false_eq_true, not_true_eq_false, bin_addI, bin_subI, cmp_eqI, cmp_eqT, cmp_neT, cmp_gtI, cmp_ltI, cmp_leI, int_bl, idx_t0, idx_t1, idx_l0, idx_l1, pow_25, pow_9, pow_20, List.length_cons, List.length_nil, Nat.zero_add, List.set_cons_zero, List.set_cons_succ, List.getElem?_cons_zero, List.getElem?_cons_succ] at fin ⊢
        exact fin _ _ _ _ _ _ rfl
      · simp [hv, WP_ok, WP_err, WP_bind, WP_ite, need_some, needS_some, res_ok, thenS_ok, WS_thenS, WS_nx, WS_rt, WS_bk, WS_ct, WS_nil, WS_cons, WS_expr, WS_asg, WS_par, WS_setSub, WS_setAtt, WS_ife, WS_ret, WS_retN, WS_ite, sm_v, sm_t, ev, evL, evEs, evAnd, evOr, evAndT, evOrT, evChain, evSlc, dflT, prm, two, one, bltW, bl1, bl2, negW, intOf, vD, vS, vL, conL, conD, vO, conO, truW, tgW_nm, tgW_tup, tgWs_nil, tgWs_cons, lenW, fullW, bindW_nil, kind_append, kind_extend, kind_pop, kind_popAt, kind_reverse, kind_clear, kind_insert, kind_index, kind_join, kind_split, kind_upper, kind_startswith, kind_count, isStrW, newL, newD, wipeW, sizeLine_eq, if_true, if_false, Bool.false_eq_true, not_false_eq_true, not_true_eq_false, bin_addI, bin_subI, cmp_eqI, cmp_eqT, cmp_neT, cmp_gtI, cmp_ltI, cmp_leI, int_bl, idx_t0, idx_t1, idx_l0, idx_l1, pow_25, pow_9, pow_20, List.length_cons, List.length_nil, Nat.zero_add, List.set_cons_zero, List.set_cons_succ, List.getElem?_cons_zero, List.getElem?_cons_succ] at fin ⊢
        exact fin _ _ _ _ _ _ rfl
    · rw [h] at fin
      simp [h, WP_ok, WP_err, WP_bind, WP_ite, need_some, needS_some, res_ok, thenS_ok, WS_thenS, WS_nx, WS_rt, WS_bk, WS_ct, WS_nil, WS_cons, WS_expr, WS_asg, WS_par, WS_setSub, WS_setAtt, WS_ife, WS_ret, WS_retN, WS_ite, sm_v, sm_t, ev, evL, evEs, evAnd, evOr, evAndT, evOrT, evChain, evSlc, dflT, prm, two, one, bltW, bl1, bl2, negW, intOf, vD, vS, vL, conL, conD, vO, conO, truW, tgW_nm, tgW_tup, tgWs_nil, tgWs_cons, lenW, fullW, bindW_nil, kind_append, kind_extend, kind_pop, kind_popAt, kind_reverse, kind_clear, kind_insert, kind_index, kind_join, kind_split, kind_upper, kind_startswith, kind_count, isStrW, newL, newD, wipeW, sizeLine_eq, if_true, if_false, Bool.false_eq_true, not_false_eq_true, not_true_eq_false, bin_addI, bin_subI, cmp_eqI, cmp_eqT, cmp_neT, cmp_gtI, cmp_ltI, cmp_leI, int_bl, idx_t0, idx_t1, idx_l0, idx_l1, pow_25, pow_9, pow_20, List.length_cons, List.length_nil, Nat.zero_add, List.set_cons_zero, List.set_cons_succ, List.getElem?_cons_zero, List.getElem?_cons_succ, ne_tc, ne_mt, e2]
      unfold pickV at fin
      rw [if_neg ne_mt, if_pos rfl] at fin
      by_cases hv : vEq (gW ys i) (gW bs i) = true
      · simp [hv, WP_ok, WP_err, WP_bind, WP_ite, need_some, needS_some, res_ok, thenS_ok, WS_thenS, WS_nx, WS_rt, WS_bk, WS_ct, WS_nil, WS_cons, WS_expr, WS_asg, WS_par, WS_setSub, WS_setAtt, WS_ife, WS_ret, WS_retN, WS_ite, sm_v, sm_t, ev, evL, evEs, evAnd, evOr, evAndT, evOrT, evChain, evSlc, dflT, prm, two, one, bltW, bl1, bl2, negW, intOf, vD, vS, vL, conL, conD, vO, conO, truW, tgW_nm, tgW_tup, tgWs_nil, tgWs_cons, lenW, fullW, bindW_nil, kind_append, kind_extend, kind_pop, kind_popAt, kind_reverse, kind_clear, kind_insert, kind_index, kind_join, kind_split, kind_upper, kind_startswith, kind_count, isStrW, newL, newD, wipeW, sizeLine_eq, if_true, if_false, Bool.false_eq_true, not_false_eq_true, not_true_eq_false, bin_addI, bin_subI, cmp_eqI, cmp_eqT, cmp_neT, cmp_gtI, cmp_ltI, cmp_leI, int_bl, idx_t0, idx_t1, idx_l0, idx_l1, pow_25, pow_9, pow_20, List.length_cons, List.length_nil, Nat.zero_add, List.set_cons_zero, List.set_cons_succ, List.getElem?_cons_zero, List.getElem?_cons_succ] at fin ⊢
        exact fin _ _ _ _ _ _ rfl
      · simp [hv, WP_ok, WP_err, WP_bind, WP_ite, need_some, needS_some, res_ok, thenS_ok, WS_thenS, WS_nx, WS_rt, WS_bk, WS_ct, WS_nil, WS_cons, WS_expr, WS_asg, WS_par, WS_setSub, WS_setAtt, WS_ife, WS_ret, WS_retN, WS_ite, sm_v, sm_t, ev, evL, evEs, evAnd, evOr, evAndT, evOrT, evChain, evSlc, dflT, prm, two, one, bltW, bl1, bl2, negW, intOf, vD, vS, vL, conL, conD, vO, conO, truW, tgW_nm, tgW_tup, tgWs_nil, tgWs_cons, lenW, fullW, bindW_nil, kind_append, kind_extend, kind_pop, kind_popAt, kind_reverse, kind_clear, kind_insert, kind_index, kind_join, kind_split, kind_upper, kind_startswith, kind_count, isStrW, newL, newD, wipeW, sizeLine_eq, if_true, if_false, Bool.false_eq_true, not_false_eq_true, not_true_eq_false, bin_addI, bin_subI, cmp_eqI, cmp_eqT, cmp_neT, cmp_gtI, cmp_ltI, cmp_leI, int_bl, idx_t0, idx_t1, idx_l0, idx_l1, pow_25, pow_9, pow_20, List.length_cons, List.length_nil, Nat.zero_add, List.set_cons_zero, List.set_cons_succ, List.getElem?_cons_zero, List.getElem?_cons_succ] at fin ⊢
        exact fin _ _ _ _ _ _ rfl
    · rw [h] at fin v1 v2 v3
      simp only [h]
      unfold pickV at fin
      rw [if_neg ne_cm, if_neg ne_ct] at fin
      unfold ValE at v1 v2 v3
      rw [if_pos isC_c] at v1 v2 v3
      obtain ⟨p1, h1, _⟩ := v1
      obtain ⟨p2, h2, _⟩ := v2
      obtain ⟨p3, h3, _⟩ := v3
      rw [h1, h2, h3] at fin ⊢
      simp [WP_ok, WP_err, WP_bind, WP_ite, need_some, needS_some, res_ok, thenS_ok, WS_thenS, WS_nx, WS_rt, WS_bk, WS_ct, WS_nil, WS_cons, WS_expr, WS_asg, WS_par, WS_setSub, WS_setAtt, WS_ife, WS_ret, WS_retN, WS_ite, sm_v, sm_t, ev, evL, evEs, evAnd, evOr, evAndT, evOrT, evChain, evSlc, dflT, prm, two, one, bltW, bl1, bl2, negW, intOf, vD, vS, vL, conL, conD, vO, conO, truW, tgW_nm, tgW_tup, tgWs_nil, tgWs_cons, lenW, fullW, bindW_nil, kind_append, kind_extend, kind_pop, kind_popAt, kind_reverse, kind_clear, kind_insert, kind_index, kind_join, kind_split, kind_upper, kind_startswith, kind_count, isStrW, newL, newD, wipeW, sizeLine_eq, if_true, if_false, Bool.false_eq_true, not_false_eq_true, not_true_eq_false, bin_addI, bin_subI, cmp_eqI, cmp_eqT, cmp_neT, cmp_gtI, cmp_ltI, cmp_leI, int_bl, idx_t0, idx_t1, idx_l0, idx_l1, pow_25, pow_9, pow_20, List.length_cons, List.length_nil, Nat.zero_add, List.set_cons_zero, List.set_cons_succ, List.getElem?_cons_zero, List.getElem?_cons_succ, iv] at fin ⊢
      exact fin _ _ _ _ _ _ rfl
  · rintro l M ⟨a, b, c, d, e, rfl, rfl⟩
    have ht : (pickR fs xs bs ys).take ((List.range (fdsW fs).length).zipWith (fun (i : Nat) w => W.tup [.int (i : Int), w]) (fdsW fs)).length = pickR fs xs bs ys := by
      rw [List.take_of_length_le]
      rw [enum_len, pickR_len]; simp [fdsW]
    rw [ht]
    simp [WP_ok, WP_err, WP_bind, WP_ite, need_some, needS_some, res_ok, thenS_ok, WS_thenS, WS_nx, WS_rt, WS_bk, WS_ct, WS_nil, WS_cons, WS_expr, WS_asg, WS_par, WS_setSub, WS_setAtt, WS_ife, WS_ret, WS_retN, WS_ite, sm_v, sm_t, ev, evL, evEs, evAnd, evOr, evAndT, evOrT, evChain, evSlc, dflT, prm, two, one, bltW, bl1, bl2, negW, intOf, vD, vS, vL, conL, conD, vO, conO, truW, tgW_nm, tgW_tup, tgWs_nil, tgWs_cons, lenW, fullW, bindW_nil, kind_append, kind_extend, kind_pop, kind_popAt, kind_reverse, kind_clear, kind_insert, kind_index, kind_join, kind_split, kind_upper, kind_startswith, kind_count, isStrW, newL, newD, wipeW, sizeLine_eq, if_true, if_false, Bool.false_eq_true, not_false_eq_true, not_true_eq_false, bin_addI, bin_subI, cmp_eqI, cmp_eqT, cmp_neT, cmp_gtI, cmp_ltI, cmp_leI, int_bl, idx_t0, idx_t1, idx_l0, idx_l1, pow_25, pow_9, pow_20, List.length_cons, List.length_nil, Nat.zero_add, List.set_cons_zero, List.set_cons_succ, List.getElem?_cons_zero, List.getElem?_cons_succ]
    exact ⟨hp, q⟩
end PyL

open PySem PySem.Spec PyProof.Rows L2 PyI
namespace PyL
theorem pol_in {k : Str} {M : Store} (hk : k ∈ kinds3) : inW M (.str k) (.tup [.str "mine", .str "theirs"]) = some (decide (k ∈ ([("mine" : Str), ("theirs" : Str)] : List Str))) :=
  inW_strs (ss := [("mine" : Str), ("theirs" : Str)]) (by simp) rfl rfl (by intro t ht; exact kinds_ok (by simp at ht; rcases ht with rfl | rfl <;> simp [kinds3])) (kinds_ok hk)
theorem wp_isfield {f : Fd} {M : Store} {Q : W → Store → Prop} (h1 : Wd f.1) (h2 : f.2 ∈ kinds3) (q : Q (.bl true) M) : WP (callW F_is_field.sem true [fdW f] M) Q := by
  refine wp_flat rfl ?_
  rw [se_is_field]; refine WP_run (show _ = _ from rfl) ?_
  have hc : ∀ M, cmpW .NotEq (.int 2) (.int 2) M = .ok (.bl false) M := fun M => by rw [cmp_Ne eqW_ints]; rfl
  simp [B_is_field, D_is_field, ps_is_field, fn_is_field_is_name, ps_is_name, co_is_field_POLICIES, co_is_field_COUNTER, WP_ok, WP_err, WP_bind, WP_ite, need_some, needS_some, res_ok, thenS_ok, WS_thenS, WS_nx, WS_rt, WS_bk, WS_ct, WS_nil, WS_cons, WS_expr, WS_asg, WS_par, WS_setSub, WS_setAtt, WS_ife, WS_ret, WS_retN, WS_ite, sm_v, sm_t, ev, evL, evEs, evAnd, evOr, evAndT, evOrT, evChain, evSlc, dflT, prm, two, one, bltW, bl1, bl2, negW, intOf, vD, vS, vL, conL, conD, vO, conO, truW, tgW_nm, tgW_tup, tgWs_nil, tgWs_cons, lenW, fullW, bindW_nil, kind_append, kind_extend, kind_pop, kind_popAt, kind_reverse, kind_clear, kind_insert, kind_index, kind_join, kind_split, kind_upper, kind_startswith, kind_count, isStrW, newL, newD, wipeW, sizeLine_eq, if_true, if_false, Bool.false_eq_true, not_false_eq_true, not_true_eq_false, bin_addI, bin_subI, cmp_eqI, cmp_eqT, cmp_neT, cmp_gtI, cmp_ltI, cmp_leI, int_bl, idx_t0, idx_t1, idx_l0, idx_l1, pow_25, pow_9, pow_20, List.length_cons, List.length_nil, Nat.zero_add, List.set_cons_zero, List.set_cons_succ, List.getElem?_cons_zero, List.getElem?_cons_succ, tyW, isiAll, isiOne, ask_tuple, ask_str, fdW, hc]
  refine wp_isname (by have := h1.most; omega) ?_
  rw [h1.b]
  simp [WP_ok, WP_err, WP_bind, WP_ite, need_some, needS_some, res_ok, thenS_ok, WS_thenS, WS_nx, WS_rt, WS_bk, WS_ct, WS_nil, WS_cons, WS_expr, WS_asg, WS_par, WS_setSub, WS_setAtt, WS_ife, WS_ret, WS_retN, WS_ite, sm_v, sm_t, ev, evL, evEs, evAnd, evOr, evAndT, evOrT, evChain, evSlc, dflT, prm, two, one, bltW, bl1, bl2, negW, intOf, vD, vS, vL, conL, conD, vO, conO, truW, tgW_nm, tgW_tup, tgWs_nil, tgWs_cons, lenW, fullW, bindW_nil, kind_append, kind_extend, kind_pop, kind_popAt, kind_reverse, kind_clear, kind_insert, kind_index, kind_join, kind_split, kind_upper, kind_startswith, kind_count, isStrW, newL, newD, wipeW, sizeLine_eq, if_true, if_false, Bool.false_eq_true, not_false_eq_true, not_true_eq_false, bin_addI, bin_subI, cmp_eqI, cmp_eqT, cmp_neT, cmp_gtI, cmp_ltI, cmp_leI, int_bl, idx_t0, idx_t1, idx_l0, idx_l1, pow_25, pow_9, pow_20, List.length_cons, List.length_nil, Nat.zero_add, List.set_cons_zero, List.set_cons_succ, List.getElem?_cons_zero, List.getElem?_cons_succ]
  rw [cmp_In (pol_in h2)]
  rcases kinds3_cases h2 with h | h | h
  · simp [h, WP_ok, WP_err, WP_bind, WP_ite, need_some, needS_some, res_ok, thenS_ok, WS_thenS, WS_nx, WS_rt, WS_bk, WS_ct, WS_nil, WS_cons, WS_expr, WS_asg, WS_par, WS_setSub, WS_setAtt, WS_ife, WS_ret, WS_retN, WS_ite, sm_v, sm_t, ev, evL, evEs, evAnd, evOr, evAndT, evOrT, evChain, evSlc, dflT, prm, two, one, bltW, bl1, bl2, negW, intOf, vD, vS, vL, conL, conD, vO, conO, truW, tgW_nm, tgW_tup, tgWs_nil, tgWs_cons, lenW, fullW, bindW_nil, kind_append, kind_extend, kind_pop, kind_popAt, kind_reverse, kind_clear, kind_insert, kind_index, kind_join, kind_split, kind_upper, kind_startswith, kind_count, isStrW, newL, newD, wipeW, sizeLine_eq, if_true, if_false, Bool.false_eq_true, not_false_eq_true, not_true_eq_false, bin_addI, bin_subI, cmp_eqI, cmp_eqT, cmp_neT, cmp_gtI, cmp_ltI, cmp_leI, int_bl, idx_t0, idx_t1, idx_l0, idx_l1, pow_25, pow_9, pow_20, List.length_cons, List.length_nil, Nat.zero_add, List.set_cons_zero, List.set_cons_succ, List.getElem?_cons_zero, List.getElem?_cons_succ, pureW, q]
  · simp [h, WP_ok, WP_err, WP_bind, WP_ite, need_some, needS_some, res_ok, thenS_ok, WS_thenS, WS_nx, WS_rt, WS_bk, WS_ct, WS_nil, WS_cons, WS_expr, WS_asg, WS_par, WS_setSub, WS_setAtt, WS_ife, WS_ret, WS_retN, WS_ite, sm_v, sm_t, ev, evL, evEs, evAnd, evOr, evAndT, evOrT, evChain, evSlc, dflT, prm, two, one, bltW, bl1, bl2, negW, intOf, vD, vS, vL, conL, conD, vO, conO, truW, tgW_nm, tgW_tup, tgWs_nil, tgWs_cons, lenW, fullW, bindW_nil, kind_append, kind_extend, kind_pop, kind_popAt, kind_reverse, kind_clear, kind_insert, kind_index, kind_join, kind_split, kind_upper, kind_startswith, kind_count, isStrW, newL, newD, wipeW, sizeLine_eq, if_true, if_false, Bool.false_eq_true, not_false_eq_true, not_true_eq_false, bin_addI, bin_subI, cmp_eqI, cmp_eqT, cmp_neT, cmp_gtI, cmp_ltI, cmp_leI, int_bl, idx_t0, idx_t1, idx_l0, idx_l1, pow_25, pow_9, pow_20, List.length_cons, List.length_nil, Nat.zero_add, List.set_cons_zero, List.set_cons_succ, List.getElem?_cons_zero, List.getElem?_cons_succ, pureW, q]
  · have : Str.ofString "counter" ∉ ([("mine" : Str), ("theirs" : Str)] : List Str) := by decide +kernel
    simp only [h, this, decide_false, WP_ok, WP_err, WP_bind, WP_ite, need_some, needS_some, res_ok, thenS_ok, WS_thenS, WS_nx, WS_rt, WS_bk, WS_ct, WS_nil, WS_cons, WS_expr, WS_asg, WS_par, WS_setSub, WS_setAtt, WS_ife, WS_ret, WS_retN, WS_ite, sm_v, sm_t, ev, evL, evEs, evAnd, evOr, evAndT, evOrT, evChain, evSlc, dflT, prm, two, one, bltW, bl1, bl2, negW, intOf, vD, vS, vL, conL, conD, vO, conO, truW, tgW_nm, tgW_tup, tgWs_nil, tgWs_cons, lenW, fullW, bindW_nil, kind_append, kind_extend, kind_pop, kind_popAt, kind_reverse, kind_clear, kind_insert, kind_index, kind_join, kind_split, kind_upper, kind_startswith, kind_count, isStrW, newL, newD, wipeW, sizeLine_eq, if_true, if_false, Bool.false_eq_true, not_false_eq_true, not_true_eq_false, bin_addI, bin_subI, cmp_eqI, cmp_eqT, cmp_neT, cmp_gtI, cmp_ltI, cmp_leI, int_bl, idx_t0, idx_t1, idx_l0, idx_l1, pow_25, pow_9, pow_20, List.length_cons, List.length_nil, Nat.zero_add, List.set_cons_zero, List.set_cons_succ, List.getElem?_cons_zero, List.getElem?_cons_succ]
    simp [WP_ok, WP_err, WP_bind, WP_ite, need_some, needS_some, res_ok, thenS_ok, WS_thenS, WS_nx, WS_rt, WS_bk, WS_ct, WS_nil, WS_cons, WS_expr, WS_asg, WS_par, WS_setSub, WS_setAtt, WS_ife, WS_ret, WS_retN, WS_ite, sm_v, sm_t, ev, evL, evEs, evAnd, evOr, evAndT, evOrT, evChain, evSlc, dflT, prm, two, one, bltW, bl1, bl2, negW, intOf, vD, vS, vL, conL, conD, vO, conO, truW, tgW_nm, tgW_tup, tgWs_nil, tgWs_cons, lenW, fullW, bindW_nil, kind_append, kind_extend, kind_pop, kind_popAt, kind_reverse, kind_clear, kind_insert, kind_index, kind_join, kind_split, kind_upper, kind_startswith, kind_count, isStrW, newL, newD, wipeW, sizeLine_eq, if_true, if_false, Bool.false_eq_true, not_false_eq_true, not_true_eq_false, bin_addI, bin_subI, cmp_eqI, cmp_eqT, cmp_neT, cmp_gtI, cmp_ltI, cmp_leI, int_bl, idx_t0, idx_t1, idx_l0, idx_l1, pow_25, pow_9, pow_20, List.length_cons, List.length_nil, Nat.zero_add, List.set_cons_zero, List.set_cons_succ, List.getElem?_cons_zero, List.getElem?_cons_succ, pureW, q]
/-- what a check has seen -/
def known (fs : List Fd) (i : Nat) : Con := .dct ((fs.take i).map fun f => Sum.inr f.1) ((List.range i).map fun (j : Nat) => .int (j : Int))
def nLab (fs : List Fd) (i : Nat) : Nat := ((fs.take i).map (·.2)).countP fun k => !isC k
def nCnt (fs : List Fd) (i : Nat) : Nat := ((fs.take i).map (·.2)).countP isC
def ChkI (fs : List Fd) (i : Nat) (l : LM) (M : Store) : Prop := ∃ (a b : Option W), l = [some (.lst (fdsW fs)), some (.ref 0), some (.int (nLab fs i)), some (.int (nCnt fs i)), a, b] ∧ M = [⟨true, known fs i⟩]
theorem nLab_le {fs : List Fd} {i : Nat} : nLab fs i ≤ cntL fs := by
  unfold nLab cntL
  exact List.Sublist.countP_le ((List.take_sublist i fs).map _)
theorem nCnt_le {fs : List Fd} {i : Nat} : nCnt fs i ≤ cntC fs := by
  unfold nCnt cntC
  exact List.Sublist.countP_le ((List.take_sublist i fs).map _)
theorem nLab_s {fs : List Fd} {i : Nat} {f : Fd} (h : fs[i]? = some f) : nLab fs (i + 1) = nLab fs i + (if isC f.2 then 0 else 1) := by
  unfold nLab
  rw [List.take_add_one, h]
  simp [List.countP_append]
  cases isC f.2 <;> rfl
theorem nCnt_s {fs : List Fd} {i : Nat} {f : Fd} (h : fs[i]? = some f) : nCnt fs (i + 1) = nCnt fs i + (if isC f.2 then 1 else 0) := by
  unfold nCnt
  rw [List.take_add_one, h]
  simp [List.countP_append]
theorem names_new {fs : List Fd} {i : Nat} {f : Fd} (hn : (fs.map (·.1)).Nodup) (h : fs[i]? = some f) : f.1 ∉ (fs.take i).map (·.1) := by
  intro hm
  rw [List.map_take] at hm
  have h1 : (fs.map (·.1))[i]? = some f.1 := by rw [List.getElem?_map, h]; rfl
  obtain ⟨j, hj, e⟩ := List.mem_iff_getElem.mp hm
  rw [List.length_take] at hj
  have hj2 : j < i := by omega
  rw [List.getElem_take] at e
  obtain ⟨hi, e2⟩ := List.getElem?_eq_some_iff.mp h1
  exact List.pairwise_iff_getElem.mp hn j i (by omega) hi hj2 (by rw [e, e2])
theorem wp_checkf {fs : List Fd} {M : Store} {Q : W → Store → Prop} (hf : FdsOk fs) (h0 : fs ≠ []) (hl : cntL fs ≤ 12) (hc : cntC fs ≤ 4) (hz : fs.length ≤ 1000) (q : Q .non M) : WP (callW F_check_fields.sem true [.lst (fdsW fs)] M) Q := by
  refine wp_flat (by simp [flatW, pureW, fdsW_pure]) ?_
  rw [se_check_fields]; refine WP_run (show _ = _ from rfl) ?_
  have hpos : 0 < fs.length := List.length_pos_iff.mpr h0
  have hne : ¬ (fs.length = 0) := by omega
  have hne2 : (fdsW fs).length = fs.length := by simp [fdsW]
  simp [B_check_fields, D_check_fields, X1_check_fields, ps_check_fields, fn_check_fields_is_field, ps_is_field, co_check_fields_COUNTER, co_check_fields_Schema, at_check_fields_Schema_MOST_LABELS, at_check_fields_Schema_MOST_COUNTERS, WP_ok, WP_err, WP_bind, WP_ite, need_some, needS_some, res_ok, thenS_ok, WS_thenS, WS_nx, WS_rt, WS_bk, WS_ct, WS_nil, WS_cons, WS_expr, WS_asg, WS_par, WS_setSub, WS_setAtt, WS_ife, WS_ret, WS_retN, WS_ite, sm_v, sm_t, ev, evL, evEs, evAnd, evOr, evAndT, evOrT, evChain, evSlc, dflT, prm, two, one, bltW, bl1, bl2, negW, intOf, vD, vS, vL, conL, conD, vO, conO, truW, tgW_nm, tgW_tup, tgWs_nil, tgWs_cons, lenW, fullW, bindW_nil, kind_append, kind_extend, kind_pop, kind_popAt, kind_reverse, kind_clear, kind_insert, kind_index, kind_join, kind_split, kind_upper, kind_startswith, kind_count, isStrW, newL, newD, wipeW, sizeLine_eq, if_true, if_false, Bool.false_eq_true, not_false_eq_true, not_true_eq_false, bin_addI, bin_subI, cmp_eqI, cmp_eqT, cmp_neT, cmp_gtI, cmp_ltI, cmp_leI, int_bl, idx_t0, idx_t1, idx_l0, idx_l1, pow_25, pow_9, pow_20, List.length_cons, List.length_nil, Nat.zero_add, List.set_cons_zero, List.set_cons_succ, List.getElem?_cons_zero, List.getElem?_cons_succ, tyW, isiAll, isiOne, ask_tuple, ask_list, hne2, hne]
  refine WS_for ?_
  simp [WP_ok, WP_err, WP_bind, WP_ite, need_some, needS_some, res_ok, thenS_ok, WS_thenS, WS_nx, WS_rt, WS_bk, WS_ct, WS_nil, WS_cons, WS_expr, WS_asg, WS_par, WS_setSub, WS_setAtt, WS_ife, WS_ret, WS_retN, WS_ite, sm_v, sm_t, ev, evL, evEs, evAnd, evOr, evAndT, evOrT, evChain, evSlc, dflT, prm, two, one, bltW, bl1, bl2, negW, intOf, vD, vS, vL, conL, conD, vO, conO, truW, tgW_nm, tgW_tup, tgWs_nil, tgWs_cons, lenW, fullW, bindW_nil, kind_append, kind_extend, kind_pop, kind_popAt, kind_reverse, kind_clear, kind_insert, kind_index, kind_join, kind_split, kind_upper, kind_startswith, kind_count, isStrW, newL, newD, wipeW, sizeLine_eq, if_true, if_false, Bool.false_eq_true, not_false_eq_true, not_true_eq_false, bin_addI, bin_subI, cmp_eqI, cmp_eqT, cmp_neT, cmp_gtI, cmp_ltI, cmp_leI, int_bl, idx_t0, idx_t1, idx_l0, idx_l1, pow_25, pow_9, pow_20, List.length_cons, List.length_nil, Nat.zero_add, List.set_cons_zero, List.set_cons_succ, List.getElem?_cons_zero, List.getElem?_cons_succ]
  refine ⟨_, enum_items, ChkI fs, ⟨none, none, rfl, rfl⟩, ?_, ?_⟩
  · rintro i x l M hx ⟨a, b, rfl, rfl⟩
    obtain ⟨w, hw, rfl⟩ := enum_get hx
    obtain ⟨f, hfi, rfl⟩ := fdsW_get hw
    have hi := (List.getElem?_eq_some_iff.mp hfi).1
    refine ⟨_, rfl, ?_⟩
    simp [B_check_fields, D_check_fields, X1_check_fields, ps_check_fields, fn_check_fields_is_field, ps_is_field, co_check_fields_COUNTER, co_check_fields_Schema, at_check_fields_Schema_MOST_LABELS, at_check_fields_Schema_MOST_COUNTERS, WP_ok, WP_err, WP_bind, WP_ite, need_some, needS_some, res_ok, thenS_ok, WS_thenS, WS_nx, WS_rt, WS_bk, WS_ct, WS_nil, WS_cons, WS_expr, WS_asg, WS_par, WS_setSub, WS_setAtt, WS_ife, WS_ret, WS_retN, WS_ite, sm_v, sm_t, ev, evL, evEs, evAnd, evOr, evAndT, evOrT, evChain, evSlc, dflT, prm, two, one, bltW, bl1, bl2, negW, intOf, vD, vS, vL, conL, conD, vO, conO, truW, tgW_nm, tgW_tup, tgWs_nil, tgWs_cons, lenW, fullW, bindW_nil, kind_append, kind_extend, kind_pop, kind_popAt, kind_reverse, kind_clear, kind_insert, kind_index, kind_join, kind_split, kind_upper, kind_startswith, kind_count, isStrW, newL, newD, wipeW, sizeLine_eq, if_true, if_false, Bool.false_eq_true, not_false_eq_true, not_true_eq_false, bin_addI, bin_subI, cmp_eqI, cmp_eqT, cmp_neT, cmp_gtI, cmp_ltI, cmp_leI, int_bl, idx_t0, idx_t1, idx_l0, idx_l1, pow_25, pow_9, pow_20, List.length_cons, List.length_nil, Nat.zero_add, List.set_cons_zero, List.set_cons_succ, List.getElem?_cons_zero, List.getElem?_cons_succ]
    refine wp_isfield (hf.wd f (List.mem_of_getElem? hfi)) (hf.kd f (List.mem_of_getElem? hfi)) ?_
    have hnew := names_new hf.nd hfi
    have hin : inW [⟨true, known fs i⟩] (.str f.1) (.ref 0) = some false := by
      unfold inW
      simp only [vD, known, List.getElem?_cons_zero, Option.bind_some, conD, keyOf, Option.map_some]
      congr 1
      rw [List.any_eq_false]
      intro z hz e
      obtain ⟨g, hg, rfl⟩ := List.mem_map.mp hz
      have e2 : g.1 = f.1 := by simpa using e
      exact hnew (List.mem_map.mpr ⟨g, hg, e2⟩)
    have hset : setSubW (.ref 0) (.str f.1) (.int (i : Int)) [⟨true, known fs i⟩] = some [⟨true, known fs (i + 1)⟩] := by
      unfold setSubW known
      simp only [List.getElem?_cons_zero, keyOf, Option.bind_some]
      rw [if_pos (by rw [sizeLine_eq]; simp; omega)]
      have hno : ((fs.take i).map fun f => (Sum.inr f.1 : Key)).any (fun a => decide (a = Sum.inr f.1)) = false := by
        rw [List.any_eq_false]
        intro z hz e
        obtain ⟨g, hg, rfl⟩ := List.mem_map.mp hz
        have e2 : g.1 = f.1 := by simpa using e
        exact hnew (List.mem_map.mpr ⟨g, hg, e2⟩)
      unfold putW
      rw [if_neg (by rw [hno]; simp), List.take_add_one, hfi, List.range_succ]
      simp
    simp [B_check_fields, D_check_fields, X1_check_fields, ps_check_fields, fn_check_fields_is_field, ps_is_field, co_check_fields_COUNTER, co_check_fields_Schema, at_check_fields_Schema_MOST_LABELS, at_check_fields_Schema_MOST_COUNTERS, WP_ok, WP_err, WP_bind, WP_ite, need_some, needS_some, res_ok, thenS_ok, WS_thenS, WS_nx, WS_rt, WS_bk, WS_ct, WS_nil, WS_cons, WS_expr, WS_asg, WS_par, WS_setSub, WS_setAtt, WS_ife, WS_ret, WS_retN, WS_ite, sm_v, sm_t, ev, evL, evEs, evAnd, evOr, evAndT, evOrT, evChain, evSlc, dflT, prm, two, one, bltW, bl1, bl2, negW, intOf, vD, vS, vL, conL, conD, vO, conO, truW, tgW_nm, tgW_tup, tgWs_nil, tgWs_cons, lenW, fullW, bindW_nil, kind_append, kind_extend, kind_pop, kind_popAt, kind_reverse, kind_clear, kind_insert, kind_index, kind_join, kind_split, kind_upper, kind_startswith, kind_count, isStrW, newL, newD, wipeW, sizeLine_eq, if_true, if_false, Bool.false_eq_true, not_false_eq_true, not_true_eq_false, bin_addI, bin_subI, cmp_eqI, cmp_eqT, cmp_neT, cmp_gtI, cmp_ltI, cmp_leI, int_bl, idx_t0, idx_t1, idx_l0, idx_l1, pow_25, pow_9, pow_20, List.length_cons, List.length_nil, Nat.zero_add, List.set_cons_zero, List.set_cons_succ, List.getElem?_cons_zero, List.getElem?_cons_succ, fdW, cmp_In hin, hset]
    have b1 := nLab_le (fs := fs) (i := i + 1)
    have b2 := nCnt_le (fs := fs) (i := i + 1)
    have s1 := nLab_s hfi
    have s2 := nCnt_s hfi
    by_cases hk : f.2 = Str.ofString "counter"
    · have hic := isC_true.mp hk
      rw [hic] at s1 s2
      simp at s1 s2
      simp only [hk, if_true]
      rw [WS_aug (w := .int (nCnt fs i)) rfl]
      have g1 : ¬ (12 : Int) < (nLab fs i : Int) := by omega
      have g2 : ¬ (4 : Int) < (nCnt fs i : Int) + 1 := by omega
      simp [B_check_fields, D_check_fields, X1_check_fields, ps_check_fields, fn_check_fields_is_field, ps_is_field, co_check_fields_COUNTER, co_check_fields_Schema, at_check_fields_Schema_MOST_LABELS, at_check_fields_Schema_MOST_COUNTERS, WP_ok, WP_err, WP_bind, WP_ite, need_some, needS_some, res_ok, thenS_ok, WS_thenS, WS_nx, WS_rt, WS_bk, WS_ct, WS_nil, WS_cons, WS_expr, WS_asg, WS_par, WS_setSub, WS_setAtt, WS_ife, WS_ret, WS_retN, WS_ite, sm_v, sm_t, ev, evL, evEs, evAnd, evOr, evAndT, evOrT, evChain, evSlc, dflT, prm, two, one, bltW, bl1, bl2, negW, intOf, vD, vS, vL, conL, conD, vO, conO, truW, tgW_nm, tgW_tup, tgWs_nil, tgWs_cons, lenW, fullW, bindW_nil, kind_append, kind_extend, kind_pop, kind_popAt, kind_reverse, kind_clear, kind_insert, kind_index, kind_join, kind_split, kind_upper, kind_startswith, kind_count, isStrW, newL, newD, wipeW, sizeLine_eq, if_true, if_false, Bool.false_eq_true, not_false_eq_true, not_true_eq_false, bin_addI, bin_subI, cmp_eqI, cmp_eqT, cmp_neT, cmp_gtI, cmp_ltI, cmp_leI, int_bl, idx_t0, idx_t1, idx_l0, idx_l1, pow_25, pow_9, pow_20, List.length_cons, List.length_nil, Nat.zero_add, List.set_cons_zero, List.set_cons_succ, List.getElem?_cons_zero, List.getElem?_cons_succ, augW, g1, g2]
      exact ⟨enum_items, _, _, by rw [s1, s2]; rfl, rfl⟩
    · have hic : isC f.2 = false := by
        cases h : isC f.2 with
        | false => rfl
        | true => exact absurd (isC_true.mpr h) hk
      rw [hic] at s1 s2
      simp at s1 s2
      simp only [hk, if_false]
      rw [WS_aug (w := .int (nLab fs i)) rfl]
      have g1 : ¬ (12 : Int) < (nLab fs i : Int) + 1 := by omega
      have g2 : ¬ (4 : Int) < (nCnt fs i : Int) := by omega
      simp [B_check_fields, D_check_fields, X1_check_fields, ps_check_fields, fn_check_fields_is_field, ps_is_field, co_check_fields_COUNTER, co_check_fields_Schema, at_check_fields_Schema_MOST_LABELS, at_check_fields_Schema_MOST_COUNTERS, WP_ok, WP_err, WP_bind, WP_ite, need_some, needS_some, res_ok, thenS_ok, WS_thenS, WS_nx, WS_rt, WS_bk, WS_ct, WS_nil, WS_cons, WS_expr, WS_asg, WS_par, WS_setSub, WS_setAtt, WS_ife, WS_ret, WS_retN, WS_ite, sm_v, sm_t, ev, evL, evEs, evAnd, evOr, evAndT, evOrT, evChain, evSlc, dflT, prm, two, one, bltW, bl1, bl2, negW, intOf, vD, vS, vL, conL, conD, vO, conO, truW, tgW_nm, tgW_tup, tgWs_nil, tgWs_cons, lenW, fullW, bindW_nil, kind_append, kind_extend, kind_pop, kind_popAt, kind_reverse, kind_clear, kind_insert, kind_index, kind_join, kind_split, kind_upper, kind_startswith, kind_count, isStrW, newL, newD, wipeW, sizeLine_eq, if_true, if_false, Bool.false_eq_true, not_false_eq_true, not_true_eq_false, bin_addI, bin_subI, cmp_eqI, cmp_eqT, cmp_neT, cmp_gtI, cmp_ltI, cmp_leI, int_bl, idx_t0, idx_t1, idx_l0, idx_l1, pow_25, pow_9, pow_20, List.length_cons, List.length_nil, Nat.zero_add, List.set_cons_zero, List.set_cons_succ, List.getElem?_cons_zero, List.getElem?_cons_succ, augW, g1, g2]
      exact ⟨enum_items, _, _, by rw [s1, s2]; rfl, rfl⟩
  · rintro l M ⟨a, b, rfl, rfl⟩
    exact ⟨rfl, q⟩
def DctI (fs : List Fd) (o : Cell) (i : Nat) (p : List Key × List W) (M : Store) : Prop := p = ((fs.take i).map (fun f => (Sum.inr f.1 : Key)), (List.range i).map fun (j : Nat) => W.int (j : Int)) ∧ M = [o]
theorem wp_schema {fs : List Fd} {M : Store} {Q : W → Store → Prop} (hf : FdsOk fs) (h0 : fs ≠ []) (hl : cntL fs ≤ 12) (hc : cntC fs ≤ 4) (hz : fs.length ≤ 1000) (q : Q (schW fs) M) : WP (makeW F_Schema___init.sem "Schema" true [.lst (fdsW fs)] M) Q := by
  refine wp_make (by simp [flatW, pureW, fdsW_pure]) ?_
  rw [se_Schema___init]; refine WP_run (show _ = _ from rfl) ?_
  simp [B_Schema___init, D_Schema___init, k1_Schema___init, v2_Schema___init, ps_Schema___init, fn_Schema___init_check_fields, ps_check_fields, fl_Schema___init_Schema_field_list, fl_Schema___init_Schema_places, WP_ok, WP_err, WP_bind, WP_ite, need_some, needS_some, res_ok, thenS_ok, WS_thenS, WS_nx, WS_rt, WS_bk, WS_ct, WS_nil, WS_cons, WS_expr, WS_asg, WS_par, WS_setSub, WS_setAtt, WS_ife, WS_ret, WS_retN, WS_ite, sm_v, sm_t, ev, evL, evEs, evAnd, evOr, evAndT, evOrT, evChain, evSlc, dflT, prm, two, one, bltW, bl1, bl2, negW, intOf, vD, vS, vL, conL, conD, vO, conO, truW, tgW_nm, tgW_tup, tgWs_nil, tgWs_cons, lenW, fullW, bindW_nil, kind_append, kind_extend, kind_pop, kind_popAt, kind_reverse, kind_clear, kind_insert, kind_index, kind_join, kind_split, kind_upper, kind_startswith, kind_count, isStrW, newL, newD, wipeW, sizeLine_eq, if_true, if_false, Bool.false_eq_true, not_false_eq_true, not_true_eq_false, bin_addI, bin_subI, cmp_eqI, cmp_eqT, cmp_neT, cmp_gtI, cmp_ltI, cmp_leI, int_bl, idx_t0, idx_t1, idx_l0, idx_l1, pow_25, pow_9, pow_20, List.length_cons, List.length_nil, Nat.zero_add, List.set_cons_zero, List.set_cons_succ, List.getElem?_cons_zero, List.getElem?_cons_succ]
  refine wp_checkf hf h0 hl hc hz ?_
  simp [B_Schema___init, D_Schema___init, k1_Schema___init, v2_Schema___init, ps_Schema___init, fn_Schema___init_check_fields, ps_check_fields, fl_Schema___init_Schema_field_list, fl_Schema___init_Schema_places, WP_ok, WP_err, WP_bind, WP_ite, need_some, needS_some, res_ok, thenS_ok, WS_thenS, WS_nx, WS_rt, WS_bk, WS_ct, WS_nil, WS_cons, WS_expr, WS_asg, WS_par, WS_setSub, WS_setAtt, WS_ife, WS_ret, WS_retN, WS_ite, sm_v, sm_t, ev, evL, evEs, evAnd, evOr, evAndT, evOrT, evChain, evSlc, dflT, prm, two, one, bltW, bl1, bl2, negW, intOf, vD, vS, vL, conL, conD, vO, conO, truW, tgW_nm, tgW_tup, tgWs_nil, tgWs_cons, lenW, fullW, bindW_nil, kind_append, kind_extend, kind_pop, kind_popAt, kind_reverse, kind_clear, kind_insert, kind_index, kind_join, kind_split, kind_upper, kind_startswith, kind_count, isStrW, newL, newD, wipeW, sizeLine_eq, if_true, if_false, Bool.false_eq_true, not_false_eq_true, not_true_eq_false, bin_addI, bin_subI, cmp_eqI, cmp_eqT, cmp_neT, cmp_gtI, cmp_ltI, cmp_leI, int_bl, idx_t0, idx_t1, idx_l0, idx_l1, pow_25, pow_9, pow_20, List.length_cons, List.length_nil, Nat.zero_add, List.set_cons_zero, List.set_cons_succ, List.getElem?_cons_zero, List.getElem?_cons_succ, setAttW, putN, putV]
  refine WP_dc ?_
  simp [B_Schema___init, D_Schema___init, k1_Schema___init, v2_Schema___init, ps_Schema___init, fn_Schema___init_check_fields, ps_check_fields, fl_Schema___init_Schema_field_list, fl_Schema___init_Schema_places, WP_ok, WP_err, WP_bind, WP_ite, need_some, needS_some, res_ok, thenS_ok, WS_thenS, WS_nx, WS_rt, WS_bk, WS_ct, WS_nil, WS_cons, WS_expr, WS_asg, WS_par, WS_setSub, WS_setAtt, WS_ife, WS_ret, WS_retN, WS_ite, sm_v, sm_t, ev, evL, evEs, evAnd, evOr, evAndT, evOrT, evChain, evSlc, dflT, prm, two, one, bltW, bl1, bl2, negW, intOf, vD, vS, vL, conL, conD, vO, conO, truW, tgW_nm, tgW_tup, tgWs_nil, tgWs_cons, lenW, fullW, bindW_nil, kind_append, kind_extend, kind_pop, kind_popAt, kind_reverse, kind_clear, kind_insert, kind_index, kind_join, kind_split, kind_upper, kind_startswith, kind_count, isStrW, newL, newD, wipeW, sizeLine_eq, if_true, if_false, Bool.false_eq_true, not_false_eq_true, not_true_eq_false, bin_addI, bin_subI, cmp_eqI, cmp_eqT, cmp_neT, cmp_gtI, cmp_ltI, cmp_leI, int_bl, idx_t0, idx_t1, idx_l0, idx_l1, pow_25, pow_9, pow_20, List.length_cons, List.length_nil, Nat.zero_add, List.set_cons_zero, List.set_cons_succ, List.getElem?_cons_zero, List.getElem?_cons_succ]
  refine ⟨_, enum_items, DctI fs ⟨true, .obj "Schema" ["field_list"] [.lst (fdsW fs)]⟩, ⟨rfl, rfl⟩, ?_, ?_⟩
  · rintro i x p M hx ⟨rfl, rfl⟩
    obtain ⟨w, hw, rfl⟩ := enum_get hx
    obtain ⟨f, hfi, rfl⟩ := fdsW_get hw
    have hi := (List.getElem?_eq_some_iff.mp hfi).1
    have hnew := names_new hf.nd hfi
    refine ⟨_, rfl, ?_⟩
    simp [B_Schema___init, D_Schema___init, k1_Schema___init, v2_Schema___init, ps_Schema___init, fn_Schema___init_check_fields, ps_check_fields, fl_Schema___init_Schema_field_list, fl_Schema___init_Schema_places, WP_ok, WP_err, WP_bind, WP_ite, need_some, needS_some, res_ok, thenS_ok, WS_thenS, WS_nx, WS_rt, WS_bk, WS_ct, WS_nil, WS_cons, WS_expr, WS_asg, WS_par, WS_setSub, WS_setAtt, WS_ife, WS_ret, WS_retN, WS_ite, sm_v, sm_t, ev, evL, evEs, evAnd, evOr, evAndT, evOrT, evChain, evSlc, dflT, prm, two, one, bltW, bl1, bl2, negW, intOf, vD, vS, vL, conL, conD, vO, conO, truW, tgW_nm, tgW_tup, tgWs_nil, tgWs_cons, lenW, fullW, bindW_nil, kind_append, kind_extend, kind_pop, kind_popAt, kind_reverse, kind_clear, kind_insert, kind_index, kind_join, kind_split, kind_upper, kind_startswith, kind_count, isStrW, newL, newD, wipeW, sizeLine_eq, if_true, if_false, Bool.false_eq_true, not_false_eq_true, not_true_eq_false, bin_addI, bin_subI, cmp_eqI, cmp_eqT, cmp_neT, cmp_gtI, cmp_ltI, cmp_leI, int_bl, idx_t0, idx_t1, idx_l0, idx_l1, pow_25, pow_9, pow_20, List.length_cons, List.length_nil, Nat.zero_add, List.set_cons_zero, List.set_cons_succ, List.getElem?_cons_zero, List.getElem?_cons_succ, fdW, keyOf]
    refine ⟨enum_items, by omega, ?_, rfl⟩
    have hno : ((fs.take i).map fun f => (Sum.inr f.1 : Key)).any (fun a => decide (a = Sum.inr f.1)) = false := by
      rw [List.any_eq_false]
      intro z hz e
      obtain ⟨g, hg, rfl⟩ := List.mem_map.mp hz
      have e2 : g.1 = f.1 := by simpa using e
      exact hnew (List.mem_map.mpr ⟨g, hg, e2⟩)
    rw [List.map_take] at hno
    unfold putP
    simp only [List.map_take]
    rw [if_neg (by rw [hno]; simp), List.take_add_one, List.getElem?_map, hfi, List.range_succ]
    simp
  · rintro p M ⟨rfl, rfl⟩
    have hne2 : (fdsW fs).length = fs.length := by simp [fdsW]
    rw [enum_len, hne2, List.take_length]
    have hfp : ¬ (Str.ofString "field_list" = Str.ofString "places") := by decide +kernel
    simp [B_Schema___init, D_Schema___init, k1_Schema___init, v2_Schema___init, ps_Schema___init, fn_Schema___init_check_fields, ps_check_fields, fl_Schema___init_Schema_field_list, fl_Schema___init_Schema_places, WP_ok, WP_err, WP_bind, WP_ite, need_some, needS_some, res_ok, thenS_ok, WS_thenS, WS_nx, WS_rt, WS_bk, WS_ct, WS_nil, WS_cons, WS_expr, WS_asg, WS_par, WS_setSub, WS_setAtt, WS_ife, WS_ret, WS_retN, WS_ite, sm_v, sm_t, ev, evL, evEs, evAnd, evOr, evAndT, evOrT, evChain, evSlc, dflT, prm, two, one, bltW, bl1, bl2, negW, intOf, vD, vS, vL, conL, conD, vO, conO, truW, tgW_nm, tgW_tup, tgWs_nil, tgWs_cons, lenW, fullW, bindW_nil, kind_append, kind_extend, kind_pop, kind_popAt, kind_reverse, kind_clear, kind_insert, kind_index, kind_join, kind_split, kind_upper, kind_startswith, kind_count, isStrW, newL, newD, wipeW, sizeLine_eq, if_true, if_false, Bool.false_eq_true, not_false_eq_true, not_true_eq_false, bin_addI, bin_subI, cmp_eqI, cmp_eqT, cmp_neT, cmp_gtI, cmp_ltI, cmp_leI, int_bl, idx_t0, idx_t1, idx_l0, idx_l1, pow_25, pow_9, pow_20, List.length_cons, List.length_nil, Nat.zero_add, List.set_cons_zero, List.set_cons_succ, List.getElem?_cons_zero, List.getElem?_cons_succ, setAttW, putN, putV, hfp]
    exact ⟨schW_pure fs, q⟩
end PyL

open PySem PySem.Spec PyProof.Rows L2 PyI
namespace PyL
/-- a NAME's majority -/
def majV (x b y : W) : W := if vEq x b = true ∨ vEq x y = true then x else if vEq b y = true then b else .non
theorem wp_maj {B : Int} {k : Str} {x b y : W} {M : Store} {Q : W → Store → Prop} (hx : ValE B k x) (hb : ValE B k b) (hy : ValE B k y) (q : Q (majV x b y) M) : WP (callW F_law_majority.sem true [x, b, y] M) Q := by
  refine wp_flat (by simp [flatW, hx.pure, hb.pure, hy.pure]) ?_
  rw [se_law_majority]; refine WP_run (show _ = _ from rfl) ?_
  have e1 := cmp_Eq (M := []) (eqW_vEq (M := []) hx hb)
  have e2 := cmp_Eq (M := []) (eqW_vEq (M := []) hx hy)
  have e3 := cmp_Eq (M := []) (eqW_vEq (M := []) hb hy)
  unfold majV at q
  simp [B_law_majority, D_law_majority, ps_law_majority, WP_ok, WP_err, WP_bind, WP_ite, need_some, needS_some, res_ok, thenS_ok, WS_thenS, WS_nx, WS_rt, WS_bk, WS_ct, WS_nil, WS_cons, WS_expr, WS_asg, WS_par, WS_setSub, WS_setAtt, WS_ife, WS_ret, WS_retN, WS_ite, sm_v, sm_t, ev, evL, evEs, evAnd, evOr, evAndT, evOrT, evChain, evSlc, dflT, prm, two, one, bltW, bl1, bl2, negW, intOf, vD, vS, vL, conL, conD, vO, conO, truW, tgW_nm, tgW_tup, tgWs_nil, tgWs_cons, lenW, fullW, bindW_nil, kind_append, kind_extend, kind_pop, kind_popAt, kind_reverse, kind_clear, kind_insert, kind_index, kind_join, kind_split, kind_upper, kind_startswith, kind_count, isStrW, newL, newD, wipeW, sizeLine_eq, if_true, if_false, Bool.false_eq_true, not_false_eq_true, not_true_eq_false, bin_addI, bin_subI, cmp_eqI, cmp_eqT, cmp_neT, cmp_gtI, cmp_ltI, cmp_leI, int_bl, idx_t0, idx_t1, idx_l0, idx_l1, pow_25, pow_9, pow_20, List.length_cons, List.length_nil, Nat.zero_add, List.set_cons_zero, List.set_cons_succ, List.getElem?_cons_zero, List.getElem?_cons_succ, e1, e2, e3]
  by_cases h1 : vEq x b = true
  · simp [h1, WP_ok, WP_err, WP_bind, WP_ite, need_some, needS_some, res_ok, thenS_ok, WS_thenS, WS_nx, WS_rt, WS_bk, WS_ct, WS_nil, WS_cons, WS_expr, WS_asg, WS_par, WS_setSub, WS_setAtt, WS_ife, WS_ret, WS_retN, WS_ite, sm_v, sm_t, ev, evL, evEs, evAnd, evOr, evAndT, evOrT, evChain, evSlc, dflT, prm, two, one, bltW, bl1, bl2, negW, intOf, vD, vS, vL, conL, conD, vO, conO, truW, tgW_nm, tgW_tup, tgWs_nil, tgWs_cons, lenW, fullW, bindW_nil, kind_append, kind_extend, kind_pop, kind_popAt, kind_reverse, kind_clear, kind_insert, kind_index, kind_join, kind_split, kind_upper, kind_startswith, kind_count, isStrW, newL, newD, wipeW, sizeLine_eq, if_true, if_false, Bool.false_eq_true, not_false_eq_true, not_true_eq_false, bin_addI, bin_subI, cmp_eqI, cmp_eqT, cmp_neT, cmp_gtI, cmp_ltI, cmp_leI, int_bl, idx_t0, idx_t1, idx_l0, idx_l1, pow_25, pow_9, pow_20, List.length_cons, List.length_nil, Nat.zero_add, List.set_cons_zero, List.set_cons_succ, List.getElem?_cons_zero, List.getElem?_cons_succ] at q ⊢
    exact ⟨hx.pure, q⟩
  · by_cases h2 : vEq x y = true
    · simp [h1, h2, WP_ok, WP_err, WP_bind, WP_ite, need_some, needS_some, res_ok, thenS_ok, WS_thenS, WS_nx, WS_rt, WS_bk, WS_ct, WS_nil, WS_cons, WS_expr, WS_asg, WS_par, WS_setSub, WS_setAtt, WS_ife, WS_ret, WS_retN, WS_ite, sm_v, sm_t, ev, evL, evEs, evAnd, evOr, evAndT, evOrT, evChain, evSlc, dflT, prm, two, one, bltW, bl1, bl2, negW, intOf, vD, vS, vL, conL, conD, vO, conO, truW, tgW_nm, tgW_tup, tgWs_nil, tgWs_cons, lenW, fullW, bindW_nil, kind_append, kind_extend, kind_pop, kind_popAt, kind_reverse, kind_clear, kind_insert, kind_index, kind_join, kind_split, kind_upper, kind_startswith, kind_count, isStrW, newL, newD, wipeW, sizeLine_eq, if_true, if_false, Bool.false_eq_true, not_false_eq_true, not_true_eq_false, bin_addI, bin_subI, cmp_eqI, cmp_eqT, cmp_neT, cmp_gtI, cmp_ltI, cmp_leI, int_bl, idx_t0, idx_t1, idx_l0, idx_l1, pow_25, pow_9, pow_20, List.length_cons, List.length_nil, Nat.zero_add, List.set_cons_zero, List.set_cons_succ, List.getElem?_cons_zero, List.getElem?_cons_succ] at q ⊢
      exact ⟨hx.pure, q⟩
    · by_cases h3 : vEq b y = true
      · simp [h1, h2, h3, WP_ok, WP_err, WP_bind, WP_ite, need_some, needS_some, res_ok, thenS_ok, WS_thenS, WS_nx, WS_rt, WS_bk, WS_ct, WS_nil, WS_cons, WS_expr, WS_asg, WS_par, WS_setSub, WS_setAtt, WS_ife, WS_ret, WS_retN, WS_ite, sm_v, sm_t, ev, evL, evEs, evAnd, evOr, evAndT, evOrT, evChain, evSlc, dflT, prm, two, one, bltW, bl1, bl2, negW, intOf, vD, vS, vL, conL, conD, vO, conO, truW, tgW_nm, tgW_tup, tgWs_nil, tgWs_cons, lenW, fullW, bindW_nil, kind_append, kind_extend, kind_pop, kind_popAt, kind_reverse, kind_clear, kind_insert, kind_index, kind_join, kind_split, kind_upper, kind_startswith, kind_count, isStrW, newL, newD, wipeW, sizeLine_eq, if_true, if_false, Bool.false_eq_true, not_false_eq_true, not_true_eq_false, bin_addI, bin_subI, cmp_eqI, cmp_eqT, cmp_neT, cmp_gtI, cmp_ltI, cmp_leI, int_bl, idx_t0, idx_t1, idx_l0, idx_l1, pow_25, pow_9, pow_20, List.length_cons, List.length_nil, Nat.zero_add, List.set_cons_zero, List.set_cons_succ, List.getElem?_cons_zero, List.getElem?_cons_succ] at q ⊢
        exact ⟨hb.pure, q⟩
      · simp [h1, h2, h3, WP_ok, WP_err, WP_bind, WP_ite, need_some, needS_some, res_ok, thenS_ok, WS_thenS, WS_nx, WS_rt, WS_bk, WS_ct, WS_nil, WS_cons, WS_expr, WS_asg, WS_par, WS_setSub, WS_setAtt, WS_ife, WS_ret, WS_retN, WS_ite, sm_v, sm_t, ev, evL, evEs, evAnd, evOr, evAndT, evOrT, evChain, evSlc, dflT, prm, two, one, bltW, bl1, bl2, negW, intOf, vD, vS, vL, conL, conD, vO, conO, truW, tgW_nm, tgW_tup, tgWs_nil, tgWs_cons, lenW, fullW, bindW_nil, kind_append, kind_extend, kind_pop, kind_popAt, kind_reverse, kind_clear, kind_insert, kind_index, kind_join, kind_split, kind_upper, kind_startswith, kind_count, isStrW, newL, newD, wipeW, sizeLine_eq, if_true, if_false, Bool.false_eq_true, not_false_eq_true, not_true_eq_false, bin_addI, bin_subI, cmp_eqI, cmp_eqT, cmp_neT, cmp_gtI, cmp_ltI, cmp_leI, int_bl, idx_t0, idx_t1, idx_l0, idx_l1, pow_25, pow_9, pow_20, List.length_cons, List.length_nil, Nat.zero_add, List.set_cons_zero, List.set_cons_succ, List.getElem?_cons_zero, List.getElem?_cons_succ, pureW] at q ⊢
        exact q
theorem big_repr {B : Int} {fs : List Fd} {ws : List W} (h : RowOk B fs ws) (hB : B < 10 ^ 200) (hl : fs.length ≤ 1000) : ∃ z : Str, ∀ M, reprW (.tup ws) M = .ok (.str z) M := by
  obtain ⟨d, hd⟩ := h.dat hB hl
  exact ⟨d.shown, fun M => hd.repr (by omega) (by omega)⟩
theorem big_eq {B : Int} {fs : List Fd} {ws : List W} (h : RowOk B fs ws) (hB : B < 10 ^ 200) (hl : fs.length ≤ 1000) (M : Store) : eqW M (.tup ws) (.tup ws) = some true := by
  obtain ⟨d, hd⟩ := h.dat hB hl
  exact hd.eqW (by omega)
theorem big_repr3 {B : Int} {fs : List Fd} {xs bs ys : List W} (hx : RowOk B fs xs) (hb : RowOk B fs bs) (hy : RowOk B fs ys) (hB : B < 10 ^ 200) (hl : fs.length ≤ 1000) : ∃ z : Str, ∀ M, reprW (.lst [.tup xs, .tup bs, .tup ys]) M = .ok (.str z) M := by
  obtain ⟨d1, h1⟩ := hx.dat hB hl
  obtain ⟨d2, h2⟩ := hb.dat hB hl
  obtain ⟨d3, h3⟩ := hy.dat hB hl
  have := dat_lst (.cons h1 (.cons h2 (.cons h3 .nil)))
  exact ⟨_, fun M => this.repr (by simp) (by omega)⟩
def DblI (L : LM) (i : Nat) (l : LM) (M : Store) : Prop := ∃ a b c, l = L ++ [a, b, c] ∧ M = []
theorem wp_double_right {B : Int} {fs : List Fd} {xs bs ys : List W} {M : Store} {Q : W → Store → Prop} (hf : FdsOk fs) (hl : fs.length ≤ 1000) (hB : 0 ≤ B) (hB2 : B ≤ 10 ^ 100) (hx : RowOk B fs xs) (hb : RowOk B fs bs) (hy : RowOk B fs ys) (q : Q (.bl true) M) :
    WP (callW F_law_double_right.sem true [schW fs, .lst (fdsW fs), .tup xs, .tup bs, .tup ys] M) Q := by
  refine wp_flat (by simp [flatW, schW_pure, fdsW_pure, pureW, hx.pure, hb.pure, hy.pure]) ?_
  have h1 := pickR_ok hf hB hx hb hy
  have hx3 := hx.mono (B' := 3 * B) (by omega)
  have hy3 := hy.mono (B' := 3 * B) (by omega)
  have h2 := pickR_ok hf (by omega) hx3 h1 hy3
  have g1 := pickR_ok hf hB hx hb hx
  have g2 := pickR_ok hf (by omega) hx3 g1 hx3
  have b9 : 3 * (3 * B) < 10 ^ 200 := by
    have : (10 : Int) ^ 100 * 9 < 10 ^ 200 := by decide +kernel
    omega
  have b1 : B < 10 ^ 200 := by omega
  obtain ⟨z, hz⟩ := big_repr h2 b9 hl
  obtain ⟨z2, hz2⟩ := big_repr g2 b9 hl
  obtain ⟨z3, hz3⟩ := big_repr3 hx hb hy b1 hl
  have heq := fun M => cmp_Ne (M := M) (big_eq h2 b9 hl M)
  generalize hD : pickR fs xs (pickR fs xs bs ys) ys = due at *
  rw [se_law_double_right]; refine WP_run (show _ = _ from rfl) ?_
  simp [B_law_double_right, D_law_double_right, X1_law_double_right, e2_law_double_right, ps_law_double_right, fn_law_double_right_law_pick, fn_law_double_right_double_pick, fn_law_double_right_pick, fn_law_double_right_law_majority, ps_law_pick, ps_double_pick, ps_pick, ps_law_majority, WP_ok, WP_err, WP_bind, WP_ite, need_some, needS_some, res_ok, thenS_ok, WS_thenS, WS_nx, WS_rt, WS_bk, WS_ct, WS_nil, WS_cons, WS_expr, WS_asg, WS_par, WS_setSub, WS_setAtt, WS_ife, WS_ret, WS_retN, WS_ite, sm_v, sm_t, ev, evL, evEs, evAnd, evOr, evAndT, evOrT, evChain, evSlc, dflT, prm, two, one, bltW, bl1, bl2, negW, intOf, vD, vS, vL, conL, conD, vO, conO, truW, tgW_nm, tgW_tup, tgWs_nil, tgWs_cons, lenW, fullW, bindW_nil, kind_append, kind_extend, kind_pop, kind_popAt, kind_reverse, kind_clear, kind_insert, kind_index, kind_join, kind_split, kind_upper, kind_startswith, kind_count, isStrW, newL, newD, wipeW, sizeLine_eq, if_true, if_false, Bool.false_eq_true, not_false_eq_true, not_true_eq_false, bin_addI, bin_subI, cmp_eqI, cmp_eqT, cmp_neT, cmp_gtI, cmp_ltI, cmp_leI, int_bl, idx_t0, idx_t1, idx_l0, idx_l1, pow_25, pow_9, pow_20, List.length_cons, List.length_nil, Nat.zero_add, List.set_cons_zero, List.set_cons_succ, List.getElem?_cons_zero, List.getElem?_cons_succ]
  refine wp_lawpick hf hl hB hx hb hy ?_
  refine wp_lawpick hf hl (B := 3 * B) (by omega) hx3 h1 hy3 ?_
  rw [hD]
  simp [WP_ok, WP_err, WP_bind, WP_ite, need_some, needS_some, res_ok, thenS_ok, WS_thenS, WS_nx, WS_rt, WS_bk, WS_ct, WS_nil, WS_cons, WS_expr, WS_asg, WS_par, WS_setSub, WS_setAtt, WS_ife, WS_ret, WS_retN, WS_ite, sm_v, sm_t, ev, evL, evEs, evAnd, evOr, evAndT, evOrT, evChain, evSlc, dflT, prm, two, one, bltW, bl1, bl2, negW, intOf, vD, vS, vL, conL, conD, vO, conO, truW, tgW_nm, tgW_tup, tgWs_nil, tgWs_cons, lenW, fullW, bindW_nil, kind_append, kind_extend, kind_pop, kind_popAt, kind_reverse, kind_clear, kind_insert, kind_index, kind_join, kind_split, kind_upper, kind_startswith, kind_count, isStrW, newL, newD, wipeW, sizeLine_eq, if_true, if_false, Bool.false_eq_true, not_false_eq_true, not_true_eq_false, bin_addI, bin_subI, cmp_eqI, cmp_eqT, cmp_neT, cmp_gtI, cmp_ltI, cmp_leI, int_bl, idx_t0, idx_t1, idx_l0, idx_l1, pow_25, pow_9, pow_20, List.length_cons, List.length_nil, Nat.zero_add, List.set_cons_zero, List.set_cons_succ, List.getElem?_cons_zero, List.getElem?_cons_succ, hz3]
  refine wp_double hf hl hB hx hb hy ?_
  rw [hD]
  simp [B_law_double_right, D_law_double_right, X1_law_double_right, e2_law_double_right, ps_law_double_right, fn_law_double_right_law_pick, fn_law_double_right_double_pick, fn_law_double_right_pick, fn_law_double_right_law_majority, ps_law_pick, ps_double_pick, ps_pick, ps_law_majority, WP_ok, WP_err, WP_bind, WP_ite, need_some, needS_some, res_ok, thenS_ok, WS_thenS, WS_nx, WS_rt, WS_bk, WS_ct, WS_nil, WS_cons, WS_expr, WS_asg, WS_par, WS_setSub, WS_setAtt, WS_ife, WS_ret, WS_retN, WS_ite, sm_v, sm_t, ev, evL, evEs, evAnd, evOr, evAndT, evOrT, evChain, evSlc, dflT, prm, two, one, bltW, bl1, bl2, negW, intOf, vD, vS, vL, conL, conD, vO, conO, truW, tgW_nm, tgW_tup, tgWs_nil, tgWs_cons, lenW, fullW, bindW_nil, kind_append, kind_extend, kind_pop, kind_popAt, kind_reverse, kind_clear, kind_insert, kind_index, kind_join, kind_split, kind_upper, kind_startswith, kind_count, isStrW, newL, newD, wipeW, sizeLine_eq, if_true, if_false, Bool.false_eq_true, not_false_eq_true, not_true_eq_false, bin_addI, bin_subI, cmp_eqI, cmp_eqT, cmp_neT, cmp_gtI, cmp_ltI, cmp_leI, int_bl, idx_t0, idx_t1, idx_l0, idx_l1, pow_25, pow_9, pow_20, List.length_cons, List.length_nil, Nat.zero_add, List.set_cons_zero, List.set_cons_succ, List.getElem?_cons_zero, List.getElem?_cons_succ, hz]
  refine wp_pick hf hl hB hx hb hy ?_
  refine wp_pick hf hl (B := 3 * B) (by omega) hx3 h1 hy3 ?_
  rw [hD]
  simp [B_law_double_right, D_law_double_right, X1_law_double_right, e2_law_double_right, ps_law_double_right, fn_law_double_right_law_pick, fn_law_double_right_double_pick, fn_law_double_right_pick, fn_law_double_right_law_majority, ps_law_pick, ps_double_pick, ps_pick, ps_law_majority, WP_ok, WP_err, WP_bind, WP_ite, need_some, needS_some, res_ok, thenS_ok, WS_thenS, WS_nx, WS_rt, WS_bk, WS_ct, WS_nil, WS_cons, WS_expr, WS_asg, WS_par, WS_setSub, WS_setAtt, WS_ife, WS_ret, WS_retN, WS_ite, sm_v, sm_t, ev, evL, evEs, evAnd, evOr, evAndT, evOrT, evChain, evSlc, dflT, prm, two, one, bltW, bl1, bl2, negW, intOf, vD, vS, vL, conL, conD, vO, conO, truW, tgW_nm, tgW_tup, tgWs_nil, tgWs_cons, lenW, fullW, bindW_nil, kind_append, kind_extend, kind_pop, kind_popAt, kind_reverse, kind_clear, kind_insert, kind_index, kind_join, kind_split, kind_upper, kind_startswith, kind_count, isStrW, newL, newD, wipeW, sizeLine_eq, if_true, if_false, Bool.false_eq_true, not_false_eq_true, not_true_eq_false, bin_addI, bin_subI, cmp_eqI, cmp_eqT, cmp_neT, cmp_gtI, cmp_ltI, cmp_leI, int_bl, idx_t0, idx_t1, idx_l0, idx_l1, pow_25, pow_9, pow_20, List.length_cons, List.length_nil, Nat.zero_add, List.set_cons_zero, List.set_cons_succ, List.getElem?_cons_zero, List.getElem?_cons_succ, heq, hz3]
  refine WS_for ?_
  simp [WP_ok, WP_err, WP_bind, WP_ite, need_some, needS_some, res_ok, thenS_ok, WS_thenS, WS_nx, WS_rt, WS_bk, WS_ct, WS_nil, WS_cons, WS_expr, WS_asg, WS_par, WS_setSub, WS_setAtt, WS_ife, WS_ret, WS_retN, WS_ite, sm_v, sm_t, ev, evL, evEs, evAnd, evOr, evAndT, evOrT, evChain, evSlc, dflT, prm, two, one, bltW, bl1, bl2, negW, intOf, vD, vS, vL, conL, conD, vO, conO, truW, tgW_nm, tgW_tup, tgWs_nil, tgWs_cons, lenW, fullW, bindW_nil, kind_append, kind_extend, kind_pop, kind_popAt, kind_reverse, kind_clear, kind_insert, kind_index, kind_join, kind_split, kind_upper, kind_startswith, kind_count, isStrW, newL, newD, wipeW, sizeLine_eq, if_true, if_false, Bool.false_eq_true, not_false_eq_true, not_true_eq_false, bin_addI, bin_subI, cmp_eqI, cmp_eqT, cmp_neT, cmp_gtI, cmp_ltI, cmp_leI, int_bl, idx_t0, idx_t1, idx_l0, idx_l1, pow_25, pow_9, pow_20, List.length_cons, List.length_nil, Nat.zero_add, List.set_cons_zero, List.set_cons_succ, List.getElem?_cons_zero, List.getElem?_cons_succ]
  refine ⟨_, enum_items, DblI [some (schW fs), some (.lst (fdsW fs)), some (.tup xs), some (.tup bs), some (.tup ys), some (.tup due), none, some (.tup due), some (.str z3)], ⟨none, none, none, rfl, rfl⟩, ?_, ?_⟩
  · rintro i x l M hx1 ⟨a, b, c, rfl, rfl⟩
    obtain ⟨w, hw, rfl⟩ := enum_get hx1
    obtain ⟨f, hfi, rfl⟩ := fdsW_get hw
    have hi := (List.getElem?_eq_some_iff.mp hfi).1
    have hk := hf.kat hi
    have v1 := hx.at hi
    have v2 := hb.at hi
    have v3 := hy.at hi
    have v4 := h2.at hi
    have hgd : gW due i = pickV (kdAt fs i) (gW xs i) (pickV (kdAt fs i) (gW xs i) (gW bs i) (gW ys i)) (gW ys i) := by
      rw [← hD, gW_of (pickR_get hi), gW_of (pickR_get hi)]
    rw [kdAt_of hfi] at hk v1 v2 v3 v4 hgd
    refine ⟨_, rfl, ?_⟩
    simp [B_law_double_right, D_law_double_right, X1_law_double_right, e2_law_double_right, ps_law_double_right, fn_law_double_right_law_pick, fn_law_double_right_double_pick, fn_law_double_right_pick, fn_law_double_right_law_majority, ps_law_pick, ps_double_pick, ps_pick, ps_law_majority, WP_ok, WP_err, WP_bind, WP_ite, need_some, needS_some, res_ok, thenS_ok, WS_thenS, WS_nx, WS_rt, WS_bk, WS_ct, WS_nil, WS_cons, WS_expr, WS_asg, WS_par, WS_setSub, WS_setAtt, WS_ife, WS_ret, WS_retN, WS_ite, sm_v, sm_t, ev, evL, evEs, evAnd, evOr, evAndT, evOrT, evChain, evSlc, dflT, prm, two, one, bltW, bl1, bl2, negW, intOf, vD, vS, vL, conL, conD, vO, conO, truW, tgW_nm, tgW_tup, tgWs_nil, tgWs_cons, lenW, fullW, bindW_nil, kind_append, kind_extend, kind_pop, kind_popAt, kind_reverse, kind_clear, kind_insert, kind_index, kind_join, kind_split, kind_upper, kind_startswith, kind_count, isStrW, newL, newD, wipeW, sizeLine_eq, if_true, if_false, Bool.false_eq_true, not_false_eq_true, not_true_eq_false, bin_addI, bin_subI, cmp_eqI, cmp_eqT, cmp_neT, cmp_gtI, cmp_ltI, cmp_leI, int_bl, idx_t0, idx_t1, idx_l0, idx_l1, pow_25, pow_9, pow_20, List.length_cons, List.length_nil, Nat.zero_add, List.set_cons_zero, List.set_cons_succ, List.getElem?_cons_zero, List.getElem?_cons_succ, fdW, idx_tupN (get_gW (ws := xs) (i := i) (by rw [hx.len]; exact hi)), idx_tupN (get_gW (ws := bs) (i := i) (by rw [hb.len]; exact hi)), idx_tupN (get_gW (ws := ys) (i := i) (by rw [hy.len]; exact hi)), idx_tupN (get_gW (ws := due) (i := i) (by rw [h2.len]; exact hi))]
    by_cases hc : f.2 = Str.ofString "counter"
    · have hdb : gW due i = gW bs i := by
        rw [hgd, hc]
        rw [hc] at v1 v2 v3
        exact cnt_double v1 v2 v3
      have e1 := fun M => cmp_Ne (M := M) (eqW_vEq (M := M) v4 v2)
      rw [hdb, vEq_self v2] at e1
      rw [hdb]
      simp [hc, WP_ok, WP_err, WP_bind, WP_ite, need_some, needS_some, res_ok, thenS_ok, WS_thenS, WS_nx, WS_rt, WS_bk, WS_ct, WS_nil, WS_cons, WS_expr, WS_asg, WS_par, WS_setSub, WS_setAtt, WS_ife, WS_ret, WS_retN, WS_ite, sm_v, sm_t, ev, evL, evEs, evAnd, evOr, evAndT, evOrT, evChain, evSlc, dflT, prm, two, one, bltW, bl1, bl2, negW, intOf, vD, vS, vL, conL, conD, vO, conO, truW, tgW_nm, tgW_tup, tgWs_nil, tgWs_cons, lenW, fullW, bindW_nil, kind_append, kind_extend, kind_pop, kind_popAt, kind_reverse, kind_clear, kind_insert, kind_index, kind_join, kind_split, kind_upper, kind_startswith, kind_count, isStrW, newL, newD, wipeW, sizeLine_eq, if_true, if_false, Bool.false_eq_true, not_false_eq_true, not_true_eq_false, bin_addI, bin_subI, cmp_eqI, cmp_eqT, cmp_neT, cmp_gtI, cmp_ltI, cmp_leI, int_bl, idx_t0, idx_t1, idx_l0, idx_l1, pow_25, pow_9, pow_20, List.length_cons, List.length_nil, Nat.zero_add, List.set_cons_zero, List.set_cons_succ, List.getElem?_cons_zero, List.getElem?_cons_succ, v2.isNot, e1]
      exact ⟨enum_items, _, _, _, rfl, rfl⟩
    · simp only [hc, if_false]
      refine wp_maj v1 v2 v3 ?_
      obtain ⟨m1, m2⟩ := kinds_maj hk (isC_false hc) v1 v2 v3
      rw [← hgd] at m1 m2
      unfold majV
      by_cases c1 : vEq (gW xs i) (gW bs i) = true ∨ vEq (gW xs i) (gW ys i) = true
      · rw [if_pos c1]
        have e1 := fun M => cmp_Ne (M := M) (eqW_vEq (M := M) v4 v1)
        rw [m1 c1, vEq_self v1] at e1
        rw [m1 c1]
        simp [WP_ok, WP_err, WP_bind, WP_ite, need_some, needS_some, res_ok, thenS_ok, WS_thenS, WS_nx, WS_rt, WS_bk, WS_ct, WS_nil, WS_cons, WS_expr, WS_asg, WS_par, WS_setSub, WS_setAtt, WS_ife, WS_ret, WS_retN, WS_ite, sm_v, sm_t, ev, evL, evEs, evAnd, evOr, evAndT, evOrT, evChain, evSlc, dflT, prm, two, one, bltW, bl1, bl2, negW, intOf, vD, vS, vL, conL, conD, vO, conO, truW, tgW_nm, tgW_tup, tgWs_nil, tgWs_cons, lenW, fullW, bindW_nil, kind_append, kind_extend, kind_pop, kind_popAt, kind_reverse, kind_clear, kind_insert, kind_index, kind_join, kind_split, kind_upper, kind_startswith, kind_count, isStrW, newL, newD, wipeW, sizeLine_eq, if_true, if_false, Bool.false_eq_true, not_false_eq_true, not_true_eq_false, bin_addI, bin_subI, cmp_eqI, cmp_eqT, cmp_neT, cmp_gtI, cmp_ltI, cmp_leI, int_bl, idx_t0, idx_t1, idx_l0, idx_l1, pow_25, pow_9, pow_20, List.length_cons, List.length_nil, Nat.zero_add, List.set_cons_zero, List.set_cons_succ, List.getElem?_cons_zero, List.getElem?_cons_succ, v1.isNot, e1]
        exact ⟨enum_items, _, _, _, rfl, rfl⟩
      · rw [if_neg c1]
        have c2 : vEq (gW xs i) (gW bs i) = false ∧ vEq (gW xs i) (gW ys i) = false := by
          constructor
          · cases h : vEq (gW xs i) (gW bs i) with
            | false => rfl
            | true => exact absurd (.inl h) c1
          · cases h : vEq (gW xs i) (gW ys i) with
            | false => rfl
            | true => exact absurd (.inr h) c1
        by_cases c3 : vEq (gW bs i) (gW ys i) = true
        · rw [if_pos c3]
          have e1 := fun M => cmp_Ne (M := M) (eqW_vEq (M := M) v4 v2)
          rw [m2 c2.1 c2.2 c3, vEq_self v2] at e1
          rw [m2 c2.1 c2.2 c3]
          simp [WP_ok, WP_err, WP_bind, WP_ite, need_some, needS_some, res_ok, thenS_ok, WS_thenS, WS_nx, WS_rt, WS_bk, WS_ct, WS_nil, WS_cons, WS_expr, WS_asg, WS_par, WS_setSub, WS_setAtt, WS_ife, WS_ret, WS_retN, WS_ite, sm_v, sm_t, ev, evL, evEs, evAnd, evOr, evAndT, evOrT, evChain, evSlc, dflT, prm, two, one, bltW, bl1, bl2, negW, intOf, vD, vS, vL, conL, conD, vO, conO, truW, tgW_nm, tgW_tup, tgWs_nil, tgWs_cons, lenW, fullW, bindW_nil, kind_append, kind_extend, kind_pop, kind_popAt, kind_reverse, kind_clear, kind_insert, kind_index, kind_join, kind_split, kind_upper, kind_startswith, kind_count, isStrW, newL, newD, wipeW, sizeLine_eq, if_true, if_false, Bool.false_eq_true, not_false_eq_true, not_true_eq_false, bin_addI, bin_subI, cmp_eqI, cmp_eqT, cmp_neT, cmp_gtI, cmp_ltI, cmp_leI, int_bl, idx_t0, idx_t1, idx_l0, idx_l1, pow_25, pow_9, pow_20, List.length_cons, List.length_nil, Nat.zero_add, List.set_cons_zero, List.set_cons_succ, List.getElem?_cons_zero, List.getElem?_cons_succ, v2.isNot, e1]
          exact ⟨enum_items, _, _, _, rfl, rfl⟩
        · rw [if_neg c3]
          simp [WP_ok, WP_err, WP_bind, WP_ite, need_some, needS_some, res_ok, thenS_ok, WS_thenS, WS_nx, WS_rt, WS_bk, WS_ct, WS_nil, WS_cons, WS_expr, WS_asg, WS_par, WS_setSub, WS_setAtt, WS_ife, WS_ret, WS_retN, WS_ite, sm_v, sm_t, ev, evL, evEs, evAnd, evOr, evAndT, evOrT, evChain, evSlc, dflT, prm, two, one, bltW, bl1, bl2, negW, intOf, vD, vS, vL, conL, conD, vO, conO, truW, tgW_nm, tgW_tup, tgWs_nil, tgWs_cons, lenW, fullW, bindW_nil, kind_append, kind_extend, kind_pop, kind_popAt, kind_reverse, kind_clear, kind_insert, kind_index, kind_join, kind_split, kind_upper, kind_startswith, kind_count, isStrW, newL, newD, wipeW, sizeLine_eq, if_true, if_false, Bool.false_eq_true, not_false_eq_true, not_true_eq_false, bin_addI, bin_subI, cmp_eqI, cmp_eqT, cmp_neT, cmp_gtI, cmp_ltI, cmp_leI, int_bl, idx_t0, idx_t1, idx_l0, idx_l1, pow_25, pow_9, pow_20, List.length_cons, List.length_nil, Nat.zero_add, List.set_cons_zero, List.set_cons_succ, List.getElem?_cons_zero, List.getElem?_cons_succ, cmp_isNon]
          exact ⟨enum_items, _, _, _, rfl, rfl⟩
  · rintro l M ⟨a, b, c, rfl, rfl⟩
    simp [B_law_double_right, D_law_double_right, X1_law_double_right, e2_law_double_right, ps_law_double_right, fn_law_double_right_law_pick, fn_law_double_right_double_pick, fn_law_double_right_pick, fn_law_double_right_law_majority, ps_law_pick, ps_double_pick, ps_pick, ps_law_majority, WP_ok, WP_err, WP_bind, WP_ite, need_some, needS_some, res_ok, thenS_ok, WS_thenS, WS_nx, WS_rt, WS_bk, WS_ct, WS_nil, WS_cons, WS_expr, WS_asg, WS_par, WS_setSub, WS_setAtt, WS_ife, WS_ret, WS_retN, WS_ite, sm_v, sm_t, ev, evL, evEs, evAnd, evOr, evAndT, evOrT, evChain, evSlc, dflT, prm, two, one, bltW, bl1, bl2, negW, intOf, vD, vS, vL, conL, conD, vO, conO, truW, tgW_nm, tgW_tup, tgWs_nil, tgWs_cons, lenW, fullW, bindW_nil, kind_append, kind_extend, kind_pop, kind_popAt, kind_reverse, kind_clear, kind_insert, kind_index, kind_join, kind_split, kind_upper, kind_startswith, kind_count, isStrW, newL, newD, wipeW, sizeLine_eq, if_true, if_false, Bool.false_eq_true, not_false_eq_true, not_true_eq_false, bin_addI, bin_subI, cmp_eqI, cmp_eqT, cmp_neT, cmp_gtI, cmp_ltI, cmp_leI, int_bl, idx_t0, idx_t1, idx_l0, idx_l1, pow_25, pow_9, pow_20, List.length_cons, List.length_nil, Nat.zero_add, List.set_cons_zero, List.set_cons_succ, List.getElem?_cons_zero, List.getElem?_cons_succ]
    refine WP_lcMap (fun x => match x with | .tup [.int i, .tup [_, .str k]] => if isC k then gW bs i.toNat else gW xs i.toNat | _ => .non) ?_
    simp [WP_ok, WP_err, WP_bind, WP_ite, need_some, needS_some, res_ok, thenS_ok, WS_thenS, WS_nx, WS_rt, WS_bk, WS_ct, WS_nil, WS_cons, WS_expr, WS_asg, WS_par, WS_setSub, WS_setAtt, WS_ife, WS_ret, WS_retN, WS_ite, sm_v, sm_t, ev, evL, evEs, evAnd, evOr, evAndT, evOrT, evChain, evSlc, dflT, prm, two, one, bltW, bl1, bl2, negW, intOf, vD, vS, vL, conL, conD, vO, conO, truW, tgW_nm, tgW_tup, tgWs_nil, tgWs_cons, lenW, fullW, bindW_nil, kind_append, kind_extend, kind_pop, kind_popAt, kind_reverse, kind_clear, kind_insert, kind_index, kind_join, kind_split, kind_upper, kind_startswith, kind_count, isStrW, newL, newD, wipeW, sizeLine_eq, if_true, if_false, Bool.false_eq_true, not_false_eq_true, not_true_eq_false, bin_addI, bin_subI, cmp_eqI, cmp_eqT, cmp_neT, cmp_gtI, cmp_ltI, cmp_leI, int_bl, idx_t0, idx_t1, idx_l0, idx_l1, pow_25, pow_9, pow_20, List.length_cons, List.length_nil, Nat.zero_add, List.set_cons_zero, List.set_cons_succ, List.getElem?_cons_zero, List.getElem?_cons_succ]
    refine ⟨_, enum_items, by rw [sizeLine_eq]; simp [fdsW]; omega, fun x hx0 => ?_, ?_⟩
    · obtain ⟨i, w, hw, rfl⟩ := enum_mem hx0
      obtain ⟨f, hfi, rfl⟩ := fdsW_get hw
      have hi := (List.getElem?_eq_some_iff.mp hfi).1
      refine ⟨_, rfl, ?_⟩
      simp [B_law_double_right, D_law_double_right, X1_law_double_right, e2_law_double_right, ps_law_double_right, fn_law_double_right_law_pick, fn_law_double_right_double_pick, fn_law_double_right_pick, fn_law_double_right_law_majority, ps_law_pick, ps_double_pick, ps_pick, ps_law_majority, WP_ok, WP_err, WP_bind, WP_ite, need_some, needS_some, res_ok, thenS_ok, WS_thenS, WS_nx, WS_rt, WS_bk, WS_ct, WS_nil, WS_cons, WS_expr, WS_asg, WS_par, WS_setSub, WS_setAtt, WS_ife, WS_ret, WS_retN, WS_ite, sm_v, sm_t, ev, evL, evEs, evAnd, evOr, evAndT, evOrT, evChain, evSlc, dflT, prm, two, one, bltW, bl1, bl2, negW, intOf, vD, vS, vL, conL, conD, vO, conO, truW, tgW_nm, tgW_tup, tgWs_nil, tgWs_cons, lenW, fullW, bindW_nil, kind_append, kind_extend, kind_pop, kind_popAt, kind_reverse, kind_clear, kind_insert, kind_index, kind_join, kind_split, kind_upper, kind_startswith, kind_count, isStrW, newL, newD, wipeW, sizeLine_eq, if_true, if_false, Bool.false_eq_true, not_false_eq_true, not_true_eq_false, bin_addI, bin_subI, cmp_eqI, cmp_eqT, cmp_neT, cmp_gtI, cmp_ltI, cmp_leI, int_bl, idx_t0, idx_t1, idx_l0, idx_l1, pow_25, pow_9, pow_20, List.length_cons, List.length_nil, Nat.zero_add, List.set_cons_zero, List.set_cons_succ, List.getElem?_cons_zero, List.getElem?_cons_succ, fdW, idx_tupN (get_gW (ws := xs) (i := i) (by rw [hx.len]; exact hi)), idx_tupN (get_gW (ws := bs) (i := i) (by rw [hb.len]; exact hi))]
      by_cases hc : f.2 = Str.ofString "counter"
      · simp [hc, isC_c, WP_ok, WP_err, WP_bind, WP_ite, need_some, needS_some, res_ok, thenS_ok, WS_thenS, WS_nx, WS_rt, WS_bk, WS_ct, WS_nil, WS_cons, WS_expr, WS_asg, WS_par, WS_setSub, WS_setAtt, WS_ife, WS_ret, WS_retN, WS_ite, sm_v, sm_t, ev, evL, evEs, evAnd, evOr, evAndT, evOrT, evChain, evSlc, dflT, prm, two, one, bltW, bl1, bl2, negW, intOf, vD, vS, vL, conL, conD, vO, conO, truW, tgW_nm, tgW_tup, tgWs_nil, tgWs_cons, lenW, fullW, bindW_nil, kind_append, kind_extend, kind_pop, kind_popAt, kind_reverse, kind_clear, kind_insert, kind_index, kind_join, kind_split, kind_upper, kind_startswith, kind_count, isStrW, newL, newD, wipeW, sizeLine_eq, if_true, if_false, Bool.false_eq_true, not_false_eq_true, not_true_eq_false, bin_addI, bin_subI, cmp_eqI, cmp_eqT, cmp_neT, cmp_gtI, cmp_ltI, cmp_leI, int_bl, idx_t0, idx_t1, idx_l0, idx_l1, pow_25, pow_9, pow_20, List.length_cons, List.length_nil, Nat.zero_add, List.set_cons_zero, List.set_cons_succ, List.getElem?_cons_zero, List.getElem?_cons_succ]
      · simp [hc, isC_false hc, WP_ok, WP_err, WP_bind, WP_ite, need_some, needS_some, res_ok, thenS_ok, WS_thenS, WS_nx, WS_rt, WS_bk, WS_ct, WS_nil, WS_cons, WS_expr, WS_asg, WS_par, WS_setSub, WS_setAtt, WS_ife, WS_ret, WS_retN, WS_ite, sm_v, sm_t, ev, evL, evEs, evAnd, evOr, evAndT, evOrT, evChain, evSlc, dflT, prm, two, one, bltW, bl1, bl2, negW, intOf, vD, vS, vL, conL, conD, vO, conO, truW, tgW_nm, tgW_tup, tgWs_nil, tgWs_cons, lenW, fullW, bindW_nil, kind_append, kind_extend, kind_pop, kind_popAt, kind_reverse, kind_clear, kind_insert, kind_index, kind_join, kind_split, kind_upper, kind_startswith, kind_count, isStrW, newL, newD, wipeW, sizeLine_eq, if_true, if_false, Bool.false_eq_true, not_false_eq_true, not_true_eq_false, bin_addI, bin_subI, cmp_eqI, cmp_eqT, cmp_neT, cmp_gtI, cmp_ltI, cmp_leI, int_bl, idx_t0, idx_t1, idx_l0, idx_l1, pow_25, pow_9, pow_20, List.length_cons, List.length_nil, Nat.zero_add, List.set_cons_zero, List.set_cons_succ, List.getElem?_cons_zero, List.getElem?_cons_succ]
    · have hm : ((List.range (fdsW fs).length).zipWith (fun (i : Nat) w => W.tup [.int (i : Int), w]) (fdsW fs)).map (fun x => match x with | .tup [.int i, .tup [_, .str k]] => if isC k then gW bs i.toNat else gW xs i.toNat | _ => .non) = pickR fs xs (pickR fs xs bs xs) xs := by
        refine List.ext_getElem? fun i => ?_
        by_cases hi : i < fs.length
        · have hk := hf.kat hi
          have v1 := hx.at hi
          have v2 := hb.at hi
          rw [pickR_get hi, gW_of (pickR_get hi), List.getElem?_map, List.getElem?_zipWith, List.getElem?_range (by simpa [fdsW] using hi)]
          have e1 : (fdsW fs)[i]? = some (fdW fs[i]) := by
            unfold fdsW
            rw [List.getElem?_map, List.getElem?_eq_getElem hi]; rfl
          rw [e1]
          have e2 : kdAt fs i = fs[i].2 := kdAt_of (List.getElem?_eq_getElem hi)
          rw [e2] at hk v1 v2 ⊢
          simp only [Option.map_some, fdW, Int.toNat_natCast]
          congr 1
          by_cases hc : fs[i].2 = Str.ofString "counter"
          · rw [hc] at v1 v2 ⊢
            rw [isC_c, if_pos rfl, cnt_double v1 v2 v1]
          · rw [isC_false hc, if_neg (by simp), kinds_self hk (isC_false hc) v1 v2]
        · rw [List.getElem?_eq_none (by simp [fdsW]; omega), List.getElem?_eq_none (by rw [pickR_len]; omega)]
      rw [hm]
      simp [WP_ok, WP_err, WP_bind, WP_ite, need_some, needS_some, res_ok, thenS_ok, WS_thenS, WS_nx, WS_rt, WS_bk, WS_ct, WS_nil, WS_cons, WS_expr, WS_asg, WS_par, WS_setSub, WS_setAtt, WS_ife, WS_ret, WS_retN, WS_ite, sm_v, sm_t, ev, evL, evEs, evAnd, evOr, evAndT, evOrT, evChain, evSlc, dflT, prm, two, one, bltW, bl1, bl2, negW, intOf, vD, vS, vL, conL, conD, vO, conO, truW, tgW_nm, tgW_tup, tgWs_nil, tgWs_cons, lenW, fullW, bindW_nil, kind_append, kind_extend, kind_pop, kind_popAt, kind_reverse, kind_clear, kind_insert, kind_index, kind_join, kind_split, kind_upper, kind_startswith, kind_count, isStrW, newL, newD, wipeW, sizeLine_eq, if_true, if_false, Bool.false_eq_true, not_false_eq_true, not_true_eq_false, bin_addI, bin_subI, cmp_eqI, cmp_eqT, cmp_neT, cmp_gtI, cmp_ltI, cmp_leI, int_bl, idx_t0, idx_t1, idx_l0, idx_l1, pow_25, pow_9, pow_20, List.length_cons, List.length_nil, Nat.zero_add, List.set_cons_zero, List.set_cons_succ, List.getElem?_cons_zero, List.getElem?_cons_succ]
      refine wp_double hf hl hB hx hb hx ?_
      simp [WP_ok, WP_err, WP_bind, WP_ite, need_some, needS_some, res_ok, thenS_ok, WS_thenS, WS_nx, WS_rt, WS_bk, WS_ct, WS_nil, WS_cons, WS_expr, WS_asg, WS_par, WS_setSub, WS_setAtt, WS_ife, WS_ret, WS_retN, WS_ite, sm_v, sm_t, ev, evL, evEs, evAnd, evOr, evAndT, evOrT, evChain, evSlc, dflT, prm, two, one, bltW, bl1, bl2, negW, intOf, vD, vS, vL, conL, conD, vO, conO, truW, tgW_nm, tgW_tup, tgWs_nil, tgWs_cons, lenW, fullW, bindW_nil, kind_append, kind_extend, kind_pop, kind_popAt, kind_reverse, kind_clear, kind_insert, kind_index, kind_join, kind_split, kind_upper, kind_startswith, kind_count, isStrW, newL, newD, wipeW, sizeLine_eq, if_true, if_false, Bool.false_eq_true, not_false_eq_true, not_true_eq_false, bin_addI, bin_subI, cmp_eqI, cmp_eqT, cmp_neT, cmp_gtI, cmp_ltI, cmp_leI, int_bl, idx_t0, idx_t1, idx_l0, idx_l1, pow_25, pow_9, pow_20, List.length_cons, List.length_nil, Nat.zero_add, List.set_cons_zero, List.set_cons_succ, List.getElem?_cons_zero, List.getElem?_cons_succ, hz2]
      refine wp_double hf hl hB hx hb hy ?_
      rw [hD]
      simp [WP_ok, WP_err, WP_bind, WP_ite, need_some, needS_some, res_ok, thenS_ok, WS_thenS, WS_nx, WS_rt, WS_bk, WS_ct, WS_nil, WS_cons, WS_expr, WS_asg, WS_par, WS_setSub, WS_setAtt, WS_ife, WS_ret, WS_retN, WS_ite, sm_v, sm_t, ev, evL, evEs, evAnd, evOr, evAndT, evOrT, evChain, evSlc, dflT, prm, two, one, bltW, bl1, bl2, negW, intOf, vD, vS, vL, conL, conD, vO, conO, truW, tgW_nm, tgW_tup, tgWs_nil, tgWs_cons, lenW, fullW, bindW_nil, kind_append, kind_extend, kind_pop, kind_popAt, kind_reverse, kind_clear, kind_insert, kind_index, kind_join, kind_split, kind_upper, kind_startswith, kind_count, isStrW, newL, newD, wipeW, sizeLine_eq, if_true, if_false, Bool.false_eq_true, not_false_eq_true, not_true_eq_false, bin_addI, bin_subI, cmp_eqI, cmp_eqT, cmp_neT, cmp_gtI, cmp_ltI, cmp_leI, int_bl, idx_t0, idx_t1, idx_l0, idx_l1, pow_25, pow_9, pow_20, List.length_cons, List.length_nil, Nat.zero_add, List.set_cons_zero, List.set_cons_succ, List.getElem?_cons_zero, List.getElem?_cons_succ, hz, pureW, q]
end PyL

open PySem PySem.Spec PyProof.Rows L2 PyI
namespace PyL
/-- each number of the script gives a pot -/
theorem pot_spec (ns : List Int) (k : Nat) (hk : k < 64) : ∃ x y, 0 ≤ x ∧ 0 ≤ y ∧ y < 2147483648 ∧ F_law_pot.sem [.scr ns, .int k] [] = .ok (.ref 0) [⟨true, .lst [.int x, .int y]⟩] := by
  have fin : ∀ d : Int, ∃ x y, 0 ≤ x ∧ 0 ≤ y ∧ y < 2147483648 ∧ (if 1000000000000000000 < (if d < 0 then -d else d) then (if d < 0 then -d else d) - 1000000000000000000 else 0) = x ∧ ((if d < 0 then -d else d) % 2147483587 * 48271 + 60013 * (k : Int) + 29) % 2147483647 = y := fun d => by
    refine ⟨_, _, ?_, Int.emod_nonneg _ (by decide), ?_, rfl, rfl⟩
    · split <;> omega
    · have := Int.emod_lt_of_pos ((if d < 0 then -d else d) % 2147483587 * 48271 + 60013 * (k : Int) + 29) (b := 2147483647) (by decide)
      omega
  have c2 : CMul 60013 (k : Int) := .inl (by omega)
  have p18 : ∀ d : Int, CMul (d % 2147483587) 48271 := fun d => .inr (by decide)
  by_cases h : k < ns.length
  · obtain ⟨x, y, h1, h2, h3, h4, h5⟩ := fin ns[k]
    refine ⟨x, y, h1, h2, h3, ?_⟩
    simp [F_law_pot, runW, D_law_pot, B_law_pot, evSs, evS, ev, evL, evEs, Sm.of, Res.bind, Res.thenS, dflT, prm, two, cmpW, idxW, vD, vS, conL, conD, need, truW, atI, ixN, bltW, bl1, bl2, lenW, absW, needS, setSubW, intOf, binW, c2, p18, h, tgW, newL, List.getElem?_eq_getElem, sizeLine_eq, h4, h5]
  · obtain ⟨x, y, h1, h2, h3, h4, h5⟩ := fin 0
    refine ⟨x, y, h1, h2, h3, ?_⟩
    simp at h4 h5
    subst h4
    simp [F_law_pot, runW, D_law_pot, B_law_pot, evSs, evS, ev, evL, evEs, Sm.of, Res.bind, Res.thenS, dflT, prm, two, cmpW, idxW, vD, vS, conL, conD, need, truW, atI, ixN, bltW, bl1, bl2, lenW, absW, needS, setSubW, intOf, binW, c2, p18, h, tgW, newL, List.getElem?_eq_getElem, sizeLine_eq, h5, CMul]
theorem wp_pot {ns : List Int} {k : Nat} {M : Store} {Q : W → Store → Prop} (hk : k < 64) (q : ∀ c, Pot c → Q (.ref M.length) (M ++ [c])) : WP (callW F_law_pot.sem false [.scr ns, .int (k : Int)] M) Q := by
  obtain ⟨x, y, h1, h2, h3, h4⟩ := pot_spec ns k hk
  exact WP.of_eq (call_new M rfl h4 rfl rfl) (q _ ⟨x, y, h1, h2, h3, rfl⟩)
/-- the law, a turn of it for each number -/
theorem last_at {M : Store} {c : Cell} : (M ++ [c])[M.length]? = some c := by simp
theorem blsOf_rep : ∀ n, blsOf (List.replicate n (W.bl true)) = some (List.replicate n true)
  | 0 => rfl
  | n + 1 => by simp [List.replicate_succ, blsOf, blsOf_rep n]
theorem minmax_ok {ns : List Int} {m : Int} (hm : 1 ≤ m ∧ m ≤ 63) : ∃ j : Int, 0 ≤ j ∧ j ≤ 63 ∧ (if (if (ns.length : Int) < m then (ns.length : Int) else m) > 1 then (if (ns.length : Int) < m then (ns.length : Int) else m) else 1) = j := by
  refine ⟨_, ?_, ?_, rfl⟩ <;> (split <;> (try split) <;> omega)
/-- one of a live list's values -/
def Among2P (rs : List W) (b : Bool) (w : W) (M' : Store) : Prop := ∃ (c' : Cell), w ∈ rs ∧ M' = [c', ⟨b, .lst rs⟩] ∧ Pot c'
theorem among2_spec {c : Cell} {rs : List W} {b : Bool} (pc : Pot c) (h0 : rs ≠ []) (hl : rs.length ≤ 100000) : WP (F_law_among.sem [.ref 0, .ref 1] [c, ⟨b, .lst rs⟩]) (Among2P rs b) := by
  have hpos : 0 < rs.length := List.length_pos_iff.mpr h0
  rw [se_law_among]; refine WP_run (show _ = _ from rfl) ?_
  simp [B_law_among, D_law_among, ps_law_among, fn_law_among_law_draw, ps_law_draw, WP_ok, WP_err, WP_bind, WP_ite, need_some, needS_some, res_ok, thenS_ok, WS_thenS, WS_nx, WS_rt, WS_bk, WS_ct, WS_nil, WS_cons, WS_expr, WS_asg, WS_par, WS_setSub, WS_setAtt, WS_ife, WS_ret, WS_retN, WS_ite, sm_v, sm_t, ev, evL, evEs, evAnd, evOr, evAndT, evOrT, evChain, evSlc, dflT, prm, two, one, bltW, bl1, bl2, negW, intOf, vD, vS, vL, conL, conD, vO, conO, truW, tgW_nm, tgW_tup, tgWs_nil, tgWs_cons, lenW, fullW, bindW_nil, kind_append, kind_extend, kind_pop, kind_popAt, kind_reverse, kind_clear, kind_insert, kind_index, kind_join, kind_split, kind_upper, kind_startswith, kind_count, isStrW, newL, newD, wipeW, sizeLine_eq, if_true, if_false, Bool.false_eq_true, not_false_eq_true, not_true_eq_false, bin_addI, bin_subI, cmp_eqI, cmp_eqT, cmp_neT, cmp_gtI, cmp_ltI, cmp_leI, int_bl, idx_t0, idx_t1, idx_l0, idx_l1, pow_25, pow_9, pow_20, List.length_cons, List.length_nil, Nat.zero_add, List.set_cons_zero, List.set_cons_succ, List.getElem?_cons_zero, List.getElem?_cons_succ]
  refine wp_draw rfl pc (by omega) (by omega) fun d c1 d0 d1 p1 => ?_
  obtain ⟨r, hr1, ej⟩ := draw_in (L := rs) d0 d1
  simp only [List.set_cons_zero, List.set_cons_succ, List.getElem?_cons_zero, List.getElem?_cons_succ]
  rw [idx_ref (M := [c1, ⟨b, .lst rs⟩]) (n := 1) rfl ej]
  simp only [WP_ok, WP_err, WP_bind, WP_ite, need_some, needS_some, res_ok, thenS_ok, WS_thenS, WS_nx, WS_rt, WS_bk, WS_ct, WS_nil, WS_cons, WS_expr, WS_asg, WS_par, WS_setSub, WS_setAtt, WS_ife, WS_ret, WS_retN, WS_ite, sm_v, sm_t, ev, evL, evEs, evAnd, evOr, evAndT, evOrT, evChain, evSlc, dflT, prm, two, one, bltW, bl1, bl2, negW, intOf, vD, vS, vL, conL, conD, vO, conO, truW, tgW_nm, tgW_tup, tgWs_nil, tgWs_cons, lenW, fullW, bindW_nil, kind_append, kind_extend, kind_pop, kind_popAt, kind_reverse, kind_clear, kind_insert, kind_index, kind_join, kind_split, kind_upper, kind_startswith, kind_count, isStrW, newL, newD, wipeW, sizeLine_eq, if_true, if_false, Bool.false_eq_true, not_false_eq_true, not_true_eq_false, bin_addI, bin_subI, cmp_eqI, cmp_eqT, cmp_neT, cmp_gtI, cmp_ltI, cmp_leI, int_bl, idx_t0, idx_t1, idx_l0, idx_l1, pow_25, pow_9, pow_20, List.length_cons, List.length_nil, Nat.zero_add, List.set_cons_zero, List.set_cons_succ, List.getElem?_cons_zero, List.getElem?_cons_succ]
  exact ⟨c1, hr1, rfl, p1⟩
theorem wp_among2 {a n : Nat} {rs : List W} {b : Bool} {c : Cell} {M : Store} {Q : W → Store → Prop} (hab : a ≠ n) (ha : M[a]? = some c) (hn : M[n]? = some ⟨b, .lst rs⟩) (pc : Pot c) (h0 : rs ≠ []) (hl : rs.length ≤ 100000) (hp : pureWs rs = true)
    (k : ∀ (r : W) (c' : Cell), r ∈ rs → Pot c' → Q r ((M.set n ⟨b, .lst rs⟩).set a c')) : WP (callW F_law_among.sem true [.ref a, .ref n] M) Q := by
  refine wp_ref2 hab ha hn rfl pc.pure hp ((among2_spec pc h0 hl).imp ?_)
  rintro w M' ⟨c', hw, rfl, p⟩
  have hpw := pureWs_iff.mp hp w hw
  exact ⟨c', _, [], rfl, p.pure, hp, by rw [outW_pure hpw]; exact hpw, by rw [outW_pure hpw]; exact k w c' hw p⟩
end PyL

open PySem PySem.Spec PyProof.Rows L2 PyI
namespace PyL
def RightP (w : W) (M' : Store) : Prop := ∃ (c' : Cell) (r : Store), w = .bl true ∧ M' = c' :: r ∧ Pot c'
def RightI (fs : List Fd) (sz : Int) (rows : List W) (i : Nat) (l : LM) (M : Store) : Prop := ∃ (rs : List W) (c' : Cell) (a b d e : Option W), l = [some (.ref 0), some (.int sz), a, some (.lst (fdsW fs)), some (.lst rows), some (schW fs), some (.ref 1), b, d, e] ∧ M = [c', ⟨true, .lst rs⟩] ∧ rs ≠ [] ∧ rs.length ≤ 8 + i ∧ (∀ r ∈ rs, IsRow (B27 * 3 ^ i) fs r) ∧ Pot c'
theorem right_spec {c : Cell} (pc : Pot c) : WP (F_law_right.sem [.ref 0] [c]) RightP := by
  rw [se_law_right]; refine WP_run (show _ = _ from rfl) ?_
  simp [B_law_right, D_law_right, X1_law_right, ps_law_right, fn_law_right_law_draw, fn_law_right_law_case, fn_law_right_law_among, fn_law_right_law_double_right, fn_law_right_law_pick, ps_law_draw, ps_law_case, ps_law_among, ps_law_double_right, ps_law_pick, mt_law_right_Schema___init, ps_Schema___init, WP_ok, WP_err, WP_bind, WP_ite, need_some, needS_some, res_ok, thenS_ok, WS_thenS, WS_nx, WS_rt, WS_bk, WS_ct, WS_nil, WS_cons, WS_expr, WS_asg, WS_par, WS_setSub, WS_setAtt, WS_ife, WS_ret, WS_retN, WS_ite, sm_v, sm_t, ev, evL, evEs, evAnd, evOr, evAndT, evOrT, evChain, evSlc, dflT, prm, two, one, bltW, bl1, bl2, negW, intOf, vD, vS, vL, conL, conD, vO, conO, truW, tgW_nm, tgW_tup, tgWs_nil, tgWs_cons, lenW, fullW, bindW_nil, kind_append, kind_extend, kind_pop, kind_popAt, kind_reverse, kind_clear, kind_insert, kind_index, kind_join, kind_split, kind_upper, kind_startswith, kind_count, isStrW, newL, newD, wipeW, sizeLine_eq, if_true, if_false, Bool.false_eq_true, not_false_eq_true, not_true_eq_false, bin_addI, bin_subI, cmp_eqI, cmp_eqT, cmp_neT, cmp_gtI, cmp_ltI, cmp_leI, int_bl, idx_t0, idx_t1, idx_l0, idx_l1, pow_25, pow_9, pow_20, List.length_cons, List.length_nil, Nat.zero_add, List.set_cons_zero, List.set_cons_succ, List.getElem?_cons_zero, List.getElem?_cons_succ]
  refine wp_draw rfl pc (by decide) (by decide) fun sz c1 s0 s1 p1 => ?_
  obtain ⟨ja, hja, eja⟩ := draw_in (L := ([.int 6, .int 12] : List W)) s0 s1
  obtain ⟨jb, hjb, ejb⟩ := draw_in (L := ([.int 2, .int 4] : List W)) s0 s1
  obtain ⟨a, rfl, a0, a1⟩ : ∃ n : Int, ja = .int n ∧ 0 ≤ n ∧ n ≤ 12 := by
    simp at hja
    rcases hja with rfl | rfl <;> exact ⟨_, rfl, by decide, by decide⟩
  obtain ⟨b, rfl, b0, b1⟩ : ∃ n : Int, jb = .int n ∧ 0 ≤ n ∧ n ≤ 4 := by
    simp at hjb
    rcases hjb with rfl | rfl <;> exact ⟨_, rfl, by decide, by decide⟩
  simp [WP_ok, WP_err, WP_bind, WP_ite, need_some, needS_some, res_ok, thenS_ok, WS_thenS, WS_nx, WS_rt, WS_bk, WS_ct, WS_nil, WS_cons, WS_expr, WS_asg, WS_par, WS_setSub, WS_setAtt, WS_ife, WS_ret, WS_retN, WS_ite, sm_v, sm_t, ev, evL, evEs, evAnd, evOr, evAndT, evOrT, evChain, evSlc, dflT, prm, two, one, bltW, bl1, bl2, negW, intOf, vD, vS, vL, conL, conD, vO, conO, truW, tgW_nm, tgW_tup, tgWs_nil, tgWs_cons, lenW, fullW, bindW_nil, kind_append, kind_extend, kind_pop, kind_popAt, kind_reverse, kind_clear, kind_insert, kind_index, kind_join, kind_split, kind_upper, kind_startswith, kind_count, isStrW, newL, newD, wipeW, sizeLine_eq, if_true, if_false, Bool.false_eq_true, not_false_eq_true, not_true_eq_false, bin_addI, bin_subI, cmp_eqI, cmp_eqT, cmp_neT, cmp_gtI, cmp_ltI, cmp_leI, int_bl, idx_t0, idx_t1, idx_l0, idx_l1, pow_25, pow_9, pow_20, List.length_cons, List.length_nil, Nat.zero_add, List.set_cons_zero, List.set_cons_succ, List.getElem?_cons_zero, List.getElem?_cons_succ, idx_lst eja, idx_lst ejb]
  refine wp_case rfl p1 a0 b0 (by omega) (by decide) (by decide) fun fs rs c2 hf hne hl hc4 hl12 r0 r1 r2 p2 => ?_
  simp [B_law_right, D_law_right, X1_law_right, ps_law_right, fn_law_right_law_draw, fn_law_right_law_case, fn_law_right_law_among, fn_law_right_law_double_right, fn_law_right_law_pick, ps_law_draw, ps_law_case, ps_law_among, ps_law_double_right, ps_law_pick, mt_law_right_Schema___init, ps_Schema___init, WP_ok, WP_err, WP_bind, WP_ite, need_some, needS_some, res_ok, thenS_ok, WS_thenS, WS_nx, WS_rt, WS_bk, WS_ct, WS_nil, WS_cons, WS_expr, WS_asg, WS_par, WS_setSub, WS_setAtt, WS_ife, WS_ret, WS_retN, WS_ite, sm_v, sm_t, ev, evL, evEs, evAnd, evOr, evAndT, evOrT, evChain, evSlc, dflT, prm, two, one, bltW, bl1, bl2, negW, intOf, vD, vS, vL, conL, conD, vO, conO, truW, tgW_nm, tgW_tup, tgWs_nil, tgWs_cons, lenW, fullW, bindW_nil, kind_append, kind_extend, kind_pop, kind_popAt, kind_reverse, kind_clear, kind_insert, kind_index, kind_join, kind_split, kind_upper, kind_startswith, kind_count, isStrW, newL, newD, wipeW, sizeLine_eq, if_true, if_false, Bool.false_eq_true, not_false_eq_true, not_true_eq_false, bin_addI, bin_subI, cmp_eqI, cmp_eqT, cmp_neT, cmp_gtI, cmp_ltI, cmp_leI, int_bl, idx_t0, idx_t1, idx_l0, idx_l1, pow_25, pow_9, pow_20, List.length_cons, List.length_nil, Nat.zero_add, List.set_cons_zero, List.set_cons_succ, List.getElem?_cons_zero, List.getElem?_cons_succ]
  refine wp_schema hf hne (by omega) (by omega) (by omega) ?_
  simp [B_law_right, D_law_right, X1_law_right, ps_law_right, fn_law_right_law_draw, fn_law_right_law_case, fn_law_right_law_among, fn_law_right_law_double_right, fn_law_right_law_pick, ps_law_draw, ps_law_case, ps_law_among, ps_law_double_right, ps_law_pick, mt_law_right_Schema___init, ps_Schema___init, WP_ok, WP_err, WP_bind, WP_ite, need_some, needS_some, res_ok, thenS_ok, WS_thenS, WS_nx, WS_rt, WS_bk, WS_ct, WS_nil, WS_cons, WS_expr, WS_asg, WS_par, WS_setSub, WS_setAtt, WS_ife, WS_ret, WS_retN, WS_ite, sm_v, sm_t, ev, evL, evEs, evAnd, evOr, evAndT, evOrT, evChain, evSlc, dflT, prm, two, one, bltW, bl1, bl2, negW, intOf, vD, vS, vL, conL, conD, vO, conO, truW, tgW_nm, tgW_tup, tgWs_nil, tgWs_cons, lenW, fullW, bindW_nil, kind_append, kind_extend, kind_pop, kind_popAt, kind_reverse, kind_clear, kind_insert, kind_index, kind_join, kind_split, kind_upper, kind_startswith, kind_count, isStrW, newL, newD, wipeW, sizeLine_eq, if_true, if_false, Bool.false_eq_true, not_false_eq_true, not_true_eq_false, bin_addI, bin_subI, cmp_eqI, cmp_eqT, cmp_neT, cmp_gtI, cmp_ltI, cmp_leI, int_bl, idx_t0, idx_t1, idx_l0, idx_l1, pow_25, pow_9, pow_20, List.length_cons, List.length_nil, Nat.zero_add, List.set_cons_zero, List.set_cons_succ, List.getElem?_cons_zero, List.getElem?_cons_succ]
  refine WS_for ?_
  simp [B_law_right, D_law_right, X1_law_right, ps_law_right, fn_law_right_law_draw, fn_law_right_law_case, fn_law_right_law_among, fn_law_right_law_double_right, fn_law_right_law_pick, ps_law_draw, ps_law_case, ps_law_among, ps_law_double_right, ps_law_pick, mt_law_right_Schema___init, ps_Schema___init, WP_ok, WP_err, WP_bind, WP_ite, need_some, needS_some, res_ok, thenS_ok, WS_thenS, WS_nx, WS_rt, WS_bk, WS_ct, WS_nil, WS_cons, WS_expr, WS_asg, WS_par, WS_setSub, WS_setAtt, WS_ife, WS_ret, WS_retN, WS_ite, sm_v, sm_t, ev, evL, evEs, evAnd, evOr, evAndT, evOrT, evChain, evSlc, dflT, prm, two, one, bltW, bl1, bl2, negW, intOf, vD, vS, vL, conL, conD, vO, conO, truW, tgW_nm, tgW_tup, tgWs_nil, tgWs_cons, lenW, fullW, bindW_nil, kind_append, kind_extend, kind_pop, kind_popAt, kind_reverse, kind_clear, kind_insert, kind_index, kind_join, kind_split, kind_upper, kind_startswith, kind_count, isStrW, newL, newD, wipeW, sizeLine_eq, if_true, if_false, Bool.false_eq_true, not_false_eq_true, not_true_eq_false, bin_addI, bin_subI, cmp_eqI, cmp_eqT, cmp_neT, cmp_gtI, cmp_ltI, cmp_leI, int_bl, idx_t0, idx_t1, idx_l0, idx_l1, pow_25, pow_9, pow_20, List.length_cons, List.length_nil, Nat.zero_add, List.set_cons_zero, List.set_cons_succ, List.getElem?_cons_zero, List.getElem?_cons_succ]
  refine wp_draw rfl p2 (by decide) (by decide) fun n c3 n0 n1 p3 => ?_
  simp [WP_ok, WP_err, WP_bind, WP_ite, need_some, needS_some, res_ok, thenS_ok, WS_thenS, WS_nx, WS_rt, WS_bk, WS_ct, WS_nil, WS_cons, WS_expr, WS_asg, WS_par, WS_setSub, WS_setAtt, WS_ife, WS_ret, WS_retN, WS_ite, sm_v, sm_t, ev, evL, evEs, evAnd, evOr, evAndT, evOrT, evChain, evSlc, dflT, prm, two, one, bltW, bl1, bl2, negW, intOf, vD, vS, vL, conL, conD, vO, conO, truW, tgW_nm, tgW_tup, tgWs_nil, tgWs_cons, lenW, fullW, bindW_nil, kind_append, kind_extend, kind_pop, kind_popAt, kind_reverse, kind_clear, kind_insert, kind_index, kind_join, kind_split, kind_upper, kind_startswith, kind_count, isStrW, newL, newD, wipeW, sizeLine_eq, if_true, if_false, Bool.false_eq_true, not_false_eq_true, not_true_eq_false, bin_addI, bin_subI, cmp_eqI, cmp_eqT, cmp_neT, cmp_gtI, cmp_ltI, cmp_leI, int_bl, idx_t0, idx_t1, idx_l0, idx_l1, pow_25, pow_9, pow_20, List.length_cons, List.length_nil, Nat.zero_add, List.set_cons_zero, List.set_cons_succ, List.getElem?_cons_zero, List.getElem?_cons_succ]
  refine ⟨_, rng_items n0 (by omega), RightI fs sz rs, ⟨rs, c3, none, none, none, none, rfl, rfl, r0, by omega, by simpa using r2, p3⟩, ?_, ?_⟩
  · rintro i x l M hx ⟨rs1, c4, xa, xb, xd, xe, rfl, rfl, h0, h1, h2, p4⟩
    have hi : i < 10 := by
      have := (List.getElem?_eq_some_iff.mp hx).1
      simp at this
      omega
    have hp := rows_pure h2
    have hB0 : (0 : Int) ≤ B27 * 3 ^ i := Int.mul_nonneg (by decide) (Int.pow_nonneg (by decide))
    have hB1 : B27 * 3 ^ i ≤ 10 ^ 100 := by
      have h3 : (3 : Int) ^ i ≤ 3 ^ 10 := by
        have : ∀ j : Fin 10, (3 : Int) ^ j.val ≤ 3 ^ 10 := by decide +kernel
        exact this ⟨i, hi⟩
      have h4 : B27 * 3 ^ i ≤ B27 * 3 ^ 10 := Int.mul_le_mul_of_nonneg_left h3 (by decide)
      have h5 : B27 * 3 ^ 10 ≤ 10 ^ 100 := by decide +kernel
      omega
    have hB3 : 3 * (B27 * 3 ^ i) = B27 * 3 ^ (i + 1) := by rw [Int.pow_succ]; rw [Int.mul_comm 3, Int.mul_assoc]
    refine ⟨_, rfl, ?_⟩
    simp [B_law_right, D_law_right, X1_law_right, ps_law_right, fn_law_right_law_draw, fn_law_right_law_case, fn_law_right_law_among, fn_law_right_law_double_right, fn_law_right_law_pick, ps_law_draw, ps_law_case, ps_law_among, ps_law_double_right, ps_law_pick, mt_law_right_Schema___init, ps_Schema___init, WP_ok, WP_err, WP_bind, WP_ite, need_some, needS_some, res_ok, thenS_ok, WS_thenS, WS_nx, WS_rt, WS_bk, WS_ct, WS_nil, WS_cons, WS_expr, WS_asg, WS_par, WS_setSub, WS_setAtt, WS_ife, WS_ret, WS_retN, WS_ite, sm_v, sm_t, ev, evL, evEs, evAnd, evOr, evAndT, evOrT, evChain, evSlc, dflT, prm, two, one, bltW, bl1, bl2, negW, intOf, vD, vS, vL, conL, conD, vO, conO, truW, tgW_nm, tgW_tup, tgWs_nil, tgWs_cons, lenW, fullW, bindW_nil, kind_append, kind_extend, kind_pop, kind_popAt, kind_reverse, kind_clear, kind_insert, kind_index, kind_join, kind_split, kind_upper, kind_startswith, kind_count, isStrW, newL, newD, wipeW, sizeLine_eq, if_true, if_false, Bool.false_eq_true, not_false_eq_true, not_true_eq_false, bin_addI, bin_subI, cmp_eqI, cmp_eqT, cmp_neT, cmp_gtI, cmp_ltI, cmp_leI, int_bl, idx_t0, idx_t1, idx_l0, idx_l1, pow_25, pow_9, pow_20, List.length_cons, List.length_nil, Nat.zero_add, List.set_cons_zero, List.set_cons_succ, List.getElem?_cons_zero, List.getElem?_cons_succ]
    refine wp_among2 (by decide) rfl rfl p4 h0 (by omega) hp fun x1 c5 m1 p5 => ?_
    simp only [List.set_cons_zero, List.set_cons_succ, List.getElem?_cons_zero, List.getElem?_cons_succ]
    refine wp_among2 (by decide) rfl rfl p5 h0 (by omega) hp fun x2 c6 m2 p6 => ?_
    simp only [List.set_cons_zero, List.set_cons_succ, List.getElem?_cons_zero, List.getElem?_cons_succ]
    refine wp_among2 (by decide) rfl rfl p6 h0 (by omega) hp fun x3 c7 m3 p7 => ?_
    obtain ⟨xs, rfl, hxs⟩ := h2 x1 m1
    obtain ⟨bs, rfl, hbs⟩ := h2 x2 m2
    obtain ⟨ys, rfl, hys⟩ := h2 x3 m3
    simp [B_law_right, D_law_right, X1_law_right, ps_law_right, fn_law_right_law_draw, fn_law_right_law_case, fn_law_right_law_among, fn_law_right_law_double_right, fn_law_right_law_pick, ps_law_draw, ps_law_case, ps_law_among, ps_law_double_right, ps_law_pick, mt_law_right_Schema___init, ps_Schema___init, WP_ok, WP_err, WP_bind, WP_ite, need_some, needS_some, res_ok, thenS_ok, WS_thenS, WS_nx, WS_rt, WS_bk, WS_ct, WS_nil, WS_cons, WS_expr, WS_asg, WS_par, WS_setSub, WS_setAtt, WS_ife, WS_ret, WS_retN, WS_ite, sm_v, sm_t, ev, evL, evEs, evAnd, evOr, evAndT, evOrT, evChain, evSlc, dflT, prm, two, one, bltW, bl1, bl2, negW, intOf, vD, vS, vL, conL, conD, vO, conO, truW, tgW_nm, tgW_tup, tgWs_nil, tgWs_cons, lenW, fullW, bindW_nil, kind_append, kind_extend, kind_pop, kind_popAt, kind_reverse, kind_clear, kind_insert, kind_index, kind_join, kind_split, kind_upper, kind_startswith, kind_count, isStrW, newL, newD, wipeW, sizeLine_eq, if_true, if_false, Bool.false_eq_true, not_false_eq_true, not_true_eq_false, bin_addI, bin_subI, cmp_eqI, cmp_eqT, cmp_neT, cmp_gtI, cmp_ltI, cmp_leI, int_bl, idx_t0, idx_t1, idx_l0, idx_l1, pow_25, pow_9, pow_20, List.length_cons, List.length_nil, Nat.zero_add, List.set_cons_zero, List.set_cons_succ, List.getElem?_cons_zero, List.getElem?_cons_succ]
    refine wp_double_right hf (by omega) hB0 hB1 hxs hbs hys ?_
    simp [B_law_right, D_law_right, X1_law_right, ps_law_right, fn_law_right_law_draw, fn_law_right_law_case, fn_law_right_law_among, fn_law_right_law_double_right, fn_law_right_law_pick, ps_law_draw, ps_law_case, ps_law_among, ps_law_double_right, ps_law_pick, mt_law_right_Schema___init, ps_Schema___init, WP_ok, WP_err, WP_bind, WP_ite, need_some, needS_some, res_ok, thenS_ok, WS_thenS, WS_nx, WS_rt, WS_bk, WS_ct, WS_nil, WS_cons, WS_expr, WS_asg, WS_par, WS_setSub, WS_setAtt, WS_ife, WS_ret, WS_retN, WS_ite, sm_v, sm_t, ev, evL, evEs, evAnd, evOr, evAndT, evOrT, evChain, evSlc, dflT, prm, two, one, bltW, bl1, bl2, negW, intOf, vD, vS, vL, conL, conD, vO, conO, truW, tgW_nm, tgW_tup, tgWs_nil, tgWs_cons, lenW, fullW, bindW_nil, kind_append, kind_extend, kind_pop, kind_popAt, kind_reverse, kind_clear, kind_insert, kind_index, kind_join, kind_split, kind_upper, kind_startswith, kind_count, isStrW, newL, newD, wipeW, sizeLine_eq, if_true, if_false, Bool.false_eq_true, not_false_eq_true, not_true_eq_false, bin_addI, bin_subI, cmp_eqI, cmp_eqT, cmp_neT, cmp_gtI, cmp_ltI, cmp_leI, int_bl, idx_t0, idx_t1, idx_l0, idx_l1, pow_25, pow_9, pow_20, List.length_cons, List.length_nil, Nat.zero_add, List.set_cons_zero, List.set_cons_succ, List.getElem?_cons_zero, List.getElem?_cons_succ]
    refine wp_lawpick hf (by omega) hB0 hxs hbs hys ?_
    rw [mth_app (M := [c7, ⟨true, .lst rs1⟩]) (x := rs1) rfl (by omega)]
    simp only [WP_ok, List.set_cons_zero, List.set_cons_succ, List.getElem?_cons_zero, List.getElem?_cons_succ]
    refine ⟨rng_it (by omega) (by omega), _, c7, _, _, _, _, rfl, rfl, by simp, by simp; omega, fun r hr => ?_, p7⟩
    rcases List.mem_append.mp hr with h | h
    · exact (h2 r h).mono (by omega)
    · have : r = .tup (pickR fs xs bs ys) := by simpa using h
      rw [this, ← hB3]
      exact ⟨_, rfl, pickR_ok hf hB0 hxs hbs hys⟩
  · rintro l M ⟨rs1, c4, xa, xb, xd, xe, rfl, rfl, h0, h1, h2, p4⟩
    simp [WP_ok, WP_err, WP_bind, WP_ite, need_some, needS_some, res_ok, thenS_ok, WS_thenS, WS_nx, WS_rt, WS_bk, WS_ct, WS_nil, WS_cons, WS_expr, WS_asg, WS_par, WS_setSub, WS_setAtt, WS_ife, WS_ret, WS_retN, WS_ite, sm_v, sm_t, ev, evL, evEs, evAnd, evOr, evAndT, evOrT, evChain, evSlc, dflT, prm, two, one, bltW, bl1, bl2, negW, intOf, vD, vS, vL, conL, conD, vO, conO, truW, tgW_nm, tgW_tup, tgWs_nil, tgWs_cons, lenW, fullW, bindW_nil, kind_append, kind_extend, kind_pop, kind_popAt, kind_reverse, kind_clear, kind_insert, kind_index, kind_join, kind_split, kind_upper, kind_startswith, kind_count, isStrW, newL, newD, wipeW, sizeLine_eq, if_true, if_false, Bool.false_eq_true, not_false_eq_true, not_true_eq_false, bin_addI, bin_subI, cmp_eqI, cmp_eqT, cmp_neT, cmp_gtI, cmp_ltI, cmp_leI, int_bl, idx_t0, idx_t1, idx_l0, idx_l1, pow_25, pow_9, pow_20, List.length_cons, List.length_nil, Nat.zero_add, List.set_cons_zero, List.set_cons_succ, List.getElem?_cons_zero, List.getElem?_cons_succ]
    exact ⟨c4, _, rfl, rfl, p4⟩
def LawI (i : Nat) (ys : List W) (M : Store) : Prop := ys = List.replicate i (.bl true)
theorem sem_law (ns : List Int) (hl : ns.length ≤ 63) : ∃ M, F_law.sem [.scr ns] [] = .ok (.bl true) M := by
  suffices h : WP (F_law.sem [.scr ns] []) fun w _ => w = .bl true by
    obtain ⟨w, M, e, rfl⟩ := h.get
    exact ⟨M, e⟩
  rw [se_law]; refine WP_run (show _ = _ from rfl) ?_
  simp [B_law, D_law, e1_law, ps_law, fn_law_law_right, fn_law_law_pot, ps_law_right, ps_law_pot, WP_ok, WP_err, WP_bind, WP_ite, need_some, needS_some, res_ok, thenS_ok, WS_thenS, WS_nx, WS_rt, WS_bk, WS_ct, WS_nil, WS_cons, WS_expr, WS_asg, WS_par, WS_setSub, WS_setAtt, WS_ife, WS_ret, WS_retN, WS_ite, sm_v, sm_t, ev, evL, evEs, evAnd, evOr, evAndT, evOrT, evChain, evSlc, dflT, prm, two, one, bltW, bl1, bl2, negW, intOf, vD, vS, vL, conL, conD, vO, conO, truW, tgW_nm, tgW_tup, tgWs_nil, tgWs_cons, lenW, fullW, bindW_nil, kind_append, kind_extend, kind_pop, kind_popAt, kind_reverse, kind_clear, kind_insert, kind_index, kind_join, kind_split, kind_upper, kind_startswith, kind_count, isStrW, newL, newD, wipeW, sizeLine_eq, if_true, if_false, Bool.false_eq_true, not_false_eq_true, not_true_eq_false, bin_addI, bin_subI, cmp_eqI, cmp_eqT, cmp_neT, cmp_gtI, cmp_ltI, cmp_leI, int_bl, idx_t0, idx_t1, idx_l0, idx_l1, pow_25, pow_9, pow_20, List.length_cons, List.length_nil, Nat.zero_add, List.set_cons_zero, List.set_cons_succ, List.getElem?_cons_zero, List.getElem?_cons_succ]
  refine WP_lc ?_
  simp [B_law, D_law, e1_law, ps_law, fn_law_law_right, fn_law_law_pot, ps_law_right, ps_law_pot, WP_ok, WP_err, WP_bind, WP_ite, need_some, needS_some, res_ok, thenS_ok, WS_thenS, WS_nx, WS_rt, WS_bk, WS_ct, WS_nil, WS_cons, WS_expr, WS_asg, WS_par, WS_setSub, WS_setAtt, WS_ife, WS_ret, WS_retN, WS_ite, sm_v, sm_t, ev, evL, evEs, evAnd, evOr, evAndT, evOrT, evChain, evSlc, dflT, prm, two, one, bltW, bl1, bl2, negW, intOf, vD, vS, vL, conL, conD, vO, conO, truW, tgW_nm, tgW_tup, tgWs_nil, tgWs_cons, lenW, fullW, bindW_nil, kind_append, kind_extend, kind_pop, kind_popAt, kind_reverse, kind_clear, kind_insert, kind_index, kind_join, kind_split, kind_upper, kind_startswith, kind_count, isStrW, newL, newD, wipeW, sizeLine_eq, if_true, if_false, Bool.false_eq_true, not_false_eq_true, not_true_eq_false, bin_addI, bin_subI, cmp_eqI, cmp_eqT, cmp_neT, cmp_gtI, cmp_ltI, cmp_leI, int_bl, idx_t0, idx_t1, idx_l0, idx_l1, pow_25, pow_9, pow_20, List.length_cons, List.length_nil, Nat.zero_add, List.set_cons_zero, List.set_cons_succ, List.getElem?_cons_zero, List.getElem?_cons_succ]
  generalize hj : (if (1 : Int) < (if (4 : Int) < (ns.length : Int) then (4 : Int) else (ns.length : Int)) then (if (4 : Int) < (ns.length : Int) then (4 : Int) else (ns.length : Int)) else (1 : Int)) = j
  have j0 : 0 ≤ j := by rw [← hj]; split <;> (try split) <;> omega
  have j1 : j ≤ 63 := by rw [← hj]; split <;> (try split) <;> omega
  refine ⟨_, rng_items j0 (by omega), by rw [sizeLine_eq]; simp; omega, LawI, rfl, ?_, ?_⟩
  · rintro i x ys M hx rfl
    have hi : i < j.toNat := by
      have := (List.getElem?_eq_some_iff.mp hx).1
      simpa using this
    have hxi : x = .int (i : Int) := by
      rw [List.getElem?_map, List.getElem?_range hi] at hx
      cases hx; rfl
    subst hxi
    refine ⟨_, rfl, ?_⟩
    simp [B_law, D_law, e1_law, ps_law, fn_law_law_right, fn_law_law_pot, ps_law_right, ps_law_pot, WP_ok, WP_err, WP_bind, WP_ite, need_some, needS_some, res_ok, thenS_ok, WS_thenS, WS_nx, WS_rt, WS_bk, WS_ct, WS_nil, WS_cons, WS_expr, WS_asg, WS_par, WS_setSub, WS_setAtt, WS_ife, WS_ret, WS_retN, WS_ite, sm_v, sm_t, ev, evL, evEs, evAnd, evOr, evAndT, evOrT, evChain, evSlc, dflT, prm, two, one, bltW, bl1, bl2, negW, intOf, vD, vS, vL, conL, conD, vO, conO, truW, tgW_nm, tgW_tup, tgWs_nil, tgWs_cons, lenW, fullW, bindW_nil, kind_append, kind_extend, kind_pop, kind_popAt, kind_reverse, kind_clear, kind_insert, kind_index, kind_join, kind_split, kind_upper, kind_startswith, kind_count, isStrW, newL, newD, wipeW, sizeLine_eq, if_true, if_false, Bool.false_eq_true, not_false_eq_true, not_true_eq_false, bin_addI, bin_subI, cmp_eqI, cmp_eqT, cmp_neT, cmp_gtI, cmp_ltI, cmp_leI, int_bl, idx_t0, idx_t1, idx_l0, idx_l1, pow_25, pow_9, pow_20, List.length_cons, List.length_nil, Nat.zero_add, List.set_cons_zero, List.set_cons_succ, List.getElem?_cons_zero, List.getElem?_cons_succ]
    refine wp_pot (by omega) fun c pc => ?_
    refine wp_ref1 last_at rfl pc.pure ((right_spec pc).imp ?_)
    rintro w M' ⟨c', r, rfl, rfl, p⟩
    refine ⟨c', r, rfl, p.pure, rfl, rng_it (by omega) (by omega), ?_⟩
    show _ = List.replicate (i + 1) _
    rw [List.replicate_succ']
    rfl
  · rintro ys M hyl rfl
    simp [WP_ok, WP_err, WP_bind, WP_ite, need_some, needS_some, res_ok, thenS_ok, WS_thenS, WS_nx, WS_rt, WS_bk, WS_ct, WS_nil, WS_cons, WS_expr, WS_asg, WS_par, WS_setSub, WS_setAtt, WS_ife, WS_ret, WS_retN, WS_ite, sm_v, sm_t, ev, evL, evEs, evAnd, evOr, evAndT, evOrT, evChain, evSlc, dflT, prm, two, one, bltW, bl1, bl2, negW, intOf, vD, vS, vL, conL, conD, vO, conO, truW, tgW_nm, tgW_tup, tgWs_nil, tgWs_cons, lenW, fullW, bindW_nil, kind_append, kind_extend, kind_pop, kind_popAt, kind_reverse, kind_clear, kind_insert, kind_index, kind_join, kind_split, kind_upper, kind_startswith, kind_count, isStrW, newL, newD, wipeW, sizeLine_eq, if_true, if_false, Bool.false_eq_true, not_false_eq_true, not_true_eq_false, bin_addI, bin_subI, cmp_eqI, cmp_eqT, cmp_neT, cmp_gtI, cmp_ltI, cmp_leI, int_bl, idx_t0, idx_t1, idx_l0, idx_l1, pow_25, pow_9, pow_20, List.length_cons, List.length_nil, Nat.zero_add, List.set_cons_zero, List.set_cons_succ, List.getElem?_cons_zero, List.getElem?_cons_succ, blsW, blsOf_rep]
end PyL

open PySem PySem.Spec PyProof.Rows L2 PyI
namespace PyL
def fnL : List He.DefD := ([dOf PySem.Challenge.pw_mergereach_k23_whole_double_picks "_law_draw" 27, dOf PySem.Challenge.pw_mergereach_k23_whole_double_picks "_law_word" 29, dOf PySem.Challenge.pw_mergereach_k23_whole_double_picks "_law_words" 30, dOf PySem.Challenge.pw_mergereach_k23_whole_double_picks "_law_mixed" 28, dOf PySem.Challenge.pw_mergereach_k23_whole_double_picks "_law_fields" 31, dOf PySem.Challenge.pw_mergereach_k23_whole_double_picks "_law_shape" 37, dOf PySem.Challenge.pw_mergereach_k23_whole_double_picks "_law_step" 32, dOf PySem.Challenge.pw_mergereach_k23_whole_double_picks "_law_plan" 33, dOf PySem.Challenge.pw_mergereach_k23_whole_double_picks "_law_row" 34, dOf PySem.Challenge.pw_mergereach_k23_whole_double_picks "_law_rows" 35, dOf PySem.Challenge.pw_mergereach_k23_whole_double_picks "_law_case" 38, dOf PySem.Challenge.pw_mergereach_k23_whole_double_picks "_law_among" 39, dOf PySem.Challenge.pw_mergereach_k23_whole_double_picks "_law_pick" 36, dOf PySem.Challenge.pw_mergereach_k23_whole_double_picks "is_integer" 13, dOf PySem.Challenge.pw_mergereach_k23_whole_double_picks "is_name" 14, dOf PySem.Challenge.pw_mergereach_k23_whole_double_picks "is_value" 18, dOfM PySem.Challenge.pw_mergereach_k23_whole_double_picks "Schema" "__len__" 17 15, dOf PySem.Challenge.pw_mergereach_k23_whole_double_picks "is_version" 19, dOf PySem.Challenge.pw_mergereach_k23_whole_double_picks "check_versions" 21, dOf PySem.Challenge.pw_mergereach_k23_whole_double_picks "picked_value" 22, dOfM PySem.Challenge.pw_mergereach_k23_whole_double_picks "Schema" "fields" 17 5, dOf PySem.Challenge.pw_mergereach_k23_whole_double_picks "pick" 23, dOf PySem.Challenge.pw_mergereach_k23_whole_double_picks "double_pick" 24, dOf PySem.Challenge.pw_mergereach_k23_whole_double_picks "_law_majority" 40, dOf PySem.Challenge.pw_mergereach_k23_whole_double_picks "_law_double_right" 41, dOf PySem.Challenge.pw_mergereach_k23_whole_double_picks "is_field" 15, dOf PySem.Challenge.pw_mergereach_k23_whole_double_picks "check_fields" 16, dOfM PySem.Challenge.pw_mergereach_k23_whole_double_picks "Schema" "__init__" 17 2, dOf PySem.Challenge.pw_mergereach_k23_whole_double_picks "_law_right" 42, dOf PySem.Challenge.pw_mergereach_k23_whole_double_picks "_law_pot" 26] : List (He.DefD)) ++ ([dOf PySem.Challenge.pw_mergereach_k23_whole_double_picks "law" 43] : List (He.DefD))
def faL : List He.Fa := ([.glo "_law_draw", .glo "_law_word", .glo "_law_words", .glo "_law_mixed", .glo "_law_fields", .glo "_law_shape", .glo "_law_step", .glo "_law_plan", .glo "_law_row", .glo "_law_rows", .glo "_law_case", .glo "_law_among", .glo "_law_pick", .glo "is_integer", .glo "is_name", .glo "is_value", .glo "is_version", .glo "check_versions", .glo "picked_value", .glo "pick", .glo "double_pick", .glo "_law_majority", .glo "_law_double_right", .glo "is_field", .glo "check_fields", .glo "_law_right", .glo "_law_pot", .glo "law", .glo "Schema", .free "len"] : List (He.Fa)) ++ ([.free "list", .free "tuple", .free "all", .free "any", .free "max", .free "min", .free "abs", .free "divmod", .free "int", .free "str", .free "repr", .free "sum", .free "range", .free "enumerate", .free "zip", .free "isinstance", .free "sorted", .free "bool", .free "dict", .free "set"] : List (He.Fa))
def conL : List (Str × W) := [("MOST_LETTERS", .int 8), ("LETTERS", .str "abcdefghijklmnopqrstuvwxyz"), ("COUNTER", .str "counter"), ("POLICIES", .tup [.str "mine", .str "theirs"]), ("Schema", .cls "Schema")]
def metL : List (Str × Str) := [("Schema", "__len__"), ("Schema", "fields"), ("Schema", "__init__")]
def attL : List ((Str × Str) × W) := [(("Schema", "MOST_LABELS"), .int 12), (("Schema", "MOST_COUNTERS"), .int 4)]
def fldL : List (Str × Str) := [("Schema", "field_list"), ("Schema", "places")]
def plsL : List Str := []
def clsL : List Str := ["Schema"]
def exL (K : PySem.W.Frag) : Bool := conL.all (conKB K) && metL.all (metKB K) && attL.all (attKB K) && fldL.all (fldKB K) && plsKB K plsL
abbrev RL : PySem.W.OpenRow := PySem.W.OpenLaw.row PySem.Challenge.rw_mergereach_k23_whole_double_picks
abbrev hkL : PySem.W.Hook := hookM 6 faL fnL exL
def obL (s : PySem.W.SharedT) : AlM := obsM 6 faL fnL exL (HandSHeadRun.getT s)
theorem obL_eq (s : PySem.W.SharedT) : obL s = hkL.obs s.abs := obsM_eq (HandSHeadRun.getT_eq s)
def looseL : List PySem.Str := (["_wall", "MergeError", "MissingError", "InvalidSchema", "InvalidVersion", "InvalidText", "UnknownField", "LETTERS", "MOST_LETTERS", "COUNTER", "POLICIES", "is_integer", "is_name", "is_field", "check_fields", "Schema", "is_value", "is_version", "check_versions", "picked_value", "pick", "double_pick", "_law_pot", "_law_draw", "_law_mixed", "_law_word", "_law_words", "_law_fields", "_law_step", "_law_plan"] : List PySem.Str) ++ (["_law_row", "_law_rows", "_law_pick", "_law_shape", "_law_case", "_law_among", "_law_majority", "_law_double_right", "_law_right"] : List PySem.Str)
theorem runL (w : World) : HandSHeadRun.RunEq RL (PySem.W.view RL.prog [43]) hkL obL 6000 PyL.looseL w := by
  intro os
  kernel_rfl
end PyL

open PySem PySem.Spec PyProof.Rows L2 PyI
namespace PyL
theorem chk_law_draw : defB Y_law_draw D_law_draw 2 (C8.fnArgs (topOf PySem.Challenge.pw_mergereach_k23_whole_double_picks 27)) (C8.fnBody (topOf PySem.Challenge.pw_mergereach_k23_whole_double_picks 27)) (C8.fnScope (topOf PySem.Challenge.pw_mergereach_k23_whole_double_picks 27)) = true := by decide +kernel
theorem chk_law_word : defB Y_law_word D_law_word 2 (C8.fnArgs (topOf PySem.Challenge.pw_mergereach_k23_whole_double_picks 29)) (C8.fnBody (topOf PySem.Challenge.pw_mergereach_k23_whole_double_picks 29)) (C8.fnScope (topOf PySem.Challenge.pw_mergereach_k23_whole_double_picks 29)) = true := by decide +kernel
theorem chk_law_words : defB Y_law_words D_law_words 2 (C8.fnArgs (topOf PySem.Challenge.pw_mergereach_k23_whole_double_picks 30)) (C8.fnBody (topOf PySem.Challenge.pw_mergereach_k23_whole_double_picks 30)) (C8.fnScope (topOf PySem.Challenge.pw_mergereach_k23_whole_double_picks 30)) = true := by decide +kernel
theorem chk_law_mixed : defB Y_law_mixed D_law_mixed 2 (C8.fnArgs (topOf PySem.Challenge.pw_mergereach_k23_whole_double_picks 28)) (C8.fnBody (topOf PySem.Challenge.pw_mergereach_k23_whole_double_picks 28)) (C8.fnScope (topOf PySem.Challenge.pw_mergereach_k23_whole_double_picks 28)) = true := by decide +kernel
theorem chk_law_fields : defB Y_law_fields D_law_fields 3 (C8.fnArgs (topOf PySem.Challenge.pw_mergereach_k23_whole_double_picks 31)) (C8.fnBody (topOf PySem.Challenge.pw_mergereach_k23_whole_double_picks 31)) (C8.fnScope (topOf PySem.Challenge.pw_mergereach_k23_whole_double_picks 31)) = true := by decide +kernel
theorem chk_law_shape : defB Y_law_shape D_law_shape 3 (C8.fnArgs (topOf PySem.Challenge.pw_mergereach_k23_whole_double_picks 37)) (C8.fnBody (topOf PySem.Challenge.pw_mergereach_k23_whole_double_picks 37)) (C8.fnScope (topOf PySem.Challenge.pw_mergereach_k23_whole_double_picks 37)) = true := by decide +kernel
theorem chk_law_step : defB Y_law_step D_law_step 2 (C8.fnArgs (topOf PySem.Challenge.pw_mergereach_k23_whole_double_picks 32)) (C8.fnBody (topOf PySem.Challenge.pw_mergereach_k23_whole_double_picks 32)) (C8.fnScope (topOf PySem.Challenge.pw_mergereach_k23_whole_double_picks 32)) = true := by decide +kernel
theorem chk_law_plan : defB Y_law_plan D_law_plan 3 (C8.fnArgs (topOf PySem.Challenge.pw_mergereach_k23_whole_double_picks 33)) (C8.fnBody (topOf PySem.Challenge.pw_mergereach_k23_whole_double_picks 33)) (C8.fnScope (topOf PySem.Challenge.pw_mergereach_k23_whole_double_picks 33)) = true := by decide +kernel
theorem chk_law_row : defB Y_law_row D_law_row 3 (C8.fnArgs (topOf PySem.Challenge.pw_mergereach_k23_whole_double_picks 34)) (C8.fnBody (topOf PySem.Challenge.pw_mergereach_k23_whole_double_picks 34)) (C8.fnScope (topOf PySem.Challenge.pw_mergereach_k23_whole_double_picks 34)) = true := by decide +kernel
theorem chk_law_rows : defB Y_law_rows D_law_rows 4 (C8.fnArgs (topOf PySem.Challenge.pw_mergereach_k23_whole_double_picks 35)) (C8.fnBody (topOf PySem.Challenge.pw_mergereach_k23_whole_double_picks 35)) (C8.fnScope (topOf PySem.Challenge.pw_mergereach_k23_whole_double_picks 35)) = true := by decide +kernel
theorem chk_law_case : defB Y_law_case D_law_case 4 (C8.fnArgs (topOf PySem.Challenge.pw_mergereach_k23_whole_double_picks 38)) (C8.fnBody (topOf PySem.Challenge.pw_mergereach_k23_whole_double_picks 38)) (C8.fnScope (topOf PySem.Challenge.pw_mergereach_k23_whole_double_picks 38)) = true := by decide +kernel
theorem chk_law_among : defB Y_law_among D_law_among 2 (C8.fnArgs (topOf PySem.Challenge.pw_mergereach_k23_whole_double_picks 39)) (C8.fnBody (topOf PySem.Challenge.pw_mergereach_k23_whole_double_picks 39)) (C8.fnScope (topOf PySem.Challenge.pw_mergereach_k23_whole_double_picks 39)) = true := by decide +kernel
theorem chk_law_pick : defB Y_law_pick D_law_pick 4 (C8.fnArgs (topOf PySem.Challenge.pw_mergereach_k23_whole_double_picks 36)) (C8.fnBody (topOf PySem.Challenge.pw_mergereach_k23_whole_double_picks 36)) (C8.fnScope (topOf PySem.Challenge.pw_mergereach_k23_whole_double_picks 36)) = true := by decide +kernel
theorem chk_is_integer : defB Y_is_integer D_is_integer 1 (C8.fnArgs (topOf PySem.Challenge.pw_mergereach_k23_whole_double_picks 13)) (C8.fnBody (topOf PySem.Challenge.pw_mergereach_k23_whole_double_picks 13)) (C8.fnScope (topOf PySem.Challenge.pw_mergereach_k23_whole_double_picks 13)) = true := by decide +kernel
theorem chk_is_name : defB Y_is_name D_is_name 1 (C8.fnArgs (topOf PySem.Challenge.pw_mergereach_k23_whole_double_picks 14)) (C8.fnBody (topOf PySem.Challenge.pw_mergereach_k23_whole_double_picks 14)) (C8.fnScope (topOf PySem.Challenge.pw_mergereach_k23_whole_double_picks 14)) = true := by decide +kernel
theorem chk_is_value : defB Y_is_value D_is_value 2 (C8.fnArgs (topOf PySem.Challenge.pw_mergereach_k23_whole_double_picks 18)) (C8.fnBody (topOf PySem.Challenge.pw_mergereach_k23_whole_double_picks 18)) (C8.fnScope (topOf PySem.Challenge.pw_mergereach_k23_whole_double_picks 18)) = true := by decide +kernel
theorem chk_Schema___len : defB Y_Schema___len D_Schema___len 1 (C8.fnArgs (metOf PySem.Challenge.pw_mergereach_k23_whole_double_picks 17 15)) (C8.fnBody (metOf PySem.Challenge.pw_mergereach_k23_whole_double_picks 17 15)) (C8.fnScope (metOf PySem.Challenge.pw_mergereach_k23_whole_double_picks 17 15)) = true := by decide +kernel
theorem chk_is_version : defB Y_is_version D_is_version 2 (C8.fnArgs (topOf PySem.Challenge.pw_mergereach_k23_whole_double_picks 19)) (C8.fnBody (topOf PySem.Challenge.pw_mergereach_k23_whole_double_picks 19)) (C8.fnScope (topOf PySem.Challenge.pw_mergereach_k23_whole_double_picks 19)) = true := by decide +kernel
theorem chk_check_versions : defB Y_check_versions D_check_versions 2 (C8.fnArgs (topOf PySem.Challenge.pw_mergereach_k23_whole_double_picks 21)) (C8.fnBody (topOf PySem.Challenge.pw_mergereach_k23_whole_double_picks 21)) (C8.fnScope (topOf PySem.Challenge.pw_mergereach_k23_whole_double_picks 21)) = true := by decide +kernel
theorem chk_picked_value : defB Y_picked_value D_picked_value 4 (C8.fnArgs (topOf PySem.Challenge.pw_mergereach_k23_whole_double_picks 22)) (C8.fnBody (topOf PySem.Challenge.pw_mergereach_k23_whole_double_picks 22)) (C8.fnScope (topOf PySem.Challenge.pw_mergereach_k23_whole_double_picks 22)) = true := by decide +kernel
theorem chk_Schema_fields : defB Y_Schema_fields D_Schema_fields 1 (C8.fnArgs (metOf PySem.Challenge.pw_mergereach_k23_whole_double_picks 17 5)) (C8.fnBody (metOf PySem.Challenge.pw_mergereach_k23_whole_double_picks 17 5)) (C8.fnScope (metOf PySem.Challenge.pw_mergereach_k23_whole_double_picks 17 5)) = true := by decide +kernel
theorem chk_pick : defB Y_pick D_pick 4 (C8.fnArgs (topOf PySem.Challenge.pw_mergereach_k23_whole_double_picks 23)) (C8.fnBody (topOf PySem.Challenge.pw_mergereach_k23_whole_double_picks 23)) (C8.fnScope (topOf PySem.Challenge.pw_mergereach_k23_whole_double_picks 23)) = true := by decide +kernel
theorem chk_double_pick : defB Y_double_pick D_double_pick 4 (C8.fnArgs (topOf PySem.Challenge.pw_mergereach_k23_whole_double_picks 24)) (C8.fnBody (topOf PySem.Challenge.pw_mergereach_k23_whole_double_picks 24)) (C8.fnScope (topOf PySem.Challenge.pw_mergereach_k23_whole_double_picks 24)) = true := by decide +kernel
theorem chk_law_majority : defB Y_law_majority D_law_majority 3 (C8.fnArgs (topOf PySem.Challenge.pw_mergereach_k23_whole_double_picks 40)) (C8.fnBody (topOf PySem.Challenge.pw_mergereach_k23_whole_double_picks 40)) (C8.fnScope (topOf PySem.Challenge.pw_mergereach_k23_whole_double_picks 40)) = true := by decide +kernel
theorem chk_law_double_right : defB Y_law_double_right D_law_double_right 5 (C8.fnArgs (topOf PySem.Challenge.pw_mergereach_k23_whole_double_picks 41)) (C8.fnBody (topOf PySem.Challenge.pw_mergereach_k23_whole_double_picks 41)) (C8.fnScope (topOf PySem.Challenge.pw_mergereach_k23_whole_double_picks 41)) = true := by decide +kernel
theorem chk_is_field : defB Y_is_field D_is_field 1 (C8.fnArgs (topOf PySem.Challenge.pw_mergereach_k23_whole_double_picks 15)) (C8.fnBody (topOf PySem.Challenge.pw_mergereach_k23_whole_double_picks 15)) (C8.fnScope (topOf PySem.Challenge.pw_mergereach_k23_whole_double_picks 15)) = true := by decide +kernel
theorem chk_check_fields : defB Y_check_fields D_check_fields 1 (C8.fnArgs (topOf PySem.Challenge.pw_mergereach_k23_whole_double_picks 16)) (C8.fnBody (topOf PySem.Challenge.pw_mergereach_k23_whole_double_picks 16)) (C8.fnScope (topOf PySem.Challenge.pw_mergereach_k23_whole_double_picks 16)) = true := by decide +kernel
theorem chk_Schema___init : defB Y_Schema___init D_Schema___init 2 (C8.fnArgs (metOf PySem.Challenge.pw_mergereach_k23_whole_double_picks 17 2)) (C8.fnBody (metOf PySem.Challenge.pw_mergereach_k23_whole_double_picks 17 2)) (C8.fnScope (metOf PySem.Challenge.pw_mergereach_k23_whole_double_picks 17 2)) = true := by decide +kernel
theorem chk_law_right : defB Y_law_right D_law_right 1 (C8.fnArgs (topOf PySem.Challenge.pw_mergereach_k23_whole_double_picks 42)) (C8.fnBody (topOf PySem.Challenge.pw_mergereach_k23_whole_double_picks 42)) (C8.fnScope (topOf PySem.Challenge.pw_mergereach_k23_whole_double_picks 42)) = true := by decide +kernel
theorem chk_law_pot : defB Y_law_pot D_law_pot 2 (C8.fnArgs (topOf PySem.Challenge.pw_mergereach_k23_whole_double_picks 26)) (C8.fnBody (topOf PySem.Challenge.pw_mergereach_k23_whole_double_picks 26)) (C8.fnScope (topOf PySem.Challenge.pw_mergereach_k23_whole_double_picks 26)) = true := by decide +kernel
theorem chk_law : defB Y_law D_law 1 (C8.fnArgs (topOf PySem.Challenge.pw_mergereach_k23_whole_double_picks 43)) (C8.fnBody (topOf PySem.Challenge.pw_mergereach_k23_whole_double_picks 43)) (C8.fnScope (topOf PySem.Challenge.pw_mergereach_k23_whole_double_picks 43)) = true := by decide +kernel
end PyL

open PySem PySem.Spec PyProof.Rows L2 PyI
namespace PyL
section
variable {P : Program} {w : World} {K : PySem.W.Frag} {h : Heap} {mg : Str → Option Value}
def GL (K : PySem.W.Frag) : GE := ⟨K, fun c => if c ∈ clsL then some (He.ga K c) else none⟩
theorem freeL (X : K.In h) (Gn : h.Ns mainGlobals mg) (c : He.SaysD faL fnL K) : ∀ x ∈ bltNames, mg x = none := by
  intro x hx
  have hm : He.Fa.free x ∈ faL := by
    simp only [bltNames, List.mem_cons, List.not_mem_nil, or_false] at hx
    rcases hx with rfl | rfl | rfl | rfl | rfl | rfl | rfl | rfl | rfl | rfl | rfl | rfl | rfl | rfl | rfl | rfl | rfl | rfl | rfl | rfl | rfl <;> simp [faL]
  exact He.free_ok X Gn (c.facts hm)
structure SL (K : PySem.W.Frag) : Prop where
  d : He.SaysD faL fnL K
  con : ∀ q ∈ conL, conKB K q = true
  met : ∀ q ∈ metL, metKB K q = true
  att : ∀ q ∈ attL, attKB K q = true
  fld : ∀ q ∈ fldL, fldKB K q = true
  pls : plsKB K plsL = true
theorem SL.of (c : He.SaysD faL fnL K) (e : exL K = true) : SL K := by
  simp only [exL, Bool.and_eq_true, List.all_eq_true] at e
  exact ⟨c, e.1.1.1.1, e.1.1.1.2, e.1.1.2, e.1.2, e.2⟩
theorem cA_of {c : Str} (h : c ∈ clsL) : (GL K).cA c = some (He.ga (GL K).K c) := if_pos h
theorem cls_glo (X : K.In h) (Gn : h.Ns mainGlobals mg) (c : SL K) {x : Str} (hx : x ∈ clsL) : mg x = some (.ref (He.ga K x)) := by
  have hm : He.Fa.glo x ∈ faL := by
    simp only [clsL, List.mem_cons, List.not_mem_nil, or_false] at hx
    rcases hx with rfl <;> simp [faL]
  exact He.glo_ok X Gn (c.d.facts hm)
theorem con_at (X : K.In h) (Gn : h.Ns mainGlobals mg) (c : SL K) {q : Str × W} (hq : q ∈ conL) : ConAt (GL K) mg q := by
  refine conAt_of X Gn (fun x e => cA_of ?_) (c.con q hq)
  simp only [conL, List.mem_cons, List.not_mem_nil, or_false] at hq
  rcases hq with rfl | rfl | rfl | rfl | rfl <;> first | (cases e; simp [clsL]; done) | cases e
theorem pls_at (X : K.In h) (Gn : h.Ns mainGlobals mg) (c : SL K) (l : List Str) (hl : l = [] ∨ l = plsL) (hp : ∀ x ∈ l, x ∈ clsL) : PlsAt (GL K) mg l := by
  refine ⟨fun x hx => ⟨cA_of (hp x hx), cls_glo X Gn c (hp x hx)⟩, ?_⟩
  rcases hl with rfl | rfl
  · rfl
  · exact c.pls
theorem at_law_draw (X : K.In h) (Gn : h.Ns mainGlobals mg) (c : SL K) (base : Heap) : FnAt (GL K) P w mg base 4 ("_law_draw", F_law_draw) := by
  have T : Tops (GL K) Y_law_draw P w mg base 0 := by
    refine tops_mk (d := G_law_draw) ?_ ?_ ?_ ?_ ?_ (pls_at X Gn c _ (.inl rfl) (by simp [G_law_draw, clsL]))
    · intro q hq
      simp [G_law_draw] at hq
    · intro q hq
      simp [G_law_draw] at hq
    · intro q hq
      simp [G_law_draw] at hq
    · intro q hq
      simp [G_law_draw] at hq
    · intro q hq
      simp [G_law_draw] at hq
  exact at_ok (D := D_law_draw) (kws := []) (c.d.def_ 0 (d := dOf PySem.Challenge.pw_mergereach_k23_whole_double_picks "_law_draw" 27) rfl) (He.glo_ok X Gn (c.d.fact 0 (f := .glo "_law_draw") rfl)) T (freeL X Gn c.d) chk_law_draw
theorem at_law_word (X : K.In h) (Gn : h.Ns mainGlobals mg) (c : SL K) (base : Heap) : FnAt (GL K) P w mg base 8 ("_law_word", F_law_word) := by
  have T : Tops (GL K) Y_law_word P w mg base 4 := by
    refine tops_mk (d := G_law_word) ?_ ?_ ?_ ?_ ?_ (pls_at X Gn c _ (.inl rfl) (by simp [G_law_word, clsL]))
    · intro q hq
      simp only [G_law_word, List.mem_cons, List.not_mem_nil, or_false] at hq
      rcases hq with rfl
      · exact (at_law_draw X Gn c base).mono (by decide)
    · intro q hq
      simp [G_law_word] at hq
    · intro q hq
      simp [G_law_word] at hq
    · intro q hq
      simp [G_law_word] at hq
    · intro q hq
      simp [G_law_word] at hq
  exact at_ok (D := D_law_word) (kws := []) (c.d.def_ 1 (d := dOf PySem.Challenge.pw_mergereach_k23_whole_double_picks "_law_word" 29) rfl) (He.glo_ok X Gn (c.d.fact 1 (f := .glo "_law_word") rfl)) T (freeL X Gn c.d) chk_law_word
theorem at_law_words (X : K.In h) (Gn : h.Ns mainGlobals mg) (c : SL K) (base : Heap) : FnAt (GL K) P w mg base 12 ("_law_words", F_law_words) := by
  have T : Tops (GL K) Y_law_words P w mg base 8 := by
    refine tops_mk (d := G_law_words) ?_ ?_ ?_ ?_ ?_ (pls_at X Gn c _ (.inl rfl) (by simp [G_law_words, clsL]))
    · intro q hq
      simp only [G_law_words, List.mem_cons, List.not_mem_nil, or_false] at hq
      rcases hq with rfl
      · exact (at_law_word X Gn c base).mono (by decide)
    · intro q hq
      simp [G_law_words] at hq
    · intro q hq
      simp [G_law_words] at hq
    · intro q hq
      simp [G_law_words] at hq
    · intro q hq
      simp [G_law_words] at hq
  exact at_ok (D := D_law_words) (kws := []) (c.d.def_ 2 (d := dOf PySem.Challenge.pw_mergereach_k23_whole_double_picks "_law_words" 30) rfl) (He.glo_ok X Gn (c.d.fact 2 (f := .glo "_law_words") rfl)) T (freeL X Gn c.d) chk_law_words
theorem at_law_mixed (X : K.In h) (Gn : h.Ns mainGlobals mg) (c : SL K) (base : Heap) : FnAt (GL K) P w mg base 8 ("_law_mixed", F_law_mixed) := by
  have T : Tops (GL K) Y_law_mixed P w mg base 4 := by
    refine tops_mk (d := G_law_mixed) ?_ ?_ ?_ ?_ ?_ (pls_at X Gn c _ (.inl rfl) (by simp [G_law_mixed, clsL]))
    · intro q hq
      simp only [G_law_mixed, List.mem_cons, List.not_mem_nil, or_false] at hq
      rcases hq with rfl
      · exact (at_law_draw X Gn c base).mono (by decide)
    · intro q hq
      simp [G_law_mixed] at hq
    · intro q hq
      simp [G_law_mixed] at hq
    · intro q hq
      simp [G_law_mixed] at hq
    · intro q hq
      simp [G_law_mixed] at hq
  exact at_ok (D := D_law_mixed) (kws := []) (c.d.def_ 3 (d := dOf PySem.Challenge.pw_mergereach_k23_whole_double_picks "_law_mixed" 28) rfl) (He.glo_ok X Gn (c.d.fact 3 (f := .glo "_law_mixed") rfl)) T (freeL X Gn c.d) chk_law_mixed
theorem at_law_fields (X : K.In h) (Gn : h.Ns mainGlobals mg) (c : SL K) (base : Heap) : FnAt (GL K) P w mg base 16 ("_law_fields", F_law_fields) := by
  have T : Tops (GL K) Y_law_fields P w mg base 12 := by
    refine tops_mk (d := G_law_fields) ?_ ?_ ?_ ?_ ?_ (pls_at X Gn c _ (.inl rfl) (by simp [G_law_fields, clsL]))
    · intro q hq
      simp only [G_law_fields, List.mem_cons, List.not_mem_nil, or_false] at hq
      rcases hq with rfl | rfl | rfl
      · exact (at_law_draw X Gn c base).mono (by decide)
      · exact (at_law_words X Gn c base).mono (by decide)
      · exact (at_law_mixed X Gn c base).mono (by decide)
    · intro q hq
      simp [G_law_fields] at hq
    · intro q hq
      simp [G_law_fields] at hq
    · intro q hq
      simp [G_law_fields] at hq
    · intro q hq
      simp [G_law_fields] at hq
  exact at_ok (D := D_law_fields) (kws := []) (c.d.def_ 4 (d := dOf PySem.Challenge.pw_mergereach_k23_whole_double_picks "_law_fields" 31) rfl) (He.glo_ok X Gn (c.d.fact 4 (f := .glo "_law_fields") rfl)) T (freeL X Gn c.d) chk_law_fields
theorem at_law_shape (X : K.In h) (Gn : h.Ns mainGlobals mg) (c : SL K) (base : Heap) : FnAt (GL K) P w mg base 20 ("_law_shape", F_law_shape) := by
  have T : Tops (GL K) Y_law_shape P w mg base 16 := by
    refine tops_mk (d := G_law_shape) ?_ ?_ ?_ ?_ ?_ (pls_at X Gn c _ (.inl rfl) (by simp [G_law_shape, clsL]))
    · intro q hq
      simp only [G_law_shape, List.mem_cons, List.not_mem_nil, or_false] at hq
      rcases hq with rfl | rfl
      · exact (at_law_draw X Gn c base).mono (by decide)
      · exact (at_law_fields X Gn c base).mono (by decide)
    · intro q hq
      simp [G_law_shape] at hq
    · intro q hq
      simp [G_law_shape] at hq
    · intro q hq
      simp [G_law_shape] at hq
    · intro q hq
      simp [G_law_shape] at hq
  exact at_ok (D := D_law_shape) (kws := []) (c.d.def_ 5 (d := dOf PySem.Challenge.pw_mergereach_k23_whole_double_picks "_law_shape" 37) rfl) (He.glo_ok X Gn (c.d.fact 5 (f := .glo "_law_shape") rfl)) T (freeL X Gn c.d) chk_law_shape
theorem at_law_step (X : K.In h) (Gn : h.Ns mainGlobals mg) (c : SL K) (base : Heap) : FnAt (GL K) P w mg base 8 ("_law_step", F_law_step) := by
  have T : Tops (GL K) Y_law_step P w mg base 4 := by
    refine tops_mk (d := G_law_step) ?_ ?_ ?_ ?_ ?_ (pls_at X Gn c _ (.inl rfl) (by simp [G_law_step, clsL]))
    · intro q hq
      simp only [G_law_step, List.mem_cons, List.not_mem_nil, or_false] at hq
      rcases hq with rfl
      · exact (at_law_draw X Gn c base).mono (by decide)
    · intro q hq
      simp [G_law_step] at hq
    · intro q hq
      simp [G_law_step] at hq
    · intro q hq
      simp [G_law_step] at hq
    · intro q hq
      simp [G_law_step] at hq
  exact at_ok (D := D_law_step) (kws := []) (c.d.def_ 6 (d := dOf PySem.Challenge.pw_mergereach_k23_whole_double_picks "_law_step" 32) rfl) (He.glo_ok X Gn (c.d.fact 6 (f := .glo "_law_step") rfl)) T (freeL X Gn c.d) chk_law_step
theorem at_law_plan (X : K.In h) (Gn : h.Ns mainGlobals mg) (c : SL K) (base : Heap) : FnAt (GL K) P w mg base 16 ("_law_plan", F_law_plan) := by
  have T : Tops (GL K) Y_law_plan P w mg base 12 := by
    refine tops_mk (d := G_law_plan) ?_ ?_ ?_ ?_ ?_ (pls_at X Gn c _ (.inl rfl) (by simp [G_law_plan, clsL]))
    · intro q hq
      simp only [G_law_plan, List.mem_cons, List.not_mem_nil, or_false] at hq
      rcases hq with rfl | rfl | rfl
      · exact (at_law_draw X Gn c base).mono (by decide)
      · exact (at_law_step X Gn c base).mono (by decide)
      · exact (at_law_words X Gn c base).mono (by decide)
    · intro q hq
      simp [G_law_plan] at hq
    · intro q hq
      simp [G_law_plan] at hq
    · intro q hq
      simp [G_law_plan] at hq
    · intro q hq
      simp [G_law_plan] at hq
  exact at_ok (D := D_law_plan) (kws := []) (c.d.def_ 7 (d := dOf PySem.Challenge.pw_mergereach_k23_whole_double_picks "_law_plan" 33) rfl) (He.glo_ok X Gn (c.d.fact 7 (f := .glo "_law_plan") rfl)) T (freeL X Gn c.d) chk_law_plan
theorem at_law_row (X : K.In h) (Gn : h.Ns mainGlobals mg) (c : SL K) (base : Heap) : FnAt (GL K) P w mg base 8 ("_law_row", F_law_row) := by
  have T : Tops (GL K) Y_law_row P w mg base 4 := by
    refine tops_mk (d := G_law_row) ?_ ?_ ?_ ?_ ?_ (pls_at X Gn c _ (.inl rfl) (by simp [G_law_row, clsL]))
    · intro q hq
      simp only [G_law_row, List.mem_cons, List.not_mem_nil, or_false] at hq
      rcases hq with rfl
      · exact (at_law_draw X Gn c base).mono (by decide)
    · intro q hq
      simp [G_law_row] at hq
    · intro q hq
      simp [G_law_row] at hq
    · intro q hq
      simp [G_law_row] at hq
    · intro q hq
      simp [G_law_row] at hq
  exact at_ok (D := D_law_row) (kws := []) (c.d.def_ 8 (d := dOf PySem.Challenge.pw_mergereach_k23_whole_double_picks "_law_row" 34) rfl) (He.glo_ok X Gn (c.d.fact 8 (f := .glo "_law_row") rfl)) T (freeL X Gn c.d) chk_law_row
theorem at_law_rows (X : K.In h) (Gn : h.Ns mainGlobals mg) (c : SL K) (base : Heap) : FnAt (GL K) P w mg base 20 ("_law_rows", F_law_rows) := by
  have T : Tops (GL K) Y_law_rows P w mg base 16 := by
    refine tops_mk (d := G_law_rows) ?_ ?_ ?_ ?_ ?_ (pls_at X Gn c _ (.inl rfl) (by simp [G_law_rows, clsL]))
    · intro q hq
      simp only [G_law_rows, List.mem_cons, List.not_mem_nil, or_false] at hq
      rcases hq with rfl | rfl | rfl
      · exact (at_law_plan X Gn c base).mono (by decide)
      · exact (at_law_draw X Gn c base).mono (by decide)
      · exact (at_law_row X Gn c base).mono (by decide)
    · intro q hq
      simp [G_law_rows] at hq
    · intro q hq
      simp [G_law_rows] at hq
    · intro q hq
      simp [G_law_rows] at hq
    · intro q hq
      simp [G_law_rows] at hq
  exact at_ok (D := D_law_rows) (kws := []) (c.d.def_ 9 (d := dOf PySem.Challenge.pw_mergereach_k23_whole_double_picks "_law_rows" 35) rfl) (He.glo_ok X Gn (c.d.fact 9 (f := .glo "_law_rows") rfl)) T (freeL X Gn c.d) chk_law_rows
theorem at_law_case (X : K.In h) (Gn : h.Ns mainGlobals mg) (c : SL K) (base : Heap) : FnAt (GL K) P w mg base 24 ("_law_case", F_law_case) := by
  have T : Tops (GL K) Y_law_case P w mg base 20 := by
    refine tops_mk (d := G_law_case) ?_ ?_ ?_ ?_ ?_ (pls_at X Gn c _ (.inl rfl) (by simp [G_law_case, clsL]))
    · intro q hq
      simp only [G_law_case, List.mem_cons, List.not_mem_nil, or_false] at hq
      rcases hq with rfl | rfl | rfl
      · exact (at_law_shape X Gn c base).mono (by decide)
      · exact (at_law_rows X Gn c base).mono (by decide)
      · exact (at_law_draw X Gn c base).mono (by decide)
    · intro q hq
      simp [G_law_case] at hq
    · intro q hq
      simp [G_law_case] at hq
    · intro q hq
      simp [G_law_case] at hq
    · intro q hq
      simp [G_law_case] at hq
  exact at_ok (D := D_law_case) (kws := []) (c.d.def_ 10 (d := dOf PySem.Challenge.pw_mergereach_k23_whole_double_picks "_law_case" 38) rfl) (He.glo_ok X Gn (c.d.fact 10 (f := .glo "_law_case") rfl)) T (freeL X Gn c.d) chk_law_case
theorem at_law_among (X : K.In h) (Gn : h.Ns mainGlobals mg) (c : SL K) (base : Heap) : FnAt (GL K) P w mg base 8 ("_law_among", F_law_among) := by
  have T : Tops (GL K) Y_law_among P w mg base 4 := by
    refine tops_mk (d := G_law_among) ?_ ?_ ?_ ?_ ?_ (pls_at X Gn c _ (.inl rfl) (by simp [G_law_among, clsL]))
    · intro q hq
      simp only [G_law_among, List.mem_cons, List.not_mem_nil, or_false] at hq
      rcases hq with rfl
      · exact (at_law_draw X Gn c base).mono (by decide)
    · intro q hq
      simp [G_law_among] at hq
    · intro q hq
      simp [G_law_among] at hq
    · intro q hq
      simp [G_law_among] at hq
    · intro q hq
      simp [G_law_among] at hq
  exact at_ok (D := D_law_among) (kws := []) (c.d.def_ 11 (d := dOf PySem.Challenge.pw_mergereach_k23_whole_double_picks "_law_among" 39) rfl) (He.glo_ok X Gn (c.d.fact 11 (f := .glo "_law_among") rfl)) T (freeL X Gn c.d) chk_law_among
theorem at_law_pick (X : K.In h) (Gn : h.Ns mainGlobals mg) (c : SL K) (base : Heap) : FnAt (GL K) P w mg base 4 ("_law_pick", F_law_pick) := by
  have T : Tops (GL K) Y_law_pick P w mg base 0 := by
    refine tops_mk (d := G_law_pick) ?_ ?_ ?_ ?_ ?_ (pls_at X Gn c _ (.inl rfl) (by simp [G_law_pick, clsL]))
    · intro q hq
      simp [G_law_pick] at hq
    · intro q hq
      simp [G_law_pick] at hq
    · intro q hq
      simp [G_law_pick] at hq
    · intro q hq
      simp [G_law_pick] at hq
    · intro q hq
      simp [G_law_pick] at hq
  exact at_ok (D := D_law_pick) (kws := []) (c.d.def_ 12 (d := dOf PySem.Challenge.pw_mergereach_k23_whole_double_picks "_law_pick" 36) rfl) (He.glo_ok X Gn (c.d.fact 12 (f := .glo "_law_pick") rfl)) T (freeL X Gn c.d) chk_law_pick
theorem at_is_integer (X : K.In h) (Gn : h.Ns mainGlobals mg) (c : SL K) (base : Heap) : FnAt (GL K) P w mg base 4 ("is_integer", F_is_integer) := by
  have T : Tops (GL K) Y_is_integer P w mg base 0 := by
    refine tops_mk (d := G_is_integer) ?_ ?_ ?_ ?_ ?_ (pls_at X Gn c _ (.inl rfl) (by simp [G_is_integer, clsL]))
    · intro q hq
      simp [G_is_integer] at hq
    · intro q hq
      simp [G_is_integer] at hq
    · intro q hq
      simp [G_is_integer] at hq
    · intro q hq
      simp [G_is_integer] at hq
    · intro q hq
      simp [G_is_integer] at hq
  exact at_ok (D := D_is_integer) (kws := []) (c.d.def_ 13 (d := dOf PySem.Challenge.pw_mergereach_k23_whole_double_picks "is_integer" 13) rfl) (He.glo_ok X Gn (c.d.fact 13 (f := .glo "is_integer") rfl)) T (freeL X Gn c.d) chk_is_integer
theorem at_is_name (X : K.In h) (Gn : h.Ns mainGlobals mg) (c : SL K) (base : Heap) : FnAt (GL K) P w mg base 4 ("is_name", F_is_name) := by
  have T : Tops (GL K) Y_is_name P w mg base 0 := by
    refine tops_mk (d := G_is_name) ?_ ?_ ?_ ?_ ?_ (pls_at X Gn c _ (.inl rfl) (by simp [G_is_name, clsL]))
    · intro q hq
      simp [G_is_name] at hq
    · intro q hq
      simp only [G_is_name, List.mem_cons, List.not_mem_nil, or_false] at hq
      rcases hq with rfl | rfl
      · exact con_at X Gn c (by simp [conL])
      · exact con_at X Gn c (by simp [conL])
    · intro q hq
      simp [G_is_name] at hq
    · intro q hq
      simp [G_is_name] at hq
    · intro q hq
      simp [G_is_name] at hq
  exact at_ok (D := D_is_name) (kws := []) (c.d.def_ 14 (d := dOf PySem.Challenge.pw_mergereach_k23_whole_double_picks "is_name" 14) rfl) (He.glo_ok X Gn (c.d.fact 14 (f := .glo "is_name") rfl)) T (freeL X Gn c.d) chk_is_name
theorem at_is_value (X : K.In h) (Gn : h.Ns mainGlobals mg) (c : SL K) (base : Heap) : FnAt (GL K) P w mg base 8 ("is_value", F_is_value) := by
  have T : Tops (GL K) Y_is_value P w mg base 4 := by
    refine tops_mk (d := G_is_value) ?_ ?_ ?_ ?_ ?_ (pls_at X Gn c _ (.inl rfl) (by simp [G_is_value, clsL]))
    · intro q hq
      simp only [G_is_value, List.mem_cons, List.not_mem_nil, or_false] at hq
      rcases hq with rfl | rfl
      · exact (at_is_integer X Gn c base).mono (by decide)
      · exact (at_is_name X Gn c base).mono (by decide)
    · intro q hq
      simp only [G_is_value, List.mem_cons, List.not_mem_nil, or_false] at hq
      rcases hq with rfl
      · exact con_at X Gn c (by simp [conL])
    · intro q hq
      simp [G_is_value] at hq
    · intro q hq
      simp [G_is_value] at hq
    · intro q hq
      simp [G_is_value] at hq
  exact at_ok (D := D_is_value) (kws := []) (c.d.def_ 15 (d := dOf PySem.Challenge.pw_mergereach_k23_whole_double_picks "is_value" 18) rfl) (He.glo_ok X Gn (c.d.fact 15 (f := .glo "is_value") rfl)) T (freeL X Gn c.d) chk_is_value
theorem at_Schema___len (X : K.In h) (Gn : h.Ns mainGlobals mg) (c : SL K) (base : Heap) : MetAt (GL K) P w mg base 4 (("Schema", "__len__"), F_Schema___len) := by
  have T : Tops (GL K) Y_Schema___len P w mg base 0 := by
    refine tops_mk (d := G_Schema___len) ?_ ?_ ?_ ?_ ?_ (pls_at X Gn c _ (.inl rfl) (by simp [G_Schema___len, clsL]))
    · intro q hq
      simp [G_Schema___len] at hq
    · intro q hq
      simp [G_Schema___len] at hq
    · intro q hq
      simp [G_Schema___len] at hq
    · intro q hq
      simp [G_Schema___len] at hq
    · intro q hq
      simp only [G_Schema___len, List.mem_cons, List.not_mem_nil, or_false] at hq
      rcases hq with rfl
      · exact ⟨cA_of (by simp [clsL]), c.fld _ (by simp [fldL])⟩
  exact met_ok (D := D_Schema___len) (kws := []) (c.d.def_ 16 (d := dOfM PySem.Challenge.pw_mergereach_k23_whole_double_picks "Schema" "__len__" 17 15) rfl) (cA_of (by simp [clsL])) (c.met _ (by simp [metL])) (cls_glo X Gn c (by simp [clsL])) T (freeL X Gn c.d) chk_Schema___len
theorem at_is_version (X : K.In h) (Gn : h.Ns mainGlobals mg) (c : SL K) (base : Heap) : FnAt (GL K) P w mg base 12 ("is_version", F_is_version) := by
  have T : Tops (GL K) Y_is_version P w mg base 8 := by
    refine tops_mk (d := G_is_version) ?_ ?_ ?_ ?_ ?_ (pls_at X Gn c _ (.inl rfl) (by simp [G_is_version, clsL]))
    · intro q hq
      simp only [G_is_version, List.mem_cons, List.not_mem_nil, or_false] at hq
      rcases hq with rfl
      · exact (at_is_value X Gn c base).mono (by decide)
    · intro q hq
      simp [G_is_version] at hq
    · intro q hq
      simp only [G_is_version, List.mem_cons, List.not_mem_nil, or_false] at hq
      rcases hq with rfl
      · exact (at_Schema___len X Gn c base).mono (by decide)
    · intro q hq
      simp [G_is_version] at hq
    · intro q hq
      simp only [G_is_version, List.mem_cons, List.not_mem_nil, or_false] at hq
      rcases hq with rfl
      · exact ⟨cA_of (by simp [clsL]), c.fld _ (by simp [fldL])⟩
  exact at_ok (D := D_is_version) (kws := []) (c.d.def_ 17 (d := dOf PySem.Challenge.pw_mergereach_k23_whole_double_picks "is_version" 19) rfl) (He.glo_ok X Gn (c.d.fact 16 (f := .glo "is_version") rfl)) T (freeL X Gn c.d) chk_is_version
theorem at_check_versions (X : K.In h) (Gn : h.Ns mainGlobals mg) (c : SL K) (base : Heap) : FnAt (GL K) P w mg base 16 ("check_versions", F_check_versions) := by
  have T : Tops (GL K) Y_check_versions P w mg base 12 := by
    refine tops_mk (d := G_check_versions) ?_ ?_ ?_ ?_ ?_ (pls_at X Gn c _ (.inl rfl) (by simp [G_check_versions, clsL]))
    · intro q hq
      simp only [G_check_versions, List.mem_cons, List.not_mem_nil, or_false] at hq
      rcases hq with rfl
      · exact (at_is_version X Gn c base).mono (by decide)
    · intro q hq
      simp [G_check_versions] at hq
    · intro q hq
      simp [G_check_versions] at hq
    · intro q hq
      simp [G_check_versions] at hq
    · intro q hq
      simp [G_check_versions] at hq
  exact at_ok (D := D_check_versions) (kws := []) (c.d.def_ 18 (d := dOf PySem.Challenge.pw_mergereach_k23_whole_double_picks "check_versions" 21) rfl) (He.glo_ok X Gn (c.d.fact 17 (f := .glo "check_versions") rfl)) T (freeL X Gn c.d) chk_check_versions
theorem at_picked_value (X : K.In h) (Gn : h.Ns mainGlobals mg) (c : SL K) (base : Heap) : FnAt (GL K) P w mg base 4 ("picked_value", F_picked_value) := by
  have T : Tops (GL K) Y_picked_value P w mg base 0 := by
    refine tops_mk (d := G_picked_value) ?_ ?_ ?_ ?_ ?_ (pls_at X Gn c _ (.inl rfl) (by simp [G_picked_value, clsL]))
    · intro q hq
      simp [G_picked_value] at hq
    · intro q hq
      simp [G_picked_value] at hq
    · intro q hq
      simp [G_picked_value] at hq
    · intro q hq
      simp [G_picked_value] at hq
    · intro q hq
      simp [G_picked_value] at hq
  exact at_ok (D := D_picked_value) (kws := []) (c.d.def_ 19 (d := dOf PySem.Challenge.pw_mergereach_k23_whole_double_picks "picked_value" 22) rfl) (He.glo_ok X Gn (c.d.fact 18 (f := .glo "picked_value") rfl)) T (freeL X Gn c.d) chk_picked_value
theorem at_Schema_fields (X : K.In h) (Gn : h.Ns mainGlobals mg) (c : SL K) (base : Heap) : MetAt (GL K) P w mg base 4 (("Schema", "fields"), F_Schema_fields) := by
  have T : Tops (GL K) Y_Schema_fields P w mg base 0 := by
    refine tops_mk (d := G_Schema_fields) ?_ ?_ ?_ ?_ ?_ (pls_at X Gn c _ (.inl rfl) (by simp [G_Schema_fields, clsL]))
    · intro q hq
      simp [G_Schema_fields] at hq
    · intro q hq
      simp [G_Schema_fields] at hq
    · intro q hq
      simp [G_Schema_fields] at hq
    · intro q hq
      simp [G_Schema_fields] at hq
    · intro q hq
      simp only [G_Schema_fields, List.mem_cons, List.not_mem_nil, or_false] at hq
      rcases hq with rfl
      · exact ⟨cA_of (by simp [clsL]), c.fld _ (by simp [fldL])⟩
  exact met_ok (D := D_Schema_fields) (kws := []) (c.d.def_ 20 (d := dOfM PySem.Challenge.pw_mergereach_k23_whole_double_picks "Schema" "fields" 17 5) rfl) (cA_of (by simp [clsL])) (c.met _ (by simp [metL])) (cls_glo X Gn c (by simp [clsL])) T (freeL X Gn c.d) chk_Schema_fields
theorem at_pick (X : K.In h) (Gn : h.Ns mainGlobals mg) (c : SL K) (base : Heap) : FnAt (GL K) P w mg base 20 ("pick", F_pick) := by
  have T : Tops (GL K) Y_pick P w mg base 16 := by
    refine tops_mk (d := G_pick) ?_ ?_ ?_ ?_ ?_ (pls_at X Gn c _ (.inl rfl) (by simp [G_pick, clsL]))
    · intro q hq
      simp only [G_pick, List.mem_cons, List.not_mem_nil, or_false] at hq
      rcases hq with rfl | rfl
      · exact (at_check_versions X Gn c base).mono (by decide)
      · exact (at_picked_value X Gn c base).mono (by decide)
    · intro q hq
      simp [G_pick] at hq
    · intro q hq
      simp only [G_pick, List.mem_cons, List.not_mem_nil, or_false] at hq
      rcases hq with rfl
      · exact (at_Schema_fields X Gn c base).mono (by decide)
    · intro q hq
      simp [G_pick] at hq
    · intro q hq
      simp [G_pick] at hq
  exact at_ok (D := D_pick) (kws := []) (c.d.def_ 21 (d := dOf PySem.Challenge.pw_mergereach_k23_whole_double_picks "pick" 23) rfl) (He.glo_ok X Gn (c.d.fact 19 (f := .glo "pick") rfl)) T (freeL X Gn c.d) chk_pick
theorem at_double_pick (X : K.In h) (Gn : h.Ns mainGlobals mg) (c : SL K) (base : Heap) : FnAt (GL K) P w mg base 24 ("double_pick", F_double_pick) := by
  have T : Tops (GL K) Y_double_pick P w mg base 20 := by
    refine tops_mk (d := G_double_pick) ?_ ?_ ?_ ?_ ?_ (pls_at X Gn c _ (.inl rfl) (by simp [G_double_pick, clsL]))
    · intro q hq
      simp only [G_double_pick, List.mem_cons, List.not_mem_nil, or_false] at hq
      rcases hq with rfl
      · exact (at_pick X Gn c base).mono (by decide)
    · intro q hq
      simp [G_double_pick] at hq
    · intro q hq
      simp [G_double_pick] at hq
    · intro q hq
      simp [G_double_pick] at hq
    · intro q hq
      simp [G_double_pick] at hq
  exact at_ok (D := D_double_pick) (kws := []) (c.d.def_ 22 (d := dOf PySem.Challenge.pw_mergereach_k23_whole_double_picks "double_pick" 24) rfl) (He.glo_ok X Gn (c.d.fact 20 (f := .glo "double_pick") rfl)) T (freeL X Gn c.d) chk_double_pick
theorem at_law_majority (X : K.In h) (Gn : h.Ns mainGlobals mg) (c : SL K) (base : Heap) : FnAt (GL K) P w mg base 4 ("_law_majority", F_law_majority) := by
  have T : Tops (GL K) Y_law_majority P w mg base 0 := by
    refine tops_mk (d := G_law_majority) ?_ ?_ ?_ ?_ ?_ (pls_at X Gn c _ (.inl rfl) (by simp [G_law_majority, clsL]))
    · intro q hq
      simp [G_law_majority] at hq
    · intro q hq
      simp [G_law_majority] at hq
    · intro q hq
      simp [G_law_majority] at hq
    · intro q hq
      simp [G_law_majority] at hq
    · intro q hq
      simp [G_law_majority] at hq
  exact at_ok (D := D_law_majority) (kws := []) (c.d.def_ 23 (d := dOf PySem.Challenge.pw_mergereach_k23_whole_double_picks "_law_majority" 40) rfl) (He.glo_ok X Gn (c.d.fact 21 (f := .glo "_law_majority") rfl)) T (freeL X Gn c.d) chk_law_majority
theorem at_law_double_right (X : K.In h) (Gn : h.Ns mainGlobals mg) (c : SL K) (base : Heap) : FnAt (GL K) P w mg base 28 ("_law_double_right", F_law_double_right) := by
  have T : Tops (GL K) Y_law_double_right P w mg base 24 := by
    refine tops_mk (d := G_law_double_right) ?_ ?_ ?_ ?_ ?_ (pls_at X Gn c _ (.inl rfl) (by simp [G_law_double_right, clsL]))
    · intro q hq
      simp only [G_law_double_right, List.mem_cons, List.not_mem_nil, or_false] at hq
      rcases hq with rfl | rfl | rfl | rfl
      · exact (at_law_pick X Gn c base).mono (by decide)
      · exact (at_double_pick X Gn c base).mono (by decide)
      · exact (at_pick X Gn c base).mono (by decide)
      · exact (at_law_majority X Gn c base).mono (by decide)
    · intro q hq
      simp [G_law_double_right] at hq
    · intro q hq
      simp [G_law_double_right] at hq
    · intro q hq
      simp [G_law_double_right] at hq
    · intro q hq
      simp [G_law_double_right] at hq
  exact at_ok (D := D_law_double_right) (kws := []) (c.d.def_ 24 (d := dOf PySem.Challenge.pw_mergereach_k23_whole_double_picks "_law_double_right" 41) rfl) (He.glo_ok X Gn (c.d.fact 22 (f := .glo "_law_double_right") rfl)) T (freeL X Gn c.d) chk_law_double_right
theorem at_is_field (X : K.In h) (Gn : h.Ns mainGlobals mg) (c : SL K) (base : Heap) : FnAt (GL K) P w mg base 8 ("is_field", F_is_field) := by
  have T : Tops (GL K) Y_is_field P w mg base 4 := by
    refine tops_mk (d := G_is_field) ?_ ?_ ?_ ?_ ?_ (pls_at X Gn c _ (.inl rfl) (by simp [G_is_field, clsL]))
    · intro q hq
      simp only [G_is_field, List.mem_cons, List.not_mem_nil, or_false] at hq
      rcases hq with rfl
      · exact (at_is_name X Gn c base).mono (by decide)
    · intro q hq
      simp only [G_is_field, List.mem_cons, List.not_mem_nil, or_false] at hq
      rcases hq with rfl | rfl
      · exact con_at X Gn c (by simp [conL])
      · exact con_at X Gn c (by simp [conL])
    · intro q hq
      simp [G_is_field] at hq
    · intro q hq
      simp [G_is_field] at hq
    · intro q hq
      simp [G_is_field] at hq
  exact at_ok (D := D_is_field) (kws := []) (c.d.def_ 25 (d := dOf PySem.Challenge.pw_mergereach_k23_whole_double_picks "is_field" 15) rfl) (He.glo_ok X Gn (c.d.fact 23 (f := .glo "is_field") rfl)) T (freeL X Gn c.d) chk_is_field
theorem at_check_fields (X : K.In h) (Gn : h.Ns mainGlobals mg) (c : SL K) (base : Heap) : FnAt (GL K) P w mg base 12 ("check_fields", F_check_fields) := by
  have T : Tops (GL K) Y_check_fields P w mg base 8 := by
    refine tops_mk (d := G_check_fields) ?_ ?_ ?_ ?_ ?_ (pls_at X Gn c _ (.inl rfl) (by simp [G_check_fields, clsL]))
    · intro q hq
      simp only [G_check_fields, List.mem_cons, List.not_mem_nil, or_false] at hq
      rcases hq with rfl
      · exact (at_is_field X Gn c base).mono (by decide)
    · intro q hq
      simp only [G_check_fields, List.mem_cons, List.not_mem_nil, or_false] at hq
      rcases hq with rfl | rfl
      · exact con_at X Gn c (by simp [conL])
      · exact con_at X Gn c (by simp [conL])
    · intro q hq
      simp [G_check_fields] at hq
    · intro q hq
      simp only [G_check_fields, List.mem_cons, List.not_mem_nil, or_false] at hq
      rcases hq with rfl | rfl
      · exact ⟨cA_of (by simp [clsL]), c.att _ (by simp [attL])⟩
      · exact ⟨cA_of (by simp [clsL]), c.att _ (by simp [attL])⟩
    · intro q hq
      simp [G_check_fields] at hq
  exact at_ok (D := D_check_fields) (kws := []) (c.d.def_ 26 (d := dOf PySem.Challenge.pw_mergereach_k23_whole_double_picks "check_fields" 16) rfl) (He.glo_ok X Gn (c.d.fact 24 (f := .glo "check_fields") rfl)) T (freeL X Gn c.d) chk_check_fields
theorem at_Schema___init (X : K.In h) (Gn : h.Ns mainGlobals mg) (c : SL K) (base : Heap) : MetAt (GL K) P w mg base 16 (("Schema", "__init__"), F_Schema___init) := by
  have T : Tops (GL K) Y_Schema___init P w mg base 12 := by
    refine tops_mk (d := G_Schema___init) ?_ ?_ ?_ ?_ ?_ (pls_at X Gn c _ (.inl rfl) (by simp [G_Schema___init, clsL]))
    · intro q hq
      simp only [G_Schema___init, List.mem_cons, List.not_mem_nil, or_false] at hq
      rcases hq with rfl
      · exact (at_check_fields X Gn c base).mono (by decide)
    · intro q hq
      simp [G_Schema___init] at hq
    · intro q hq
      simp [G_Schema___init] at hq
    · intro q hq
      simp [G_Schema___init] at hq
    · intro q hq
      simp only [G_Schema___init, List.mem_cons, List.not_mem_nil, or_false] at hq
      rcases hq with rfl | rfl
      · exact ⟨cA_of (by simp [clsL]), c.fld _ (by simp [fldL])⟩
      · exact ⟨cA_of (by simp [clsL]), c.fld _ (by simp [fldL])⟩
  exact met_ok (D := D_Schema___init) (kws := []) (c.d.def_ 27 (d := dOfM PySem.Challenge.pw_mergereach_k23_whole_double_picks "Schema" "__init__" 17 2) rfl) (cA_of (by simp [clsL])) (c.met _ (by simp [metL])) (cls_glo X Gn c (by simp [clsL])) T (freeL X Gn c.d) chk_Schema___init
theorem at_law_right (X : K.In h) (Gn : h.Ns mainGlobals mg) (c : SL K) (base : Heap) : FnAt (GL K) P w mg base 32 ("_law_right", F_law_right) := by
  have T : Tops (GL K) Y_law_right P w mg base 28 := by
    refine tops_mk (d := G_law_right) ?_ ?_ ?_ ?_ ?_ (pls_at X Gn c _ (.inl rfl) (by simp [G_law_right, clsL]))
    · intro q hq
      simp only [G_law_right, List.mem_cons, List.not_mem_nil, or_false] at hq
      rcases hq with rfl | rfl | rfl | rfl | rfl
      · exact (at_law_draw X Gn c base).mono (by decide)
      · exact (at_law_case X Gn c base).mono (by decide)
      · exact (at_law_among X Gn c base).mono (by decide)
      · exact (at_law_double_right X Gn c base).mono (by decide)
      · exact (at_law_pick X Gn c base).mono (by decide)
    · intro q hq
      simp [G_law_right] at hq
    · intro q hq
      simp only [G_law_right, List.mem_cons, List.not_mem_nil, or_false] at hq
      rcases hq with rfl
      · exact (at_Schema___init X Gn c base).mono (by decide)
    · intro q hq
      simp [G_law_right] at hq
    · intro q hq
      simp [G_law_right] at hq
  exact at_ok (D := D_law_right) (kws := []) (c.d.def_ 28 (d := dOf PySem.Challenge.pw_mergereach_k23_whole_double_picks "_law_right" 42) rfl) (He.glo_ok X Gn (c.d.fact 25 (f := .glo "_law_right") rfl)) T (freeL X Gn c.d) chk_law_right
theorem at_law_pot (X : K.In h) (Gn : h.Ns mainGlobals mg) (c : SL K) (base : Heap) : FnAt (GL K) P w mg base 4 ("_law_pot", F_law_pot) := by
  have T : Tops (GL K) Y_law_pot P w mg base 0 := by
    refine tops_mk (d := G_law_pot) ?_ ?_ ?_ ?_ ?_ (pls_at X Gn c _ (.inl rfl) (by simp [G_law_pot, clsL]))
    · intro q hq
      simp [G_law_pot] at hq
    · intro q hq
      simp [G_law_pot] at hq
    · intro q hq
      simp [G_law_pot] at hq
    · intro q hq
      simp [G_law_pot] at hq
    · intro q hq
      simp [G_law_pot] at hq
  exact at_ok (D := D_law_pot) (kws := []) (c.d.def_ 29 (d := dOf PySem.Challenge.pw_mergereach_k23_whole_double_picks "_law_pot" 26) rfl) (He.glo_ok X Gn (c.d.fact 26 (f := .glo "_law_pot") rfl)) T (freeL X Gn c.d) chk_law_pot
theorem at_law (X : K.In h) (Gn : h.Ns mainGlobals mg) (c : SL K) (base : Heap) : FnAt (GL K) P w mg base 36 ("law", F_law) := by
  have T : Tops (GL K) Y_law P w mg base 32 := by
    refine tops_mk (d := G_law) ?_ ?_ ?_ ?_ ?_ (pls_at X Gn c _ (.inl rfl) (by simp [G_law, clsL]))
    · intro q hq
      simp only [G_law, List.mem_cons, List.not_mem_nil, or_false] at hq
      rcases hq with rfl | rfl
      · exact (at_law_right X Gn c base).mono (by decide)
      · exact (at_law_pot X Gn c base).mono (by decide)
    · intro q hq
      simp [G_law] at hq
    · intro q hq
      simp [G_law] at hq
    · intro q hq
      simp [G_law] at hq
    · intro q hq
      simp [G_law] at hq
  exact at_ok (D := D_law) (kws := []) (c.d.def_ 30 (d := dOf PySem.Challenge.pw_mergereach_k23_whole_double_picks "law" 43) rfl) (He.glo_ok X Gn (c.d.fact 27 (f := .glo "law") rfl)) T (freeL X Gn c.d) chk_law
end
end PyL

open PySem PySem.W PySem.Calls PyProof.Rows
theorem PySem.Challenge.cw_mergereach_k23_whole_double_picks_holds : PySem.Challenge.rw_mergereach_k23_whole_double_picks.Holds := by
  w_on; o_law
  refine HandSHeadRun.head_any (r := PyL.RL) (q := view PyL.RL.prog [43]) (H := PyL.hkL) (ob := PyL.obL) (M := 6000) (loose := PyL.looseL) (d := HandSHeadRun.topDef PyL.RL.prog 43) (kwd := []) PyL.obL_eq
    (by kernel_rfl) (fun s => by kernel_rfl) PyL.runL (by kernel_rfl) (by kernel_rfl) (by kernel_rfl) (by rfl) (by first | assumption | decide +kernel) (by decide +kernel) ⟨rfl, rfl, rfl, rfl, rfl, by decide +kernel⟩ ?hw ?hc
  case hw => w_witness2
  case hc =>
    refine PyI.walk_G (l := PySem.Challenge.rw_mergereach_k23_whole_double_picks) (n := 63) (k := 36) (x := "_law_script") rfl (by decide) (by kernel_rfl) ⟨rfl, by decide, by decide⟩ ?F
    intro w mg fa h Y Gn hmg0
    obtain ⟨K, KX, c0⟩ := Y
    have c := PyL.SL.of c0.1 c0.2
    have hmg : mg ("law" : PySem.Str) = some (.ref fa) := by
      have e : (HandSHeadRun.topDef PyL.RL.prog 43).name = ("law" : PySem.Str) := by kernel_rfl
      rw [← e]
      exact hmg0
    refine ⟨PyL.GL K, PyL.F_law, KX, rfl, rfl, fun ns hl => PyL.sem_law ns hl, fun base _ _ => ?_⟩
    obtain ⟨f, h1, h2⟩ := PyL.at_law (P := (PySem.Challenge.rw_mergereach_k23_whole_double_picks).prog) (w := w) KX Gn c base
    have e : f = fa := by
      have z := h1.symm.trans hmg
      cases z
      rfl
    rw [← e]
    exact h2
