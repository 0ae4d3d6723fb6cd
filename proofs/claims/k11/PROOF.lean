import PyProof.Rows.All
import Wide.All
import OpenK.AllK
import Wide.FinOn
import PySem.Challenge.RW_mergereach_k11_names_of_any_value
import HandS.ForMost
import HandS.Exc
import HandS.TupAny
import HandS.Deep
import HandS.IsInst
import HandS.WideBits
import HandS.RaiseMore
import HandS.Defaults
import HandS.FStr
import HandS.HeadWalk
import HandS.Comp
import HandS.Iter
import HandS.Style
import HandS.Small
import HandS.HeadEnd
import HandS.Head0
import HandS.Head1
import HandS.Head2
import HandS.HeadHook1
import HandS.HeadHook2
import HandS.HeadHook3
import HandS.HeadHook4
set_option Elab.async false
set_option linter.all false
set_option maxRecDepth 100000
set_option maxHeartbeats 0
namespace PyI
open PySem PySem.Spec PyProof.Rows L2

/-- values: trees, or a reference into the list of cells -/
inductive W where
  | non | bl (b : Bool) | int (i : Int) | str (x : Str)
  | tup (ws : List W)
  | lst (ws : List W)
  | dct (ks : List Key) (ws : List W)
  | obj (c : Str) (ns : List Str) (ws : List W)
  | ref (n : Nat)
  | cls (c : Str)
  | typ (n : String)
  | scr (ns : List Int)
  deriving Inhabited

inductive Con where
  | lst (ws : List W)
  | dct (ks : List Key) (ws : List W)
  | obj (c : Str) (ns : List Str) (ws : List W)
  deriving Inhabited
structure Cell where
  live : Bool
  con : Con
  deriving Inhabited
abbrev Store := List Cell

inductive Res (α : Type) where
  | ok (a : α) (M : Store)
  | exc (c : Str) (ns : List Str) (ws : List W) (M : Store)
  | err

/-- the written part, the classes' addresses -/
structure GE where
  K : PySem.W.Frag
  cA : Str → Option Addr
/-- ghosts: the cells' addresses; addresses that no value may lean on -/
structure Gh where
  R : List Addr
  Z : List Addr

/-- no live cell lies at a -/
def NL (g : Gh) (M : Store) (a : Addr) : Prop := ∀ (i : Nat) (c : Cell), g.R[i]? = some a → M[i]? = some c → c.live = false
/-- what stands at a never changes -/
def Fro (g : Gh) (M : Store) (a : Addr) : Prop := a ∉ g.Z ∧ NL g M a

/-- the written part's own lists, tuples -/
def KT (K : PySem.W.Frag) (a : Addr) (xs : List V) : Prop := ∃ (o : Obj) (its : Array Value) (n : Nat), K.lookup a = some o ∧ o.cls = .type "tuple" ∧ o.data = .seq its n ∧ its.size ≤ sizeLine ∧ Vals xs its.toList
def StL (g : Gh) (M : Store) (H : Hp) (a : Addr) (xs : List V) : Prop := Rd H a (.lst xs) ∧ Fro g M a
def StT (K : PySem.W.Frag) (g : Gh) (M : Store) (H : Hp) (a : Addr) (xs : List V) : Prop := (Rd H a (.tup xs) ∧ Fro g M a) ∨ KT K a xs

/-- a list of the written part; the script -/
def KL (K : PySem.W.Frag) (a : Addr) (xs : List V) : Prop := ∃ (o : Obj) (its : Array Value) (n : Nat), K.lookup a = some o ∧ o.cls = .type "list" ∧ o.dict = none ∧ o.data = .seq its n ∧ its.size ≤ sizeLine ∧ Vals xs its.toList
def StS (K : PySem.W.Frag) (g : Gh) (M : Store) (H : Hp) (a : Addr) (ns : List Int) : Prop := (Rd H a (.lst (ns.map V.int)) ∧ Fro g M a) ∨ KL K a (ns.map V.int)

section
variable (G : GE)
mutual
def RW (g : Gh) (M : Store) (H : Hp) : W → V → Prop
  | .non, v => v = .non
  | .bl b, v => v = .bl b
  | .int i, v => v = .int i
  | .str x, v => v = .str x
  | .tup ws, v => ∃ a vs, v = .ref a ∧ StT G.K g M H a vs ∧ RWs g M H ws vs
  | .lst ws, v => ∃ a vs, v = .ref a ∧ StL g M H a vs ∧ RWs g M H ws vs
  | .dct ks ws, v => ∃ a kvs, v = .ref a ∧ H a = some (.dK kvs) ∧ Fro g M a ∧ kvs.map (·.1) = ks ∧ RWs g M H ws (kvs.map (·.2))
  | .obj c ns ws, v => ∃ a C dx fs, v = .ref a ∧ G.cA c = some C ∧ H a = some (.ins C dx fs) ∧ Fro g M a ∧ fs.map (·.1) = ns ∧ RWs g M H ws (fs.map (·.2))
  | .ref n, v => ∃ a, g.R[n]? = some a ∧ v = .ref a
  | .cls c, v => ∃ C, G.cA c = some C ∧ v = .ref C
  | .typ n, v => v = .ty n
  | .scr ns, v => ∃ a, v = .ref a ∧ StS G.K g M H a ns
def RWs (g : Gh) (M : Store) (H : Hp) : List W → List V → Prop
  | [], vs => vs = []
  | w :: ws, vs => ∃ v r, vs = v :: r ∧ RW g M H w v ∧ RWs g M H ws r
end

def CellAt (g : Gh) (M : Store) (H : Hp) (a : Addr) : Con → Prop
  | .lst ws => ∃ vs, H a = some (.lst vs) ∧ RWs G g M H ws vs
  | .dct ks ws => ∃ kvs, H a = some (.dK kvs) ∧ kvs.map (·.1) = ks ∧ RWs G g M H ws (kvs.map (·.2))
  | .obj c ns ws => ∃ C dx fs, G.cA c = some C ∧ H a = some (.ins C dx fs) ∧ fs.map (·.1) = ns ∧ RWs G g M H ws (fs.map (·.2))

structure Abs (g : Gh) (M : Store) (H : Hp) : Prop where
  len : g.R.length = M.length
  nd : g.R.Nodup
  nz : ∀ a ∈ g.Z, a ∉ g.R
  zd : ∀ a ∈ g.Z, H a ≠ none
  cell : ∀ (i : Nat) (c : Cell) (a : Addr), M[i]? = some c → g.R[i]? = some a → CellAt G g M H a c.con
end

/-- how the state may evolve -/
structure Evo (g : Gh) (M : Store) (H : Hp) (g' : Gh) (M' : Store) (H' : Hp) : Prop where
  more : ∃ X, g'.R = g.R ++ X ∧ ∀ a ∈ X, H a = none
  zs : g'.Z = g.Z
  len : M.length ≤ M'.length
  dead : ∀ (i : Nat) (c : Cell), M[i]? = some c → c.live = false → M'[i]? = some c
  keep : ∀ a o, H a = some o → NL g M a → H' a = some o
  dom : ∀ a, H a ≠ none → H' a ≠ none

section
variable {G : GE} {g g' g2 : Gh} {M M' M2 : Store} {H H' H2 : Hp}

theorem Evo.refl : Evo g M H g M H := ⟨⟨[], by simp, by simp⟩, rfl, Nat.le_refl _, fun _ _ h _ => h, fun _ _ h _ => h, fun _ h => h⟩

theorem Evo.nl (e : Evo g M H g' M' H') (hl : g.R.length = M.length) {a : Addr} (ha : H a ≠ none) (f : NL g M a) : NL g' M' a := by
  intro i c h1 h2
  obtain ⟨X, hR, hX⟩ := e.more
  rw [hR] at h1
  by_cases hi : i < g.R.length
  · rw [List.getElem?_append_left hi] at h1
    obtain ⟨c0, hc0⟩ : ∃ c0, M[i]? = some c0 := ⟨_, List.getElem?_eq_getElem (by omega)⟩
    have := f i c0 h1 hc0
    rw [e.dead i c0 hc0 this] at h2
    cases h2; exact this
  · rw [List.getElem?_append_right (by omega)] at h1
    exact absurd (hX a (List.mem_of_getElem? h1)) ha
theorem Evo.fro (e : Evo g M H g' M' H') (hl : g.R.length = M.length) {a : Addr} (ha : H a ≠ none) (f : Fro g M a) : Fro g' M' a :=
  ⟨by rw [e.zs]; exact f.1, e.nl hl ha f.2⟩

theorem Evo.trans (e : Evo g M H g' M' H') (hl : g.R.length = M.length) (f : Evo g' M' H' g2 M2 H2) : Evo g M H g2 M2 H2 := by
  obtain ⟨X, hR, hX⟩ := id e.more
  obtain ⟨Y, hR2, hY⟩ := id f.more
  refine ⟨⟨X ++ Y, by rw [hR2, hR, List.append_assoc], fun a ha => ?_⟩, f.zs.trans e.zs, Nat.le_trans e.len f.len, fun i c h1 h2 => f.dead i c (e.dead i c h1 h2) h2, fun a o h1 h2 => ?_, fun a h => f.dom a (e.dom a h)⟩
  · rcases List.mem_append.mp ha with h | h
    · exact hX a h
    · have := hY a h
      cases q : H a with
      | none => rfl
      | some o => exact absurd this (e.dom a (by rw [q]; simp))
  · exact f.keep a o (e.keep a o h1 h2) (e.nl hl (by rw [h1]; simp) h2)

theorem Rd.dom {a : Addr} {u : HO} (h : Rd H a u) : H a ≠ none := by
  rcases h with h | ⟨o, h⟩ <;> rw [h] <;> simp
theorem Evo.rd {a : Addr} {u : HO} (e : Evo g M H g' M' H') (f : NL g M a) (h : Rd H a u) : Rd H' a u := by
  rcases h with h | ⟨ob, h⟩
  · exact .inl (e.keep a _ h f)
  · exact .inr ⟨ob, e.keep a _ h f⟩
theorem StL.sq {K : PySem.W.Frag} {a : Addr} {vs : List V} (h : StL g M H a vs) : SqL K H a vs := .inl h.1
theorem StT.sq {K : PySem.W.Frag} {a : Addr} {vs : List V} (h : StT K g M H a vs) : SqT K H a vs := by
  rcases h with ⟨h, _⟩ | h
  · exact .inl h
  · exact .inr h
theorem StS.sq {K : PySem.W.Frag} {a : Addr} {ns : List Int} (h : StS K g M H a ns) : SqL K H a (ns.map V.int) := by
  rcases h with ⟨h, _⟩ | h
  · exact .inl h
  · exact .inr h
theorem StS.evo {K : PySem.W.Frag} {a : Addr} {ns : List Int} (h : StS K g M H a ns) (hl : g.R.length = M.length) (e : Evo g M H g' M' H') : StS K g' M' H' a ns := by
  rcases h with ⟨h, f⟩ | h
  · exact .inl ⟨e.rd f.2 h, e.fro hl (Rd.dom h) f⟩
  · exact .inr h
theorem StL.evo {a : Addr} {vs : List V} (h : StL g M H a vs) (hl : g.R.length = M.length) (e : Evo g M H g' M' H') : StL g' M' H' a vs := ⟨e.rd h.2.2 h.1, e.fro hl (Rd.dom h.1) h.2⟩
theorem StT.evo {K : PySem.W.Frag} {a : Addr} {vs : List V} (h : StT K g M H a vs) (hl : g.R.length = M.length) (e : Evo g M H g' M' H') : StT K g' M' H' a vs := by
  rcases h with ⟨h, f⟩ | h
  · exact .inl ⟨e.rd f.2 h, e.fro hl (Rd.dom h) f⟩
  · exact .inr h

mutual
theorem RW.evo (hl : g.R.length = M.length) (e : Evo g M H g' M' H') : ∀ {w : W} {v : V}, RW G g M H w v → RW G g' M' H' w v
  | .non, v, h => h
  | .bl b, v, h => h
  | .int i, v, h => h
  | .str x, v, h => h
  | .tup ws, v, h => by
    obtain ⟨a, vs, h1, h2, h3⟩ := h
    exact ⟨a, vs, h1, h2.evo hl e, RWs.evo hl e h3⟩
  | .lst ws, v, h => by
    obtain ⟨a, vs, h1, h2, h3⟩ := h
    exact ⟨a, vs, h1, h2.evo hl e, RWs.evo hl e h3⟩
  | .dct ks ws, v, h => by
    obtain ⟨a, kvs, h1, h2, h3, h4, h5⟩ := h
    exact ⟨a, kvs, h1, e.keep _ _ h2 h3.2, e.fro hl (by rw [h2]; simp) h3, h4, RWs.evo hl e h5⟩
  | .obj c ns ws, v, h => by
    obtain ⟨a, C, dx, fs, h1, h2, h3, h4, h5, h6⟩ := h
    exact ⟨a, C, dx, fs, h1, h2, e.keep _ _ h3 h4.2, e.fro hl (by rw [h3]; simp) h4, h5, RWs.evo hl e h6⟩
  | .ref n, v, h => by
    obtain ⟨a, h1, h2⟩ := h
    obtain ⟨X, hR, _⟩ := e.more
    exact ⟨a, by rw [hR, List.getElem?_append_left (List.getElem?_eq_some_iff.mp h1).1]; exact h1, h2⟩
  | .cls c, v, h => h
  | .typ n, v, h => h
  | .scr ns, v, h => by
    obtain ⟨a, h1, h2⟩ := h
    exact ⟨a, h1, h2.evo hl e⟩
theorem RWs.evo (hl : g.R.length = M.length) (e : Evo g M H g' M' H') : ∀ {ws : List W} {vs : List V}, RWs G g M H ws vs → RWs G g' M' H' ws vs
  | [], vs, h => h
  | w :: ws, vs, h => by
    obtain ⟨v, r, h1, h2, h3⟩ := h
    exact ⟨v, r, h1, RW.evo hl e h2, RWs.evo hl e h3⟩
end
theorem CellAt.evo (hl : g.R.length = M.length) (e : Evo g M H g' M' H') {a : Addr} {c : Con} (h : CellAt G g M H a c) (k : ∀ o, H a = some o → H' a = some o) : CellAt G g' M' H' a c := by
  cases c with
  | lst ws => obtain ⟨vs, h1, h2⟩ := h; exact ⟨vs, k _ h1, h2.evo hl e⟩
  | dct ks ws => obtain ⟨vs, h1, h2, h3⟩ := h; exact ⟨vs, k _ h1, h2, h3.evo hl e⟩
  | obj c ns ws => obtain ⟨C, dx, fs, h1, h2, h3, h4⟩ := h; exact ⟨C, dx, fs, h1, k _ h2, h3, h4.evo hl e⟩

/-- the locals: what is known of the slots -/
def LR (G : GE) (g : Gh) (M : Store) (H : Hp) (ws : List (Option W)) (σ : L2.St) : Prop := ws.length = σ.length ∧ ∀ (i : Nat) (w : W), ws[i]? = some (some w) → ∃ v, σ[i]? = some (some v) ∧ RW G g M H w v
theorem LR.evo (hl : g.R.length = M.length) (e : Evo g M H g' M' H') {ws : List (Option W)} {σ : L2.St} (h : LR G g M H ws σ) : LR G g' M' H' ws σ :=
  ⟨h.1, fun i w q => let ⟨v, a, b⟩ := h.2 i w q; ⟨v, a, b.evo hl e⟩⟩
theorem LR.set {ws : List (Option W)} {σ : L2.St} (h : LR G g M H ws σ) (i : Nat) {w : W} {v : V} (r : RW G g M H w v) : LR G g M H (ws.set i (some w)) (σ.set i (some v)) := by
  refine ⟨by simp [h.1], fun j x q => ?_⟩
  by_cases hj : i = j
  · subst hj
    by_cases hi : i < ws.length
    · rw [List.getElem?_set_self hi] at q
      cases q
      exact ⟨v, List.getElem?_set_self (by rw [← h.1]; exact hi), r⟩
    · rw [List.getElem?_eq_none (by simpa using hi)] at q; cases q
  · rw [List.getElem?_set_ne hj] at q
    obtain ⟨u, a, b⟩ := h.2 j x q
    exact ⟨u, by rw [List.getElem?_set_ne hj]; exact a, b⟩
theorem LR.unset {ws : List (Option W)} {σ : L2.St} (h : LR G g M H ws σ) (i : Nat) : LR G g M H (ws.set i none) (σ.set i none) := by
  refine ⟨by simp [h.1], fun j x q => ?_⟩
  by_cases hj : i = j
  · subst hj
    by_cases hi : i < ws.length
    · rw [List.getElem?_set_self hi] at q; cases q
    · rw [List.getElem?_eq_none (by simpa using hi)] at q; cases q
  · rw [List.getElem?_set_ne hj] at q
    obtain ⟨u, a, b⟩ := h.2 j x q
    exact ⟨u, by rw [List.getElem?_set_ne hj]; exact a, b⟩

theorem RWs.length : ∀ {ws : List W} {vs : List V}, RWs G g M H ws vs → ws.length = vs.length
  | [], vs, h => by have e : vs = [] := h; subst e; rfl
  | w :: ws, _, h => by
    obtain ⟨v, r, rfl, _, h3⟩ := h
    simp [RWs.length h3]
theorem RWs.get : ∀ {ws : List W} {vs : List V} {i : Nat} {w : W}, RWs G g M H ws vs → ws[i]? = some w → ∃ v, vs[i]? = some v ∧ RW G g M H w v
  | [], _, _, _, _, e => by simp at e
  | w :: ws, _, 0, _, h, e => by
    obtain ⟨v, r, rfl, h2, _⟩ := h
    simp at e; subst e
    exact ⟨v, rfl, h2⟩
  | w :: ws, _, i + 1, _, h, e => by
    obtain ⟨v, r, rfl, _, h3⟩ := h
    obtain ⟨u, a, b⟩ := RWs.get (i := i) h3 (by simpa using e)
    exact ⟨u, by simpa using a, b⟩
theorem RWs.append : ∀ {ws us : List W} {vs xs : List V}, RWs G g M H ws vs → RWs G g M H us xs → RWs G g M H (ws ++ us) (vs ++ xs)
  | [], _, _, _, h, k => by rw [show _ = [] from h]; exact k
  | w :: ws, _, _, _, h, k => by
    obtain ⟨v, r, rfl, h2, h3⟩ := h
    exact ⟨v, _, rfl, h2, RWs.append h3 k⟩
theorem RWs.nil : RWs G g M H [] [] := rfl
theorem RWs.cons {w : W} {v : V} {ws : List W} {vs : List V} (h : RW G g M H w v) (k : RWs G g M H ws vs) : RWs G g M H (w :: ws) (v :: vs) := ⟨v, vs, rfl, h, k⟩
theorem RWs.one {w : W} {v : V} (h : RW G g M H w v) : RWs G g M H [w] [v] := .cons h .nil
theorem RWs.set : ∀ {ws : List W} {vs : List V} (i : Nat) {w : W} {v : V}, RWs G g M H ws vs → RW G g M H w v → RWs G g M H (ws.set i w) (vs.set i v)
  | [], _, _, _, _, h, _ => by rw [show _ = [] from h]; exact rfl
  | w :: ws, _, 0, _, _, h, k => by
    obtain ⟨v, r, rfl, _, h3⟩ := h
    exact ⟨_, _, rfl, k, h3⟩
  | w :: ws, _, i + 1, _, _, h, k => by
    obtain ⟨v, r, rfl, h2, h3⟩ := h
    exact ⟨_, _, rfl, h2, RWs.set i h3 k⟩
theorem RWs.take : ∀ {ws : List W} {vs : List V} (n : Nat), RWs G g M H ws vs → RWs G g M H (ws.take n) (vs.take n)
  | _, _, 0, _ => by simp; exact rfl
  | [], _, n + 1, h => by rw [show _ = [] from h]; simp; exact rfl
  | w :: ws, _, n + 1, h => by
    obtain ⟨v, r, rfl, h2, h3⟩ := h
    exact ⟨_, _, rfl, h2, RWs.take n h3⟩
theorem RWs.drop : ∀ {ws : List W} {vs : List V} (n : Nat), RWs G g M H ws vs → RWs G g M H (ws.drop n) (vs.drop n)
  | _, _, 0, h => by simpa using h
  | [], _, n + 1, h => by rw [show _ = [] from h]; simp; exact rfl
  | w :: ws, _, n + 1, h => by
    obtain ⟨v, r, rfl, h2, h3⟩ := h
    exact RWs.drop n h3
theorem RWs.reverse {ws : List W} {vs : List V} (h : RWs G g M H ws vs) : RWs G g M H ws.reverse vs.reverse := by
  induction ws generalizing vs with
  | nil => rw [show vs = [] from h]; exact rfl
  | cons w ws ih =>
    obtain ⟨v, r, rfl, h2, h3⟩ := h
    rw [List.reverse_cons, List.reverse_cons]
    exact (ih h3).append (.one h2)
theorem RWs.eraseIdx : ∀ {ws : List W} {vs : List V} (n : Nat), RWs G g M H ws vs → RWs G g M H (ws.eraseIdx n) (vs.eraseIdx n)
  | [], _, n, h => by rw [show _ = [] from h]; simp; exact rfl
  | w :: ws, _, 0, h => by
    obtain ⟨v, r, rfl, h2, h3⟩ := h
    exact h3
  | w :: ws, _, n + 1, h => by
    obtain ⟨v, r, rfl, h2, h3⟩ := h
    exact ⟨_, _, rfl, h2, RWs.eraseIdx n h3⟩
end
end PyI
namespace PyI
open PySem PySem.Spec PyProof.Rows L2

/-! ### the compact text -/
/-- targets of names alone -/
inductive Tg where
  | nm (i : Nat)
  | tup (ts : List Tg)
  deriving Inhabited

/-- what is walked -/
inductive Itk where
  | seq | range | enum | zip | zips | items | values
  deriving Inhabited, DecidableEq

/-- built-in functions and classes, called by name -/
inductive Bl where
  | len | list | tuple | all | any | max | min | abs | divmod | int | str | repr | sum
  deriving Inhabited, DecidableEq
def Bl.name : Bl → Str
  | .len => "len" | .list => "list" | .tuple => "tuple" | .all => "all" | .any => "any" | .max => "max" | .min => "min" | .abs => "abs" | .divmod => "divmod"
  | .int => "int" | .str => "str" | .repr => "repr" | .sum => "sum"
/-- methods of built-in types -/
inductive Mt where
  | join | split | upper | startswith | count
  | append | extend | pop | popAt | reverse | clear | insert | index
  | get | update
  deriving Inhabited, DecidableEq
def Mt.name : Mt → Str
  | .join => "join" | .split => "split" | .upper => "upper" | .startswith => "startswith" | .count => "count"
  | .append => "append" | .extend => "extend" | .pop => "pop" | .popAt => "pop" | .reverse => "reverse" | .clear => "clear" | .insert => "insert" | .index => "index"
  | .get => "get" | .update => "update"

inductive Prm where
  | bin (op : Operator) (fz : Bool) | cmp (op : CmpOp) | neg
  | idx | slc (lo hi fz : Bool)
  | tup | lst (fz : Bool)
  | dsp (fz : Bool) (ks : List Key)
  | blt (b : Bl) (fz : Bool)
  | fst (ps : List (Option Str × Bool))
  deriving Inhabited

inductive E where
  | var (i : Nat)
  | con (w : W)
  | glo (x : Str)
  | prm (p : Prm) (as : List E)
  | mth (m : Mt) (fz : Bool) (o : E) (as : List E)
  | not (a : E)
  | and (as : List E)
  | or (as : List E)
  | slc3 (fz : Bool) (a b c : E)
  | isi (single : Bool) (cs : List (Str × Bool)) (a : E)
  | ife (c a b : E)
  | chain (op1 op2 : CmpOp) (a b c : E)
  | call (f : Str) (fz : Bool) (as : List E) (ks : List Str)
  | make (c : Str) (fz : Bool) (as : List E) (ks : List Str)
  | meth (c m : Str) (fz : Bool) (o : E) (as : List E) (ks : List Str)
  | lc (fz : Bool) (own : List (Str × Nat)) (k : Itk) (src : List E) (t : Tg) (cond : List E) (elt : E)
  | dc (fz : Bool) (own : List (Str × Nat)) (k : Itk) (src : List E) (t : Tg) (cond : List E) (key val : E)
  | att (a : E) (f : Str)
  | prop (c f : Str) (a : E)
  | lenU (c : Str) (a : E)
  | reprU (c : Str) (a : E)
  | eqU (neg : Bool) (a b : E)
  | exAtt (f : Str)
  | exIs (cs : List (Str × Bool))
  deriving Inhabited

mutual
inductive S where
  | expr (e : E)
  | asg (t : Tg) (e : E)
  | par (is : List Nat) (es : List E)
  | setSub (o i e : E)
  | setAtt (o : E) (f : Str) (e : E)
  | subNm (o i : E) (j : Nat) (e : E)
  | aug (i : Nat) (op : Operator) (e : E)
  | ife (c : E) (a b : List S)
  | for (k : Itk) (src : List E) (t : Tg) (body : List S)
  | whl (c : E) (body : List S)
  | ret (e : E)
  | retN
  | raise (c : Str) (as : List E)
  | raiseIn (c : Str) (as : List E)
  | tri (body : List S) (h : Hd)
  | pass | brk | cont
inductive Hd where
  | nil
  | cons (cs : List (Str × Bool)) (n : Option Nat) (suite : List S) (rest : Hd)
end

/-! ### views of values -/
def conL : Con → Option (List W)
  | .lst ws => some ws
  | _ => none
def vL (M : Store) : W → Option (List W)
  | .lst ws => some ws
  | .ref n => (M[n]?).bind fun c => conL c.con
  | _ => none
/-- a list or a tuple -/
def vS (M : Store) : W → Option (List W)
  | .lst ws => some ws
  | .scr ns => some (ns.map .int)
  | .tup ws => some ws
  | .ref n => (M[n]?).bind fun c => conL c.con
  | _ => none
def conD : Con → Option (List Key × List W)
  | .dct ks ws => some (ks, ws)
  | _ => none
def vD (M : Store) : W → Option (List Key × List W)
  | .dct ks ws => some (ks, ws)
  | .ref n => (M[n]?).bind fun c => conD c.con
  | _ => none
def conO : Con → Option (Str × List Str × List W)
  | .obj c ns ws => some (c, ns, ws)
  | _ => none
def vO (M : Store) : W → Option (Str × List Str × List W)
  | .obj c ns ws => some (c, ns, ws)
  | .ref n => (M[n]?).bind fun c => conO c.con
  | _ => none

/-! ### data: trees without references -/
mutual
def dataW : W → Option PyData
  | .non => some .none
  | .bl b => some (.bool b)
  | .int i => some (.int i)
  | .str x => some (.str x)
  | .tup ws => (dataWs ws).map .tuple
  | .lst ws => (dataWs ws).map .list
  | _ => none
def dataWs : List W → Option (List PyData)
  | [] => some []
  | w :: ws => (dataW w).bind fun d => (dataWs ws).map (d :: ·)
end
mutual
/-- each reference to a list, one step read -/
def res1 (M : Store) : W → W
  | .tup ws => .tup (res1s M ws)
  | .lst ws => .lst (res1s M ws)
  | .ref n => match (M[n]?).bind fun c => conL c.con with
    | some ws => .lst ws
    | none => .ref n
  | w => w
def res1s (M : Store) : List W → List W
  | [] => []
  | w :: ws => res1 M w :: res1s M ws
end
def dataM (M : Store) (w : W) : Option PyData := dataW (res1 M (res1 M (res1 M w)))

/-! ### results -/
def Res.bind {α β : Type} (r : Res α) (f : α → Store → Res β) : Res β :=
  match r with
  | .ok a M => f a M
  | .exc c ns ws M => .exc c ns ws M
  | .err => .err
def need {α β : Type} (o : Option α) (f : α → Res β) : Res β :=
  match o with
  | some a => f a
  | none => .err
/-- an answer -/
def give (w : W) (M : Store) : Res W := .ok w M
/-- a new list: frozen, or a live cell -/
def newL (fz : Bool) (ws : List W) (M : Store) : Res W := if fz then .ok (.lst ws) M else .ok (.ref M.length) (M ++ [⟨true, .lst ws⟩])
def newD (fz : Bool) (ks : List Key) (ws : List W) (M : Store) : Res W := if fz then .ok (.dct ks ws) M else .ok (.ref M.length) (M ++ [⟨true, .dct ks ws⟩])

/-! ### truth -/
def truW (M : Store) : W → Option Bool
  | .non => some false
  | .bl b => some b
  | .int i => some (i != 0)
  | .str x => if x.length ≤ sizeLine then some (x.length != 0) else none
  | .tup ws => some !ws.isEmpty
  | .lst ws => some !ws.isEmpty
  | .ref n => ((M[n]?).bind fun c => conL c.con).map fun ws => !ws.isEmpty
  | _ => none

/-! ### operators -/
instance (i j : Int) : Decidable (CMul i j) := inferInstanceAs (Decidable ((-(2 ^ 64) < i ∧ i < 2 ^ 64) ∨ (-(2 ^ 64) < j ∧ j < 2 ^ 64)))
def binW (op : Operator) (fz : Bool) (a b : W) (M : Store) : Res W :=
  match op, a, b with
  | .Add, .int i, .int j => .ok (.int (i + j)) M
  | .Sub, .int i, .int j => .ok (.int (i - j)) M
  | .Mult, .int i, .int j => if CMul i j then .ok (.int (i * j)) M else .err
  | .FloorDiv, .int i, .int j => if 0 < j ∧ j < 1073741824 then .ok (.int (i / j)) M else .err
  | .Mod, .int i, .int j => if 0 < j then .ok (.int (i % j)) M else .err
  | .Pow, .int i, .int j => if 0 ≤ j ∧ j ≤ 1000000 ∧ i.natAbs < 2 ^ 64 then .ok (.int (i ^ j.toNat)) M else .err
  | .Add, .str x, .str y => if x.length + y.length ≤ sizeLine then .ok (.str (x ++ y)) M else .err
  | .Add, .tup x, .tup y => if x.length + y.length ≤ sizeLine then .ok (.tup (x ++ y)) M else .err
  | .Mult, l, .int k => need (vL M l) fun ws => if -(2 ^ 63) ≤ k ∧ k < 2 ^ 63 ∧ ws.length * k.toNat ≤ sizeLine then newL fz (List.replicate k.toNat ws).flatten M else .err
  | .Add, l, r => need (vL M l) fun x => need (vL M r) fun y => if x.length + y.length ≤ sizeLine then newL fz (x ++ y) M else .err
  | _, _, _ => .err
def eqW (M : Store) (a b : W) : Option Bool :=
  (dataM M a).bind fun d => (dataM M b).bind fun e => if SeqAt.shaped d && SeqAt.shaped e then some (PyData.eqv d e) else none
def inW (M : Store) (a b : W) : Option Bool :=
  match a, b with
  | .str x, .str y => some (!(Builtin.Str.occurrences y x 0 y.length 1).isEmpty)
  | a, b => (vS M b).bind fun ws => (dataM M a).bind fun d => (dataM M (.lst ws)).bind fun e => match e with
    | .list ds => if SeqAt.shaped d && SeqAt.shaped (.list ds) then some (ds.any fun z => PyData.eqv z d) else none
    | _ => none
def cmpW (op : CmpOp) (a b : W) (M : Store) : Res W :=
  match op, a, b with
  | .Lt, .int i, .int j => .ok (.bl (decide (i < j))) M
  | .LtE, .int i, .int j => .ok (.bl (decide (i ≤ j))) M
  | .Gt, .int i, .int j => .ok (.bl (decide (j < i))) M
  | .GtE, .int i, .int j => .ok (.bl (decide (j ≤ i))) M
  | .Eq, a, b => need (eqW M a b) fun r => .ok (.bl r) M
  | .NotEq, a, b => need (eqW M a b) fun r => .ok (.bl (!r)) M
  | .In, a, b => need (inW M a b) fun r => .ok (.bl r) M
  | .NotIn, a, b => need (inW M a b) fun r => .ok (.bl (!r)) M
  | .Is, a, .non => .ok (.bl (match a with | .non => true | _ => false)) M
  | .IsNot, a, .non => .ok (.bl (match a with | .non => false | _ => true)) M
  | _, _, _ => .err

/-! ### isinstance -/
def tyW (M : Store) : W → Option (String ⊕ Str)
  | .non => some (.inl "NoneType")
  | .bl _ => some (.inl "bool")
  | .int _ => some (.inl "int")
  | .str _ => some (.inl "str")
  | .tup _ => some (.inl "tuple")
  | .lst _ => some (.inl "list")
  | .dct _ _ => some (.inl "dict")
  | .obj c _ _ => some (.inr c)
  | .ref n => (M[n]?).map fun c => match c.con with
    | .lst _ => .inl "list"
    | .dct _ _ => .inl "dict"
    | .obj c _ _ => .inr c
  | _ => none
/-- the built-in classes that may be asked -/
def askTys : List (Str × String) := [("int", "int"), ("str", "str"), ("tuple", "tuple"), ("list", "list"), ("dict", "dict"), ("bool", "bool")]
/-- one asked class: its name, and whether it is a class of the text -/
def isiOne : String ⊕ Str → Str × Bool → Bool
  | .inl a, (c, false) => match askTys.lookup c with
    | some t => decide (a = t) || (decide (a = "bool") && decide (t = "int"))
    | none => false
  | .inr a, (c, true) => decide (a = c)
  | _, _ => false
/-- the classes are known -/
def isiAll (pl : Str → Bool) (t : String ⊕ Str) (cs : List (Str × Bool)) : Bool := (match t with
  | .inl _ => true
  | .inr c => pl c) && cs.all fun q => if q.2 then pl q.1 else (askTys.lookup q.1).isSome

/-! ### displays, items, slices -/
def lookK (k : Key) : List Key → List W → Option W
  | a :: ks, w :: ws => if a = k then some w else lookK k ks ws
  | _, _ => none
/-- where the key stands -/
def idxK (k : Key) : List Key → Option Nat
  | [] => none
  | a :: ks => if a = k then some 0 else (idxK k ks).map (· + 1)
def atW {α : Type} (xs : List α) (i : Int) : Option α := atI xs i
def idxW (a b : W) (M : Store) : Res W :=
  match a, b with
  | .str x, .int i => if x.length ≤ sizeLine then need (atI x.cps.toList i) fun c => .ok (.str ⟨#[c]⟩) M else .err
  | a, .int i => match vD M a with
    | some (ks, ws) => need (lookK (Sum.inl i) ks ws) fun w => .ok w M
    | none => need (vS M a) fun ws => need (atI ws i) fun w => .ok w M
  | a, .str x => need (vD M a) fun (ks, ws) => need (lookK (Sum.inr x) ks ws) fun w => .ok w M
  | _, _ => .err
def cutW {α : Type} (xs : List α) (lo hi : Option Int) : List α := (xs.drop (HT.sIx xs.length 0 lo)).take (HT.sIx xs.length xs.length hi - HT.sIx xs.length 0 lo)
def cutStr (x : Str) (lo hi : Option Int) : Str := ⟨(cutW x.cps.toList lo hi).toArray⟩
def slcW (fz : Bool) (a : W) (lo hi : Option Int) (M : Store) : Res W :=
  match a with
  | .str x => if x.length ≤ sizeLine then .ok (.str (cutStr x lo hi)) M else .err
  | .tup ws => .ok (.tup (cutW ws lo hi)) M
  | a => need (vL M a) fun ws => newL fz (cutW ws lo hi) M

/-! ### built-in functions -/
def blsOf : List W → Option (List Bool)
  | [] => some []
  | .bl b :: ws => (blsOf ws).map (b :: ·)
  | _ => none
def intsOf : List W → Option (List Int)
  | [] => some []
  | .int b :: ws => (intsOf ws).map (b :: ·)
  | _ => none
def strsOf : List W → Option (List Str)
  | [] => some []
  | .str b :: ws => (strsOf ws).map (b :: ·)
  | _ => none
def blsW (M : Store) (w : W) : Option (List Bool) := (vL M w).bind blsOf
def intsW (M : Store) (w : W) : Option (List Int) := (vL M w).bind intsOf
def strsW (M : Store) (w : W) : Option (List Str) := (vS M w).bind strsOf
def lenW (a : W) (M : Store) : Res W :=
  match a with
  | .str x => if x.length ≤ sizeLine then .ok (.int x.length) M else .err
  | a => match vD M a with
    | some (ks, _) => .ok (.int ks.length) M
    | none => need (vS M a) fun ws => .ok (.int ws.length) M
def absW (a : W) (M : Store) : Res W :=
  match a with
  | .int i => .ok (.int (if i < 0 then -i else i)) M
  | _ => .err
def intW (a : W) (M : Store) : Res W :=
  match a with
  | .int i => .ok (.int i) M
  | .bl b => .ok (.int (if b then 1 else 0)) M
  | .str x => if x.length ≤ 640 then need (intText? x) fun n => .ok (.int n) M else .err
  | _ => .err
def strW (a : W) (M : Store) : Res W :=
  match a with
  | .int i => if i.natAbs.log2 < 1920 then .ok (.str (toString i)) M else .err
  | .str x => .ok (.str x) M
  | _ => .err
def reprW (a : W) (M : Store) : Res W := need (dataM M a) fun d => if d.showable && decide (d.shown.length ≤ sizeLine) && !d.hasDict && decide (d.depth ≤ 64) then .ok (.str d.shown) M else .err
def bl1 (b : Bl) (fz : Bool) (a : W) (M : Store) : Res W :=
  match b with
  | .len => lenW a M
  | .list => need (vS M a) fun ws => newL fz ws M
  | .tuple => need (vS M a) fun ws => .ok (.tup ws) M
  | .all => need (blsW M a) fun bs => .ok (.bl (bs.all id)) M
  | .any => need (blsW M a) fun bs => .ok (.bl (bs.any id)) M
  | .abs => absW a M
  | .int => intW a M
  | .str => strW a M
  | .repr => reprW a M
  | .sum => need (intsW M a) fun ns => .ok (.int ns.sum) M
  | _ => .err
def bl2 (b : Bl) (a c : W) (M : Store) : Res W :=
  match a, c with
  | .int i, .int j => (match b with
    | .max => .ok (.int (if j > i then j else i)) M
    | .min => .ok (.int (if j < i then j else i)) M
    | .divmod => if 0 < j ∧ j < 1073741824 then .ok (.tup [.int (i / j), .int (i % j)]) M else .err
    | _ => .err)
  | _, _ => .err
def bltW (b : Bl) (fz : Bool) (as : List W) (M : Store) : Res W :=
  match as with
  | [a] => bl1 b fz a M
  | [a, c] => bl2 b a c M
  | _ => .err

/-! ### methods of built-in types -/
/-- a live list changed -/
def putL (n : Nat) (f : List W → Option (W × List W)) (M : Store) : Res W :=
  match M[n]? with
  | some ⟨true, .lst ws⟩ => need (f ws) fun (r, ws') => .ok r (M.set n ⟨true, .lst ws'⟩)
  | _ => .err
def insW {α : Type} (xs : List α) (i : Nat) (x : α) : List α := xs.take i ++ x :: xs.drop i
def mth0 (m : Mt) (o : W) (M : Store) : Res W :=
  match m, o with
  | .upper, .str x => if x.length ≤ 5592405 then .ok (.str (Txt.upper x)) M else .err
  | .pop, .ref n => putL n (fun ws => (ws[ws.length - 1]?).map fun w => (w, ws.dropLast)) M
  | .reverse, .ref n => putL n (fun ws => some (.non, ws.reverse)) M
  | .clear, .ref n => putL n (fun _ => some (.non, [])) M
  | _, _ => .err
def mth1 (m : Mt) (fz : Bool) (o a : W) (M : Store) : Res W :=
  match m with
  | .join => (match o with
    | .str x => need (strsW M a) fun ys => if (ys.map (·.length)).sum + ys.length * x.length ≤ 16777216 then .ok (.str (Txt.join x ys)) M else .err
    | _ => .err)
  | .append => (match o with
    | .ref n => putL n (fun ws => if ws.length < sizeLine then some (.non, ws ++ [a]) else none) M
    | _ => .err)
  | .extend => (match o with
    | .ref n => need (vL M a) fun us => putL n (fun ws => if ws.length + us.length ≤ sizeLine then some (.non, ws ++ us) else none) M
    | _ => .err)
  | .popAt => (match o, a with
    | .ref n, .int i => putL n (fun ws => if -(2 ^ 63) ≤ i ∧ i < 2 ^ 63 then (seqIndex? i ws.length).bind fun k => (ws[k]?).map fun w => (w, ws.eraseIdx k) else none) M
    | _, _ => .err)
  | .split => (match o, a with
    | .str x, .str y => if y.length ≠ 0 ∧ x.length + 2 ≤ sizeLine then newL fz ((Txt.split x y).map .str) M else .err
    | _, _ => .err)
  | .startswith => (match o, a with
    | .str x, .str y => .ok (.bl (Txt.startswith x y)) M
    | _, _ => .err)
  | .count => (match o, a with
    | .str x, .str y => .ok (.int (Txt.count x y)) M
    | _, _ => .err)
  | _ => .err
def mthW (m : Mt) (fz : Bool) (as : List W) (M : Store) : Res W :=
  match as with
  | [o] => mth0 m o M
  | [o, a] => mth1 m fz o a M
  | _ => .err

def isStrW : W → Bool
  | .str _ => true
  | _ => false
/-- the receiver is of the method's type -/
def kindW (m : Mt) (w : W) (M : Store) : Bool :=
  match m with
  | .join | .split | .upper | .startswith | .count => isStrW w
  | .get | .update => (vD M w).isSome
  | _ => (vL M w).isSome

/-! ### f-strings: written parts (some x), fields (none; true: !r) -/
def fldW (r : Bool) (w : W) (M : Store) : Option Str :=
  match r, w with
  | false, .str x => some x
  | false, .int i => if i.natAbs.log2 < 1920 then some (toString i) else none
  | true, w => (dataM M w).bind fun d => if d.showable && decide (d.shown.length ≤ sizeLine) && !d.hasDict && decide (d.depth ≤ 64) then some d.shown else none
  | _, _ => none
def fstW : List (Option Str × Bool) → List W → Str → Store → Option Str
  | [], [], acc, _ => some acc
  | (some x, _) :: ps, ws, acc, M => if acc.length + x.length ≤ sizeLine then fstW ps ws (acc ++ x) M else none
  | (none, r) :: ps, w :: ws, acc, M => (fldW r w M).bind fun x => if acc.length + x.length ≤ sizeLine then fstW ps ws (acc ++ x) M else none
  | _, _, _, _ => none

def intOf : W → Option Int
  | .int i => some i
  | _ => none
def slcP (lo hi : Bool) (fz : Bool) (as : List W) (M : Store) : Res W :=
  match lo, hi, as with
  | false, false, [a] => slcW fz a none none M
  | true, false, [a, i] => need (intOf i) fun i => slcW fz a (some i) none M
  | false, true, [a, j] => need (intOf j) fun j => slcW fz a none (some j) M
  | _, _, _ => .err
def two (f : W → W → Store → Res W) (as : List W) (M : Store) : Res W :=
  match as with
  | [a, b] => f a b M
  | _ => .err
def one (f : W → Store → Res W) (as : List W) (M : Store) : Res W :=
  match as with
  | [a] => f a M
  | _ => .err
def negW (a : W) (M : Store) : Res W := need (intOf a) fun i => .ok (.int (-i)) M
/-- the primitives -/
def prm (p : Prm) (as : List W) (M : Store) : Res W :=
  match p with
  | .bin op fz => two (binW op fz) as M
  | .cmp op => two (cmpW op) as M
  | .neg => one negW as M
  | .idx => two idxW as M
  | .slc lo hi fz => slcP lo hi fz as M
  | .tup => if as.length ≤ sizeLine then .ok (.tup as) M else .err
  | .lst fz => if as.length ≤ sizeLine then newL fz as M else .err
  | .dsp fz ks => if as.length ≤ 15 ∧ ks.length = as.length ∧ ks.Nodup then newD fz ks as M else .err
  | .blt b fz => bltW b fz as M
  | .fst ps => need (fstW ps as Str.empty M) fun x => .ok (.str x) M

/-! ### what is walked -/
def chars (x : Str) : List W := x.cps.toList.map fun c => .str ⟨#[c]⟩
/-- the items of a loop's source -/
def itemsW (k : Itk) (as : List W) (M : Store) : Option (List W) :=
  match k, as with
  | .seq, [.str x] => some (chars x)
  | .seq, [a] => vS M a
  | .range, [.int j] => if -(2 ^ 62) ≤ j ∧ j < 2 ^ 62 then some ((List.range j.toNat).map fun (i : Nat) => .int (i : Int)) else none
  | .range, [.int i, .int j] => if -(2 ^ 62) ≤ i ∧ i < 2 ^ 62 ∧ -(2 ^ 62) ≤ j ∧ j < 2 ^ 62 then some ((List.range (j - i).toNat).map fun (n : Nat) => .int (i + (n : Int))) else none
  | .enum, [a] => (vL M a).map fun ws => (List.range ws.length).zipWith (fun (i : Nat) w => .tup [.int (i : Int), w]) ws
  | .zip, [a, b] => (vL M a).bind fun x => (vL M b).map fun y => x.zipWith (fun u v => .tup [u, v]) y
  | .zips, [a, b] => (vS M a).bind fun x => (vS M b).bind fun y => if x.length = y.length then some (x.zipWith (fun u v => .tup [u, v]) y) else none
  | .items, [a] => (vD M a).map fun (ks, ws) => ks.zipWith (fun k w => .tup [match k with | .inl i => .int i | .inr x => .str x, w]) ws
  | .values, [a] => (vD M a).map fun (_, ws) => ws
  | _, _ => none
mutual
/-- names stored -/
def tgW : Tg → W → List (Option W) → Option (List (Option W))
  | .nm i, w, l => some (l.set i (some w))
  | .tup ts, .tup ws, l => tgWs ts ws l
  | .tup _, _, _ => none
def tgWs : List Tg → List W → List (Option W) → Option (List (Option W))
  | [], [], l => some l
  | t :: ts, w :: ws, l => (tgW t w l).bind fun l' => tgWs ts ws l'
  | _, _, _ => none
end
abbrev LM := List (Option W)
def wipeW (l : LM) : List Nat → LM
  | [] => l
  | v :: vs => (wipeW l vs).set v none


/-! ### pure values: no reference within -/
mutual
def pureW : W → Bool
  | .tup ws => pureWs ws
  | .lst ws => pureWs ws
  | .dct _ ws => pureWs ws
  | .obj _ _ ws => pureWs ws
  | .ref _ => false
  | _ => true
def pureWs : List W → Bool
  | [] => true
  | w :: ws => pureW w && pureWs ws
end
def Con.ws : Con → List W
  | .lst ws => ws
  | .dct _ ws => ws
  | .obj _ _ ws => ws
def Con.frz : Con → W
  | .lst ws => .lst ws
  | .dct ks ws => .dct ks ws
  | .obj c ns ws => .obj c ns ws
def pureC (c : Cell) : Bool := pureWs c.con.ws
mutual
/-- the references from k on, opened: what lies there, frozen -/
def openW (M : Store) (k : Nat) : W → W
  | .tup ws => .tup (openWs M k ws)
  | .lst ws => .lst (openWs M k ws)
  | .ref n => if k ≤ n then (match M[n]? with
    | some c => c.con.frz
    | none => .ref n) else .ref n
  | .dct ks ws => .dct ks (openWs M k ws)
  | .obj c ns ws => .obj c ns (openWs M k ws)
  | w => w
def openWs (M : Store) (k : Nat) : List W → List W
  | [] => []
  | w :: ws => openW M k w :: openWs M k ws
end

/-! ### the global names -/
/-- a def: its parameters' names, how many of them may be given by place, what it means -/
structure FnI where
  ps : List Str
  np : Nat
  sem : List W → Store → Res W
structure Glo where
  fn : Str → Option FnI
  /-- a class's method -/
  mt : Str → Str → Option FnI
  con : Str → Option W
  /-- a plain class of the text -/
  pl : Str → Bool
  /-- what a class holds under a name -/
  att : Str → Str → Option W
  /-- an exception class: its fields -/
  exc : Str → Option (List Str)
  /-- is the exception class c (a class of the text) of the class d (true: of the text) -/
  kin : Str → Str × Bool → Bool
/-- the exception at hand in an except suite -/
structure Cur where
  c : Str
  ns : List Str
  ws : List W
/-- the arguments' places in the parameters' order: n by place, the rest by the names ks -/
def permW (ps ks : List Str) (n : Nat) : List Nat := List.range n ++ (ps.drop n).map fun p => n + ks.idxOf p
def bindW {α : Type} (ps ks : List Str) (as : List α) : List α := match ks with
  | [] => as
  | k :: ks => (permW ps (k :: ks) (as.length - (k :: ks).length)).filterMap fun i => as[i]?
/-- the references among the arguments -/
def refsOf : List W → List Nat
  | [] => []
  | .ref n :: ws => n :: refsOf ws
  | _ :: ws => refsOf ws
/-- the arguments with the references numbered from k on -/
def renum : Nat → List W → List W
  | _, [] => []
  | k, .ref _ :: ws => .ref k :: renum (k + 1) ws
  | k, w :: ws => w :: renum k ws
def isRef : W → Bool
  | .ref _ => true
  | _ => false
/-- the cells written back -/
def putBack (M : Store) : List Nat → List Cell → Store
  | n :: ns, c :: cs => (putBack M ns cs).set n c
  | _, _ => M
/-- an answer taken over: ns the callee's first cells, M1 the caller's store -/
def takeW (fz : Bool) (ns : List Nat) (w : W) (M' M1 : Store) : Res W :=
  if pureW w then .ok w M1 else
  if fz then (let w' := openW M' ns.length (openW M' ns.length w); if pureW w' then .ok w' M1 else .err) else
  match w with
  | .ref j => match ns[j]? with
    | some n => .ok (.ref n) M1
    | none => need (M'[j]?) fun c => if pureC c then .ok (.ref M1.length) (M1 ++ [c]) else .err
  | _ => .err
/-- a def runs on the cells that it is handed, alone -/
def callW (f : List W → Store → Res W) (fz : Bool) (vs : List W) (M : Store) : Res W :=
  let ns := refsOf vs
  need (ns.mapM fun n => M[n]?) fun cs =>
  if ns.Nodup ∧ cs.all pureC ∧ (vs.all fun v => isRef v || pureW v) then
    match f (renum 0 vs) cs with
    | .ok w M' => if ns.length ≤ M'.length ∧ (M'.take ns.length).all pureC then takeW fz ns w M' (putBack M ns (M'.take ns.length)) else .err
    | .exc c xs ws M' => if ns.length ≤ M'.length ∧ (M'.take ns.length).all pureC ∧ pureWs ws then .exc c xs ws (putBack M ns (M'.take ns.length)) else .err
    | .err => .err
  else .err
/-- a new instance: its cell first -/
def makeW (f : List W → Store → Res W) (c : Str) (fz : Bool) (vs : List W) (M : Store) : Res W :=
  let ns := refsOf vs
  need (ns.mapM fun n => M[n]?) fun cs =>
  if ns.Nodup ∧ cs.all pureC ∧ (vs.all fun v => isRef v || pureW v) then
    match f (.ref 0 :: renum 1 vs) (⟨true, .obj c [] []⟩ :: cs) with
    | .ok .non M' => if 1 + ns.length ≤ M'.length ∧ ((M'.drop 1).take ns.length).all pureC then need (M'[0]?) fun o =>
        if fz then (let w' := openW M' (1 + ns.length) (openW M' (1 + ns.length) o.con.frz); if pureW w' then .ok w' (putBack M ns ((M'.drop 1).take ns.length)) else .err)
        else if pureC o then .ok (.ref M.length) (putBack M ns ((M'.drop 1).take ns.length) ++ [o]) else .err
      else .err
    | .exc e xs ws M' => if 1 + ns.length ≤ M'.length ∧ ((M'.drop 1).take ns.length).all pureC ∧ pureWs ws then .exc e xs ws (putBack M ns ((M'.drop 1).take ns.length)) else .err
    | _ => .err
  else .err
/-- nothing raised within -/
def Res.calm {α : Type} (r : Res α) : Res α := match r with
  | .exc .. => .err
  | r => r
/-- the items stand as they stood -/
def Still (k : Itk) (src : List W) (items : List W) (M : Store) : Prop := itemsW k src M = some items

open Classical in
/-- a comprehension's turns -/
noncomputable def lcW (tg : W → Option LM) (cond : LM → Store → Res Bool) (elt : LM → Store → Res W) (still : Store → Prop) : List W → Store → Res (List W)
  | [], M => .ok [] M
  | x :: xs, M => need (tg x) fun l => (cond l M).bind fun b M1 =>
    if b then (elt l M1).bind fun y M2 => if still M2 then (lcW tg cond elt still xs M2).bind fun ys M3 => .ok (y :: ys) M3 else .err
    else if still M1 then lcW tg cond elt still xs M1 else .err

inductive SR where
  | nx (l : LM) (M : Store)
  | rt (w : W) (M : Store)
  | bk (l : LM) (M : Store)
  | ct (l : LM) (M : Store)
  | exc (c : Str) (ns : List Str) (ws : List W) (l : LM) (M : Store)
  | err
def needS {α : Type} (o : Option α) (f : α → SR) : SR :=
  match o with
  | some a => f a
  | none => .err
/-- a value, then a statement's rest; l: the names at a raise -/
def Res.thenS {α : Type} (r : Res α) (l : LM) (f : α → Store → SR) : SR :=
  match r with
  | .ok a M => f a M
  | .exc c ns ws M => .exc c ns ws l M
  | .err => .err
open Classical in
/-- a loop's turns -/
noncomputable def forW (tg : W → LM → Option LM) (body : LM → Store → SR) (still : Store → Prop) : List W → LM → Store → SR
  | [], l, M => .nx l M
  | x :: xs, l, M => needS (tg x l) fun l1 => match body l1 M with
    | .nx l2 M2 => if still M2 then forW tg body still xs l2 M2 else .err
    | .ct l2 M2 => if still M2 then forW tg body still xs l2 M2 else .err
    | .bk l2 M2 => .nx l2 M2
    | r => r
/-- at most n turns -/
def whlN (cond : LM → Store → Res Bool) (body : LM → Store → SR) : Nat → LM → Store → SR
  | 0, _, _ => .err
  | n + 1, l, M => (cond l M).thenS l fun b M1 => if b then (match body l M1 with
      | .nx l2 M2 => whlN cond body n l2 M2
      | .ct l2 M2 => whlN cond body n l2 M2
      | .bk l2 M2 => .nx l2 M2
      | r => r) else .nx l M1
open Classical in
noncomputable def whlW (cond : LM → Store → Res Bool) (body : LM → Store → SR) (l : LM) (M : Store) : SR :=
  if h : ∃ n, whlN cond body n l M ≠ .err then whlN cond body (Classical.choose h) l M else .err

/-- what an expression means: as a value, as a test -/
structure Sm where
  v : LM → Store → Res W
  t : LM → Store → Res Bool
def dflT (v : LM → Store → Res W) (l : LM) (M : Store) : Res Bool := (v l M).bind fun w M1 => need (truW M1 w) fun k => .ok k M1
def Sm.of (v : LM → Store → Res W) : Sm := ⟨v, dflT v⟩
def evEs : List Sm → LM → Store → Res (List W)
  | [], _, M => .ok [] M
  | a :: as, l, M => (a.v l M).bind fun w M1 => (evEs as l M1).bind fun ws M2 => .ok (w :: ws) M2
def evAnd : List Sm → LM → Store → Res W
  | [], _, _ => .err
  | [a], l, M => a.v l M
  | a :: b :: as, l, M => (a.v l M).bind fun w M1 => need (truW M1 w) fun k => if k then evAnd (b :: as) l M1 else .ok w M1
def evOr : List Sm → LM → Store → Res W
  | [], _, _ => .err
  | [a], l, M => a.v l M
  | a :: b :: as, l, M => (a.v l M).bind fun w M1 => need (truW M1 w) fun k => if k then .ok w M1 else evOr (b :: as) l M1
def evAndT : List Sm → LM → Store → Res Bool
  | [], _, M => .ok true M
  | a :: as, l, M => (a.t l M).bind fun k M1 => if k then evAndT as l M1 else .ok false M1
def evOrT : List Sm → LM → Store → Res Bool
  | [], _, M => .ok false M
  | a :: as, l, M => (a.t l M).bind fun k M1 => if k then .ok true M1 else evOrT as l M1
def evChain (op1 op2 : CmpOp) (a b c : Sm) (l : LM) (M : Store) : Res W :=
  (a.v l M).bind fun x M1 => (b.v l M1).bind fun y M2 => (cmpW op1 x y M2).bind fun r M3 => need (truW M3 r) fun k =>
    if k then (c.v l M3).bind fun z M4 => cmpW op2 y z M4 else .ok r M3
/-- as many arguments as parameters -/
def evSlc (fz : Bool) (a b c : Sm) (l : LM) (M : Store) : Res W :=
  (a.v l M).bind fun x M1 => (b.v l M1).bind fun y M2 => need (intOf y) fun i => (c.v l M2).bind fun z M3 => need (intOf z) fun j => slcW fz x (some i) (some j) M3
def fullW (f : FnI) (n : Nat) (r : Res W) : Res W := if n = f.ps.length then r else .err

/-- a method of the text, of an instance of just the class c -/
def ownW (Γ : Glo) (c m : Str) (fz : Bool) (vs : List W) (M : Store) : Res W :=
  match vs with
  | w :: _ => need (vO M w) fun (c', ns, _) => if c' = c ∧ m ∉ ns then need (Γ.mt c m) fun f => fullW f vs.length (callW f.sem fz vs M) else .err
  | _ => .err
/-- == by an own __eq__ on one side, or of data -/
def eqUW (Γ : Glo) (x y : W) (M : Store) : Res W :=
  match vO M x with
  | some (c, _, _) => ownW Γ c "__eq__" true [x, y] M
  | none => match vO M y with
    | some (c, _, _) => ownW Γ c "__eq__" true [y, x] M
    | none => need (eqW M x y) fun k => .ok (.bl k) M

section
variable (Γ : Glo) (cur : Option Cur)
noncomputable def evLc (fz : Bool) (own : List (Str × Nat)) (k : Itk) (src : List Sm) (t : Tg) (cond : List Sm) (elt : Sm) (l : LM) (M : Store) : Res W :=
  (evEs src l M).bind fun vs M1 => need (itemsW k vs M1) fun items =>
    ((lcW (fun x => tgW t x (wipeW l (own.map (·.2)))) (evAndT cond) elt.v (Still k vs items) items M1).calm).bind fun ys M2 => if ys.length ≤ sizeLine then newL fz ys M2 else .err
mutual
noncomputable def ev : E → Sm
  | .var i => .of fun l M => match l[i]? with
    | some (some w) => .ok w M
    | _ => .err
  | .con w => .of fun _ M => .ok w M
  | .glo x => .of fun _ M => need (Γ.con x) fun w => .ok w M
  | .prm p as => .of fun l M => (evEs (evL as) l M).bind fun vs M1 => prm p vs M1
  | .mth m fz o as => .of fun l M => ((ev o).v l M).bind fun w M1 => if kindW m w M1 then (evEs (evL as) l M1).bind fun vs M2 => mthW m fz (w :: vs) M2 else .err
  | .not a => ⟨fun l M => ((ev a).v l M).bind fun w M1 => need (truW M1 w) fun b => .ok (.bl (!b)) M1, fun l M => ((ev a).t l M).bind fun k M1 => .ok (!k) M1⟩
  | .and as => ⟨evAnd (evL as), evAndT (evL as)⟩
  | .or as => ⟨evOr (evL as), evOrT (evL as)⟩
  | .ife c a b => ⟨fun l M => ((ev c).t l M).bind fun k M1 => if k then (ev a).v l M1 else (ev b).v l M1, fun l M => ((ev c).t l M).bind fun k M1 => if k then (ev a).t l M1 else (ev b).t l M1⟩
  | .isi _ cs a => .of fun l M => ((ev a).v l M).bind fun w M1 => need (tyW M1 w) fun t => if isiAll Γ.pl t cs then .ok (.bl (cs.any (isiOne t))) M1 else .err
  | .slc3 fz a b c => .of (evSlc fz (ev a) (ev b) (ev c))
  | .chain op1 op2 a b c => .of (evChain op1 op2 (ev a) (ev b) (ev c))
  | .call f fz as ks => .of fun l M => (evEs (evL as) l M).bind fun vs M1 => need (Γ.fn f) fun f => fullW f vs.length (callW f.sem fz (bindW f.ps ks vs) M1)
  | .make c fz as ks => .of fun l M => (evEs (evL as) l M).bind fun vs M1 => need (Γ.mt c "__init__") fun f => fullW f (vs.length + 1) (makeW f.sem c fz (bindW (f.ps.drop 1) ks vs) M1)
  | .meth c m fz o as ks => .of fun l M => ((ev o).v l M).bind fun w M1 => (evEs (evL as) l M1).bind fun vs M2 => need (vO M1 w) fun (c', ns, _) =>
      if c' = c ∧ m ∉ ns then need (Γ.mt c m) fun f => fullW f (vs.length + 1) (callW f.sem fz (bindW f.ps ks (w :: vs)) M2) else .err
  | .lc fz own k src t cond elt => .of (evLc fz own k (evL src) t (evL cond) (ev elt))
  | .dc _ _ _ _ _ _ _ _ => .of fun _ _ => .err
  | .att a f => .of fun l M => ((ev a).v l M).bind fun w M1 => match w with
    | .cls c => need (Γ.att c f) fun r => .ok r M1
    | w => need (vO M1 w) fun (c, ns, ws) => match (ns.zip ws).lookup f with
      | some r => .ok r M1
      | none => need (Γ.att c f) fun r => .ok r M1
  | .prop c f a => .of fun l M => ((ev a).v l M).bind fun w M1 => ownW Γ c f true [w] M1
  | .lenU c a => .of fun l M => ((ev a).v l M).bind fun w M1 => ownW Γ c "__len__" true [w] M1
  | .reprU c a => .of fun l M => ((ev a).v l M).bind fun w M1 => ownW Γ c "__repr__" true [w] M1
  | .eqU neg a b => .of fun l M => ((ev a).v l M).bind fun x M1 => ((ev b).v l M1).bind fun y M2 => (eqUW Γ x y M2).bind fun r M3 => match r with
    | .bl k => .ok (.bl (if neg then !k else k)) M3
    | _ => .err
  | .exAtt f => .of fun _ M => need cur fun e => need ((e.ns.zip e.ws).lookup f) fun w => .ok w M
  | .exIs cs => .of fun _ M => need cur fun e => .ok (.bl (cs.any (Γ.kin e.c))) M
noncomputable def evL : List E → List Sm
  | [] => []
  | a :: as => ev a :: evL as
end
end

section
variable (Γ : Glo)
/-- a dict's values behind a store -/
def putW (k : Key) (v : W) (ks : List Key) (ws : List W) : Con :=
  if (ks.any fun a => decide (a = k)) = true then .dct ks (ks.zipWith (fun a w => if a = k then v else w) ws) else .dct (ks ++ [k]) (ws ++ [v])
def keyOf : W → Option Key
  | .int i => some (.inl i)
  | .str x => some (.inr x)
  | _ => none
def setSubW (o i v : W) (M : Store) : Option Store :=
  match o with
  | .ref n => match M[n]? with
    | some ⟨true, .lst ws⟩ => (intOf i).bind fun k => (ixN ws.length k).map fun j => M.set n ⟨true, .lst (ws.set j v)⟩
    | some ⟨true, .dct ks ws⟩ => (keyOf i).bind fun k => if ks.length < sizeLine ∧ ks.length = ws.length then some (M.set n ⟨true, putW k v ks ws⟩) else none
    | _ => none
  | _ => none
def setAttW (o : W) (f : Str) (v : W) (M : Store) : Option Store :=
  match o with
  | .ref n => match M[n]? with
    | some ⟨true, .obj c ns ws⟩ => if ns.length < 1000 then some (match ns.idxOf? f with
      | some j => M.set n ⟨true, .obj c ns (ws.set j v)⟩
      | none => M.set n ⟨true, .obj c (ns ++ [f]) (ws ++ [v])⟩) else none
    | _ => none
  | _ => none
def augW (op : Operator) (a b : W) (M : Store) : Res W :=
  match op, a, b with
  | .Add, .int i, .int j => .ok (.int (i + j)) M
  | .Sub, .int i, .int j => .ok (.int (i - j)) M
  | _, _, _ => .err
/-- the exception's own handler: a clause that names one of its classes -/
def hitsW (c : Str) (cs : List (Str × Bool)) : Bool := cs.any (Γ.kin c)
mutual
noncomputable def evS : S → Option Cur → LM → Store → SR
  | .expr e, cur, l, M => ((ev Γ cur e).v l M).thenS l fun _ M1 => .nx l M1
  | .asg t e, cur, l, M => ((ev Γ cur e).v l M).thenS l fun w M1 => needS (tgW t w l) fun l1 => .nx l1 M1
  | .par is es, cur, l, M => (evEs (evL Γ cur es) l M).thenS l fun ws M1 => needS (tgWs (is.map .nm) ws l) fun l1 => .nx l1 M1
  | .setSub o i e, cur, l, M => ((ev Γ cur e).v l M).thenS l fun w M1 => ((ev Γ cur o).v l M1).thenS l fun x M2 => ((ev Γ cur i).v l M2).thenS l fun y M3 =>
      needS (setSubW x y w M3) fun M4 => .nx l M4
  | .setAtt o f e, cur, l, M => ((ev Γ cur e).v l M).thenS l fun w M1 => ((ev Γ cur o).v l M1).thenS l fun x M2 => needS (setAttW x f w M2) fun M3 => .nx l M3
  | .subNm o i j e, cur, l, M => ((ev Γ cur e).v l M).thenS l fun w M1 => match w with
    | .tup [u, v] => ((ev Γ cur o).v l M1).thenS l fun x M2 => ((ev Γ cur i).v l M2).thenS l fun y M3 => needS (setSubW x y u M3) fun M4 => .nx (l.set j (some v)) M4
    | _ => .err
  | .aug i op e, cur, l, M => match l[i]? with
    | some (some w) => ((ev Γ cur e).v l M).thenS l fun v M1 => (augW op w v M1).thenS l fun r M2 => .nx (l.set i (some r)) M2
    | _ => .err
  | .ife c a b, cur, l, M => ((ev Γ cur c).t l M).thenS l fun k M1 => if k then evSs a cur l M1 else evSs b cur l M1
  | .for k src t body, cur, l, M => (evEs (evL Γ cur src) l M).thenS l fun vs M1 => needS (itemsW k vs M1) fun items =>
      forW (tgW t) (evSs body cur) (Still k vs items) items l M1
  | .whl c body, cur, l, M => whlW (ev Γ cur c).t (evSs body cur) l M
  | .ret e, cur, l, M => ((ev Γ cur e).v l M).thenS l fun w M1 => .rt w M1
  | .retN, _, _, M => .rt .non M
  | .raise c as, cur, l, M => (evEs (evL Γ cur as) l M).thenS l fun ws M1 => needS (Γ.exc c) fun ns => if ns.length = ws.length then .exc c ns ws l M1 else .err
  | .raiseIn c as, cur, l, M => (evEs (evL Γ cur as) l M).thenS l fun ws M1 => needS (Γ.exc c) fun ns => if ns.length = ws.length then .exc c ns ws l M1 else .err
  | .tri body h, cur, l, M => match evSs body cur l M with
    | .exc c ns ws l1 M1 => evH h c ns ws l1 M1
    | r => r
  | .pass, _, l, M => .nx l M
  | .brk, _, l, M => .bk l M
  | .cont, _, l, M => .ct l M
noncomputable def evSs : List S → Option Cur → LM → Store → SR
  | [], _, l, M => .nx l M
  | s :: ss, cur, l, M => match evS s cur l M with
    | .nx l1 M1 => evSs ss cur l1 M1
    | r => r
noncomputable def evH : Hd → Str → List Str → List W → LM → Store → SR
  | .nil, c, ns, ws, l, M => .exc c ns ws l M
  | .cons cs n suite rest, c, ns, ws, l, M => if hitsW Γ c cs then (match n with
      | none => evSs suite (some ⟨c, ns, ws⟩) l M
      | some i => match evSs suite (some ⟨c, ns, ws⟩) (l.set i none) M with
        | .nx l1 M1 => .nx (l1.set i none) M1
        | .bk l1 M1 => .bk (l1.set i none) M1
        | .ct l1 M1 => .ct (l1.set i none) M1
        | .exc c1 ns1 ws1 l1 M1 => .exc c1 ns1 ws1 (l1.set i none) M1
        | r => r)
    else evH rest c ns ws l M
end
/-- a def: its parameters, its names by slot, its body -/
structure Df where
  ps : List Str
  N : List Str
  body : List S
/-- a def's run -/
noncomputable def runW (D : Df) (vs : List W) (M : Store) : Res W :=
  if vs.length = D.ps.length then
  match evSs Γ D.body none (vs.map some ++ List.replicate (D.N.length - vs.length) none) M with
  | .nx _ M1 => .ok .non M1
  | .rt w M1 => .ok w M1
  | .exc c ns ws _ M1 => .exc c ns ws M1
  | _ => .err
  else .err
end
end PyI
namespace PyI
open PySem PySem.Spec PyProof.Rows L2

/-! ### the state, and what is wanted behind a piece of text -/
/-- the exception at hand: its slot, its object, class, own dict -/
structure Cu where
  slot : Option Nat
  a : Addr
  cls : Value
  d : Option Addr
  cur : Cur
/-- an exception's class and fields -/
def XR (G : GE) (g : Gh) (M : Store) (H : Hp) (c : Str) (ns : List Str) (ws : List W) (cls : Value) (d : Option Addr) : Prop :=
  ∃ C dx fs, G.cA c = some C ∧ cls = .ref C ∧ d = some dx ∧ H dx = some (.xd fs) ∧ Fro g M dx ∧ ns.length = ws.length ∧ ∀ f w, (ns.zip ws).lookup f = some w → ∃ v, fs.lookup f = some v ∧ RW G g M H w v
def CuOk (G : GE) (cu : Option Cu) (g : Gh) (M : Store) (H : Hp) (σ : L2.St) : Prop := ∀ c, cu = some c → XR G g M H c.cur.c c.cur.ns c.cur.ws c.cls c.d ∧ ∀ i, c.slot = some i → σ[i]? = some (some (.ref c.a))
structure At (G : GE) (cu : Option Cu) (g : Gh) (M : Store) (H : Hp) (l : LM) (σ : L2.St) : Prop where
  abs : Abs G g M H
  lr : LR G g M H l σ
  cu : CuOk G cu g M H σ

abbrev Rel (α β : Type) := Gh → Store → Hp → α → β → Prop
def relB : Rel Bool Bool := fun _ _ _ a b => a = b
/-- what a result promises -/
def Post {α β : Type} (G : GE) (Wi : WX) (rel : Rel α β) (g : Gh) (M : Store) (H : Hp) (σ : L2.St) (r : Res α) (Q : β → Hp → Prop) : Prop :=
  match r with
  | .ok w M' => ∀ g' v H', Abs G g' M' H' → Evo g M H g' M' H' → rel g' M' H' w v → Q v H'
  | .exc c ns ws M' => ∀ g' cls d H', Abs G g' M' H' → Evo g M H g' M' H' → XR G g' M' H' c ns ws cls d → Wi cls d σ H'
  | .err => False
/-- a reading by a function -/
def TOf {α β : Type} (G : GE) (cu : Option Cu) (Wi : WX) (rel : Rel α β) (f : LM → Store → Res α) : L2.St → Hp → (β → Hp → Prop) → Prop :=
  fun σ H Q => ∃ g M l, At G cu g M H l σ ∧ Post G Wi rel g M H σ (f l M) Q
abbrev TEof (G : GE) (cu : Option Cu) (Wi : WX) (f : LM → Store → Res W) : TE := TOf G cu Wi (RW G) f
abbrev TTof (G : GE) (cu : Option Cu) (Wi : WX) (f : LM → Store → Res Bool) : TT := TOf G cu Wi relB f
abbrev TAof (G : GE) (cu : Option Cu) (Wi : WX) (f : LM → Store → Res (List W)) : TA := TOf G cu Wi (RWs G) f

section
variable {G : GE} {cu : Option Cu} {Wi : WX} {g g' g1 : Gh} {M M' M1 : Store} {H H' H1 : Hp} {σ : L2.St} {l : LM} {α β γ δ : Type}

theorem XR.evo {c : Str} {ns : List Str} {ws : List W} {cls : Value} {d : Option Addr} (hl : g.R.length = M.length) (e : Evo g M H g' M' H') (h : XR G g M H c ns ws cls d) : XR G g' M' H' c ns ws cls d := by
  obtain ⟨C, dx, fs, h1, h2, h3, h4, h5, h6, h7⟩ := h
  exact ⟨C, dx, fs, h1, h2, h3, e.keep _ _ h4 h5.2, e.fro hl (by rw [h4]; simp) h5, h6, fun f w q => let ⟨v, a, b⟩ := h7 f w q; ⟨v, a, b.evo hl e⟩⟩
theorem CuOk.evo (hl : g.R.length = M.length) (e : Evo g M H g' M' H') (h : CuOk G cu g M H σ) : CuOk G cu g' M' H' σ := fun c q => ⟨(h c q).1.evo hl e, (h c q).2⟩
theorem At.evo (h : At G cu g M H l σ) (a : Abs G g' M' H') (e : Evo g M H g' M' H') : At G cu g' M' H' l σ := ⟨a, h.lr.evo h.abs.len e, h.cu.evo h.abs.len e⟩

theorem Post.evo {rel : Rel α β} {r : Res α} {Q : β → Hp → Prop} (hl : g.R.length = M.length) (e : Evo g M H g1 M1 H1) (h : Post G Wi rel g M H σ r Q) : Post G Wi rel g1 M1 H1 σ r Q := by
  cases r with
  | ok w M' => exact fun g' v H' a e' q => h g' v H' a (e.trans hl e') q
  | exc c ns ws M' => exact fun g' cls d H' a e' q => h g' cls d H' a (e.trans hl e') q
  | err => exact h
theorem Post.imp {rel : Rel α β} {r : Res α} {Q Q' : β → Hp → Prop} (h : Post G Wi rel g M H σ r Q) (k : ∀ b H', Q b H' → Q' b H') : Post G Wi rel g M H σ r Q' := by
  cases r with
  | ok w M' => exact fun g' v H' a e q => k _ _ (h g' v H' a e q)
  | exc c ns ws M' => exact h
  | err => exact h
/-- first r, then f -/
theorem Post.bind {rel1 : Rel α β} {rel2 : Rel γ δ} {r : Res α} {f : α → Store → Res γ} {Q : δ → Hp → Prop} (hl : g.R.length = M.length) (h : Post G Wi rel2 g M H σ (r.bind f) Q) :
    Post G Wi rel1 g M H σ r (fun b H1 => ∃ g1 M1 a, Abs G g1 M1 H1 ∧ Evo g M H g1 M1 H1 ∧ rel1 g1 M1 H1 a b ∧ Post G Wi rel2 g1 M1 H1 σ (f a M1) Q) := by
  cases r with
  | ok w M' => exact fun g' v H' a e q => ⟨g', M', w, a, e, q, Post.evo hl e h⟩
  | exc c ns ws M' => exact h
  | err => exact h
theorem Post.need {o : Option α} {f : α → Res γ} {rel2 : Rel γ δ} {Q : δ → Hp → Prop} (h : Post G Wi rel2 g M H σ (need o f) Q) : ∃ a, o = some a ∧ Post G Wi rel2 g M H σ (f a) Q := by
  cases o with
  | none => exact h.elim
  | some a => exact ⟨a, rfl, h⟩
/-- the text's first part by its own reading -/
theorem TOf.bind {rel1 : Rel α β} {rel2 : Rel γ δ} {fa : LM → Store → Res α} {f : LM → α → Store → Res γ} {Q : δ → Hp → Prop} (h : TOf G cu Wi rel2 (fun l M => (fa l M).bind (f l)) σ H Q) :
    TOf G cu Wi rel1 fa σ H (fun b H1 => ∃ g1 M1 l a, At G cu g1 M1 H1 l σ ∧ rel1 g1 M1 H1 a b ∧ Post G Wi rel2 g1 M1 H1 σ (f l a M1) Q) := by
  obtain ⟨g, M, l, a, p⟩ := h
  refine ⟨g, M, l, a, (p.bind a.abs.len).imp fun b H1 ⟨g1, M1, x, a1, e1, r1, p1⟩ => ⟨g1, M1, l, x, a.evo a1 e1, r1, p1⟩⟩
theorem TOf.imp {rel : Rel α β} {f : LM → Store → Res α} {Q Q' : β → Hp → Prop} (h : TOf G cu Wi rel f σ H Q) (k : ∀ b H', Q b H' → Q' b H') : TOf G cu Wi rel f σ H Q' := by
  obtain ⟨g, M, l, a, p⟩ := h
  exact ⟨g, M, l, a, p.imp k⟩
/-- an answer at hand -/
theorem Post.now {rel : Rel α β} {w : α} {v : β} {Q : β → Hp → Prop} (h : Post G Wi rel g M H σ (.ok w M) Q) (a : Abs G g M H) (r : rel g M H w v) : Q v H := h g v H a Evo.refl r

theorem _root_.L2.PE.imp {X : Cx} {e : Expr} {t t' : TE} (h : PE X e t) (k : ∀ σ H Q, t' σ H Q → t σ H Q) : PE X e t' := ⟨fun pins s σ H Q I q => h.run pins s σ H Q I (k _ _ _ q)⟩
theorem _root_.L2.PT.imp {X : Cx} {e : Expr} {t t' : TT} (h : PT X e t) (k : ∀ σ H Q, t' σ H Q → t σ H Q) : PT X e t' := ⟨fun pins s σ H Q I q => h.run pins s σ H Q I (k _ _ _ q)⟩
theorem _root_.L2.PA.imp {X : Cx} {e : List Expr} {t t' : TA} (h : PA X e t) (k : ∀ σ H Q, t' σ H Q → t σ H Q) : PA X e t' := ⟨fun pos pins s σ H Q I q => h.run pos pins s σ H Q I (k _ _ _ q)⟩
theorem _root_.L2.PS.imp {X : Cx} {e : Stmt} {t t' : TS} (h : PS X e t) (k : ∀ D σ H, t' D σ H → t D σ H) : PS X e t' := ⟨fun pins s σ H D I q => h.run pins s σ H D I (k _ _ _ q)⟩
theorem _root_.L2.PSs.imp {X : Cx} {e : List Stmt} {t t' : TS} (h : PSs X e t) (k : ∀ D σ H, t' D σ H → t D σ H) : PSs X e t' := ⟨fun pins s σ H D I q => h.run pins s σ H D I (k _ _ _ q)⟩

/-! ### new objects -/
theorem Abs.fresh {p : Addr} {o : HO} (a : Abs G g M H) (hp : H p = none) : Abs G g M (upd H p o) ∧ Evo g M H g M (upd H p o) := by
  have e : Evo g M H g M (upd H p o) := ⟨⟨[], by simp, by simp⟩, rfl, Nat.le_refl _, fun _ _ h _ => h, fun b u h _ => by rw [upd_ne (ne_of_none h hp)]; exact h, fun b h => by
    by_cases hb : b = p
    · subst hb; rw [upd_same]; simp
    · rw [upd_ne hb]; exact h⟩
  refine ⟨⟨a.len, a.nd, a.nz, fun b hb => e.dom b (a.zd b hb), fun i c b h1 h2 => (a.cell i c b h1 h2).evo a.len e fun o h => ?_⟩, e⟩
  rw [upd_ne (ne_of_none h hp)]; exact h
theorem Abs.cellNe {p : Addr} (a : Abs G g M H) (hp : H p = none) : p ∉ g.R := fun hm => by
  obtain ⟨i, hi, e⟩ := List.mem_iff_getElem.mp hm
  have h1 : g.R[i]? = some p := by rw [List.getElem?_eq_getElem hi, e]
  obtain ⟨c, hc⟩ : ∃ c, M[i]? = some c := ⟨_, List.getElem?_eq_getElem (by rw [← a.len]; exact hi)⟩
  have := a.cell i c p hc h1
  cases h : c.con with
  | lst ws => rw [h] at this; obtain ⟨vs, q, _⟩ := this; rw [hp] at q; cases q
  | dct ks ws => rw [h] at this; obtain ⟨vs, q, _⟩ := this; rw [hp] at q; cases q
  | obj c ns ws => rw [h] at this; obtain ⟨_, _, _, _, q, _⟩ := this; rw [hp] at q; cases q
theorem Abs.fro {p : Addr} (a : Abs G g M H) (hp : H p = none) : Fro g M p := by
  refine ⟨fun h => a.zd p h hp, fun i c h1 _ => ?_⟩
  exact absurd (List.mem_of_getElem? h1) (a.cellNe hp)
/-- a new frozen list -/
theorem Abs.newLst {p : Addr} {ws : List W} {vs : List V} (a : Abs G g M H) (hp : H p = none) (r : RWs G g M H ws vs) :
    Abs G g M (upd H p (.lst vs)) ∧ Evo g M H g M (upd H p (.lst vs)) ∧ RW G g M (upd H p (.lst vs)) (.lst ws) (.ref p) := by
  obtain ⟨a1, e1⟩ := a.fresh (o := .lst vs) hp
  exact ⟨a1, e1, p, vs, rfl, ⟨.inl upd_same, a.fro hp⟩, r.evo a.len e1⟩
theorem Abs.newTup {p : Addr} {ws : List W} {vs : List V} (a : Abs G g M H) (hp : H p = none) (r : RWs G g M H ws vs) :
    Abs G g M (upd H p (.tup vs)) ∧ Evo g M H g M (upd H p (.tup vs)) ∧ RW G g M (upd H p (.tup vs)) (.tup ws) (.ref p) := by
  obtain ⟨a1, e1⟩ := a.fresh (o := .tup vs) hp
  exact ⟨a1, e1, p, vs, rfl, .inl ⟨.inl upd_same, a.fro hp⟩, r.evo a.len e1⟩
theorem Abs.newDct {p : Addr} {ws : List W} {kvs : List (Key × V)} (a : Abs G g M H) (hp : H p = none) (r : RWs G g M H ws (kvs.map (·.2))) :
    Abs G g M (upd H p (.dK kvs)) ∧ Evo g M H g M (upd H p (.dK kvs)) ∧ RW G g M (upd H p (.dK kvs)) (.dct (kvs.map (·.1)) ws) (.ref p) := by
  obtain ⟨a1, e1⟩ := a.fresh (o := .dK kvs) hp
  exact ⟨a1, e1, p, kvs, rfl, upd_same, a.fro hp, rfl, r.evo a.len e1⟩
/-- a new cell -/
theorem Abs.push {p : Addr} {o : HO} {c : Con} (a : Abs G g M H) (hp : H p = none) (hc : ∀ g' M', Evo g M H g' M' (upd H p o) → CellAt G g' M' (upd H p o) p c) :
    Abs G ⟨g.R ++ [p], g.Z⟩ (M ++ [⟨true, c⟩]) (upd H p o) ∧ Evo g M H ⟨g.R ++ [p], g.Z⟩ (M ++ [⟨true, c⟩]) (upd H p o) := by
  have e : Evo g M H ⟨g.R ++ [p], g.Z⟩ (M ++ [⟨true, c⟩]) (upd H p o) := by
    refine ⟨⟨[p], rfl, by simpa using hp⟩, rfl, by simp, fun i c h _ => by rw [List.getElem?_append_left (List.getElem?_eq_some_iff.mp h).1]; exact h, fun b u h _ => by rw [upd_ne (ne_of_none h hp)]; exact h, fun b h => ?_⟩
    by_cases hb : b = p
    · subst hb; rw [upd_same]; simp
    · rw [upd_ne hb]; exact h
  refine ⟨⟨by simp [a.len], ?_, fun b hb => ?_, fun b hb => e.dom b (a.zd b hb), fun i c' b h1 h2 => ?_⟩, e⟩
  · refine List.nodup_append.mpr ⟨a.nd, by simp, fun x hx y hy => ?_⟩
    simp at hy; subst hy
    exact fun q => a.cellNe hp (q ▸ hx)
  · intro hm
    rcases List.mem_append.mp hm with h | h
    · exact a.nz b hb h
    · simp at h; subst h; exact a.zd _ hb hp
  · by_cases hi : i < M.length
    · rw [List.getElem?_append_left hi] at h1
      rw [List.getElem?_append_left (by rw [a.len]; exact hi)] at h2
      refine (a.cell i c' b h1 h2).evo a.len e fun o h => ?_
      rw [upd_ne (ne_of_none h hp)]; exact h
    · rw [List.getElem?_append_right (by omega)] at h1
      rw [List.getElem?_append_right (by rw [a.len]; omega), a.len] at h2
      by_cases h0 : i - M.length = 0
      · rw [h0] at h1 h2
        simp at h1 h2
        subst h1 h2
        exact hc _ _ e
      · rw [List.getElem?_eq_none (by simp; omega)] at h1; cases h1
theorem Post.newL {fz : Bool} {ws : List W} {vs : List V} {Q : V → Hp → Prop} {p : Addr} (a : Abs G g M H) (r : RWs G g M H ws vs) (h : Post G Wi (RW G) g M H σ (newL fz ws M) Q) (hp : H p = none) : Q (.ref p) (upd H p (.lst vs)) := by
  cases fz with
  | true =>
    obtain ⟨a1, e1, r1⟩ := a.newLst hp r
    exact h _ _ _ a1 e1 r1
  | false =>
    obtain ⟨a1, e1⟩ := a.push (o := .lst vs) (c := .lst ws) hp fun g' M' e => ⟨vs, upd_same, r.evo a.len e⟩
    exact h _ _ _ a1 e1 ⟨p, by rw [← a.len]; simp, rfl⟩
theorem Post.newD {fz : Bool} {ks : List Key} {ws : List W} {kvs : List (Key × V)} {Q : V → Hp → Prop} {p : Addr} (a : Abs G g M H) (hk : kvs.map (·.1) = ks) (r : RWs G g M H ws (kvs.map (·.2))) (h : Post G Wi (RW G) g M H σ (newD fz ks ws M) Q) (hp : H p = none) : Q (.ref p) (upd H p (.dK kvs)) := by
  subst hk
  cases fz with
  | true =>
    obtain ⟨a1, e1, r1⟩ := a.newDct hp r
    exact h _ _ _ a1 e1 r1
  | false =>
    obtain ⟨a1, e1⟩ := a.push (o := .dK kvs) (c := .dct (kvs.map (·.1)) ws) hp fun g' M' e => ⟨kvs, upd_same, rfl, r.evo a.len e⟩
    exact h _ _ _ a1 e1 ⟨p, by rw [← a.len]; simp, rfl⟩
end
end PyI
namespace PyI
open PySem PySem.Spec PyProof.Rows L2
section
variable {G : GE} {cu : Option Cu} {Wi : WX} {g g' g1 : Gh} {M M' M1 : Store} {H H' H1 : Hp} {σ : L2.St} {l : LM}

theorem vL_ok {w : W} {ws : List W} {v : V} (a : Abs G g M H) (h : vL M w = some ws) (r : RW G g M H w v) : ∃ p vs, v = .ref p ∧ Rd H p (.lst vs) ∧ RWs G g M H ws vs := by
  cases w with
  | lst us =>
    obtain ⟨p, vs, rfl, h2, h3⟩ := r
    cases h
    exact ⟨p, vs, rfl, h2.1, h3⟩
  | ref n =>
    obtain ⟨p, h1, rfl⟩ := r
    cases hc : M[n]? with
    | none => simp [vL, hc] at h
    | some c =>
      obtain ⟨lv, cn⟩ := c
      have := a.cell n _ p hc h1
      cases cn with
      | lst us =>
        simp [vL, hc, conL] at h
        subst h
        obtain ⟨vs, h2, h3⟩ := this
        exact ⟨p, vs, rfl, .of h2, h3⟩
      | _ => simp [vL, hc, conL] at h
  | _ => simp [vL] at h
/-- a live or frozen list that stands by itself (not the script, not the written part's): wanted where a rule asks for H -/
theorem ints_rws : ∀ ns : List Int, RWs G g M H (ns.map .int) (ns.map V.int)
  | [] => rfl
  | i :: ns => .cons rfl (ints_rws ns)
theorem vS_ok {w : W} {ws : List W} {v : V} (a : Abs G g M H) (h : vS M w = some ws) (r : RW G g M H w v) : ∃ p vs, v = .ref p ∧ (SqL G.K H p vs ∨ SqT G.K H p vs) ∧ RWs G g M H ws vs := by
  cases w with
  | tup us =>
    obtain ⟨p, vs, rfl, h2, h3⟩ := r
    cases h
    exact ⟨p, vs, rfl, .inr h2.sq, h3⟩
  | lst us =>
    obtain ⟨p, vs, e, h2, h3⟩ := vL_ok a (show vL M (.lst us) = some ws from h) r
    exact ⟨p, vs, e, .inl (.inl h2), h3⟩
  | scr ns =>
    obtain ⟨p, rfl, h2⟩ := r
    cases h
    exact ⟨p, _, rfl, .inl h2.sq, ints_rws ns⟩
  | ref n =>
    obtain ⟨p, vs, e, h2, h3⟩ := vL_ok a (show vL M (.ref n) = some ws from h) r
    exact ⟨p, vs, e, .inl (.inl h2), h3⟩
  | _ => simp [vS] at h
theorem vD_ok {w : W} {ks : List Key} {ws : List W} {v : V} (a : Abs G g M H) (h : vD M w = some (ks, ws)) (r : RW G g M H w v) : ∃ p kvs, v = .ref p ∧ H p = some (.dK kvs) ∧ kvs.map (·.1) = ks ∧ RWs G g M H ws (kvs.map (·.2)) := by
  cases w with
  | dct us xs =>
    obtain ⟨p, kvs, rfl, h2, h3, h4, h5⟩ := r
    cases h
    exact ⟨p, kvs, rfl, h2, h4, h5⟩
  | ref n =>
    obtain ⟨p, h1, rfl⟩ := r
    cases hc : M[n]? with
    | none => simp [vD, hc] at h
    | some c =>
      obtain ⟨lv, cn⟩ := c
      have := a.cell n _ p hc h1
      cases cn with
      | dct us xs =>
        simp [vD, hc, conD] at h
        obtain ⟨rfl, rfl⟩ := h
        obtain ⟨kvs, h2, h3, h4⟩ := this
        exact ⟨p, kvs, rfl, h2, h3, h4⟩
      | _ => simp [vD, hc, conD] at h
  | _ => simp [vD] at h
theorem vO_ok {w : W} {c : Str} {ns : List Str} {ws : List W} {v : V} (a : Abs G g M H) (h : vO M w = some (c, ns, ws)) (r : RW G g M H w v) : ∃ p C dx fs, v = .ref p ∧ G.cA c = some C ∧ H p = some (.ins C dx fs) ∧ fs.map (·.1) = ns ∧ RWs G g M H ws (fs.map (·.2)) := by
  cases w with
  | obj c' ns' xs =>
    obtain ⟨p, C, dx, fs, rfl, h2, h3, h4, h5, h6⟩ := r
    cases h
    exact ⟨p, C, dx, fs, rfl, h2, h3, h5, h6⟩
  | ref n =>
    obtain ⟨p, h1, rfl⟩ := r
    cases hc : M[n]? with
    | none => simp [vO, hc] at h
    | some c =>
      obtain ⟨lv, cn⟩ := c
      have := a.cell n _ p hc h1
      cases cn with
      | obj c2 ns2 ws2 =>
        simp [vO, hc, conO] at h
        obtain ⟨rfl, rfl, rfl⟩ := h
        obtain ⟨C, dx, fs, h2, h3, h4, h5⟩ := this
        exact ⟨p, C, dx, fs, rfl, h2, h3, h4, h5⟩
      | _ => simp [vO, hc, conO] at h
  | _ => simp [vO] at h

/-! ### truth -/
theorem isEmpty_RWs {ws : List W} {vs : List V} (r : RWs G g M H ws vs) : ws.isEmpty = vs.isEmpty := by
  cases ws with
  | nil => rw [show vs = [] from r]; rfl
  | cons w ws => obtain ⟨v, x, rfl, _⟩ := r; rfl
theorem tru_of {w : W} {k : Bool} {v : V} (a : Abs G g M H) (h : truW M w = some k) (r : RW G g M H w v) : TruV G.K v H k := by
  cases w with
  | non => rw [show v = .non from r]; cases h; exact rfl
  | bl b => rw [show v = .bl b from r]; cases h; exact rfl
  | int i => rw [show v = .int i from r]; cases h; exact rfl
  | str x =>
    rw [show v = .str x from r]
    simp only [truW] at h
    split at h
    · rename_i hx
      cases h
      refine ⟨hx, ?_⟩
      rw [Bool.eq_iff_iff]
      simp
    · cases h
  | tup ws =>
    obtain ⟨p, vs, rfl, h2, h3⟩ := r
    cases h
    exact .inr (.inl ⟨vs, h2.sq, by rw [isEmpty_RWs h3]⟩)
  | lst ws =>
    obtain ⟨p, vs, rfl, h2, h3⟩ := r
    cases h
    exact .inl ⟨vs, h2.sq, by rw [isEmpty_RWs h3]⟩
  | ref n =>
    obtain ⟨ws, h1, h2⟩ : ∃ ws, vL M (.ref n) = some ws ∧ k = !ws.isEmpty := by
      simp only [truW, Option.map_eq_some_iff] at h
      obtain ⟨ws, h1, h2⟩ := h
      exact ⟨ws, h1, h2.symm⟩
    obtain ⟨p, vs, rfl, h3, h4⟩ := vL_ok a h1 r
    exact .inl ⟨vs, .inl h3, by rw [h2, isEmpty_RWs h4]⟩
  | _ => cases h
/-- a test by truth -/
theorem pt_dfl {X : Cx} {e : Expr} {f : LM → Store → Res W} (hK : X.K = G.K) (h : PE X e (TEof G cu Wi f)) (he : ∀ whole, isTrue e X.env whole = (do let v ← whole; standAt e.pos; holding [v] (truthy v))) : PT X e (TTof G cu Wi (dflT f)) := by
  refine (pt_truth h he).imp fun σ H Q q => ?_
  refine (TOf.bind (f := fun _ w M1 => need (truW M1 w) fun k => .ok k M1) (rel1 := RW G) q).imp fun v H1 ⟨g1, M1, l, w, a1, r1, p⟩ => ?_
  obtain ⟨k, hk, p⟩ := p.need
  exact ⟨k, hK ▸ tru_of a1.abs hk r1, p.now a1.abs rfl⟩

/-! ### two-place operations by values -/
/-- the rule r serves the function f -/
def Serves2 (G : GE) (r : R2) (f : W → W → Store → Res W) : Prop := ∀ (Wi : WX) (σ : L2.St) (g : Gh) (M : Store) (H : Hp) (x y : W) (v u : V) (Q : VK), Abs G g M H → RW G g M H x v → RW G g M H y u → Post G Wi (RW G) g M H σ (f x y M) Q → r v u H Q
theorem tOp_of {r : R2} {f : W → W → Store → Res W} {sa sb : Sm} {Q : VK} (hs : Serves2 G r f) (h : TEof G cu Wi (fun l M => (evEs [sa, sb] l M).bind fun vs M1 => match vs with | [x, y] => f x y M1 | _ => .err) σ H Q) : tOp r (TEof G cu Wi sa.v) (TEof G cu Wi sb.v) σ H Q := by
  obtain ⟨g, M, l, a, p⟩ := h
  refine ⟨g, M, l, a, ?_⟩
  have p1 : Post G Wi (RW G) g M H σ ((sa.v l M).bind fun x M1 => (sb.v l M1).bind fun y M2 => f x y M2) Q := by
    simp only [evEs] at p
    cases h1 : sa.v l M with
    | ok x M1 =>
      simp only [h1, Res.bind] at p ⊢
      cases h2 : sb.v l M1 with
      | ok y M2 => simpa only [h2, Res.bind] using p
      | exc c ns ws M2 => simpa only [h2, Res.bind] using p
      | err => simpa only [h2, Res.bind] using p
    | exc c ns ws M1 => simpa only [h1, Res.bind] using p
    | err => simpa only [h1, Res.bind] using p
  refine (p1.bind (rel1 := RW G) a.abs.len).imp fun v H1 ⟨g1, M1, x, a1, e1, r1, p2⟩ => ?_
  have at1 := a.evo a1 e1
  refine ⟨g1, M1, l, at1, (p2.bind (rel1 := RW G) a1.len).imp fun u H2 ⟨g2, M2, y, a2, e2, r2, p3⟩ => ?_⟩
  exact hs Wi σ g2 M2 H2 x y v u Q a2 (r1.evo a1.len e2) r2 p3
end
end PyI
namespace PyI
open PySem PySem.Spec PyProof.Rows L2

/-! ### list + list, list * int, of lists that stand -/
section
variable {X : Cx} {pins : List (Addr × Obj)} {σ : L2.St} {H : Hp} {s : Shared} {l : Addr} {xs ys : List V}
theorem Inv_lstR (I : Inv X pins σ H s) (hH : Rd H l (.lst xs)) : xs.length ≤ sizeLine ∧ ∃ (its : List Value) (n : Nat), Vals xs its ∧ xs.length = its.length ∧ s.heap.get? l = some { cls := .type "list", data := .seq its.toArray n } := by
  obtain ⟨z, its, n, r, e⟩ := hH.ok I.hok
  exact ⟨z, its, n, r, r.length, e⟩
def rCatR : R2 := fun x y H Q => ∃ l b xs zs, x = .ref l ∧ y = .ref b ∧ Rd H l (.lst xs) ∧ Rd H b (.lst zs) ∧ xs.length + zs.length ≤ sizeLine ∧ ∀ p, H p = none → Q (.ref p) (upd H p (.lst (xs ++ zs)))
theorem op_catR : OpR X (binaryOp .Add) rCatR := by
  intro pins s σ H x y v u Q I rx ry h
  obtain ⟨l, b, xs, zs, rfl, rfl, hH, hB, hz, q⟩ := h
  cases rx
  cases ry
  obtain ⟨z, its, n, r, hl, e⟩ := Inv_lstR I hH
  obtain ⟨z2, its2, n2, r2, hl2, e2⟩ := Inv_lstR I hB
  refine PySem.P.add_list e e2 ?_ (by rw [List.size_toArray, List.size_toArray]; omega)
  have ea : its.toArray ++ its2.toArray = (its ++ its2).toArray := by simp
  rw [ea]
  exact ⟨.ref _, _, I.lnew (t' := s.toks) (r.append r2) (by rw [List.length_append]; omega), rfl, q _ I.fresh⟩
def rRepR : R2 := fun x y H Q => ∃ l k xs, x = .ref l ∧ y = .int k ∧ Rd H l (.lst xs) ∧ -(2 ^ 63) ≤ k ∧ k < 2 ^ 63 ∧ xs.length * k.toNat ≤ sizeLine ∧
  ∀ p, H p = none → Q (.ref p) (upd H p (.lst (List.replicate k.toNat xs).flatten))
theorem op_repR : OpR X (binaryOp .Mult) rRepR := by
  intro pins s σ H x y v u Q I rx ry h
  obtain ⟨l, k, xs, rfl, rfl, hH, h1, h2, hz, q⟩ := h
  cases rx
  obtain ⟨t, rfl⟩ := ry
  obtain ⟨z, its, n, r, hl, e⟩ := Inv_lstR I hH
  have hlen : its.toArray.size * k.toNat ≤ sizeLine := by rw [List.size_toArray, ← hl]; exact hz
  have hcap : ¬ its.toArray.size * k.toNat > (2 ^ 63 - 1) / 8 := by
    have : (sizeLine : Nat) ≤ (2 ^ 63 - 1) / 8 := by decide
    omega
  have hfit : ¬ (!Builtin.List.listFitsIndex k) = true := by
    rw [fitsIndex_both h1 h2]
    exact Bool.false_ne_true
  have hlong : ¬ Builtin.List.listTooLong (its.toArray.size * k.toNat) = true := by
    rw [notLongL hlen]
    exact Bool.false_ne_true
  have hnew : List.foldl (fun x1 x2 => x1 ++ x2) #[] (List.replicate (if its.toArray.isEmpty = true then 0 else k.toNat) its.toArray) = (List.replicate k.toNat its).flatten.toArray := by
    have f0 : ∀ m : Nat, List.foldl (fun x1 x2 => x1 ++ x2) #[] (List.replicate m its.toArray) = (List.replicate m its).flatten.toArray := fun m => by
      have := foldl_rep its m []
      rw [List.nil_append] at this
      exact this
    rw [f0]
    cases its with
    | nil => simp
    | cons a r' => rw [if_neg (by simp)]
  refine wpAny_binaryOp_repeat_ref (T := "list") (U := "int") (by decide) ⟨_, e, rfl⟩ (fun s' => typeIs_int s' k t) noFill_list_mul F.fills_int_mul F.slot_int_rmul repeat_list F.slot_int_index.lookup
    (call_meets F.slot_int_rmul (typeIs_int s k t) F.entry_int_rmul (F.args_int_rmul_2 _ _) (int___rmul___int_list k t l its.toArray n)
      ⟨e, rfl, ⟨_, e, rfl⟩, call_meets F.slot_list_mul ⟨_, e, rfl⟩ F.entry_list_mul (F.args_list_mul_2 _ _) (AutoListH.list___mul___list_int_3 l its.toArray n k t hfit hcap hlong) ⟨e, ?_⟩⟩)
  rw [hnew]
  exact ⟨.ref _, _, I.lnew (t' := s.toks) (r.rep k.toNat) (by rw [PyProof.Rows.lm_len_rep_flat, Nat.mul_comm]; exact hz), rfl, q _ I.fresh⟩
end

def rNo : R2 := fun _ _ _ _ => False
def rBin (K : PySem.W.Frag) : Operator → R2
  | .Add => fun x y H Q => (rI0 (fun i j => .int (i + j)) x y H Q ∨ (∃ i j, x = .str i ∧ y = .str j ∧ i.length + j.length ≤ sizeLine ∧ Q (.str (i ++ j)) H)) ∨ (rCatA K x y H Q ∨ rCatR x y H Q)
  | .Sub => rI0 fun i j => .int (i - j)
  | .Mult => fun x y H Q => rI CMul (fun i j => .int (i * j)) x y H Q ∨ rRepR x y H Q
  | .FloorDiv => rI CDiv fun i j => .int (i / j)
  | .Mod => rI (fun _ j => 0 < j) fun i j => .int (i % j)
  | .Pow => rI CPow fun i j => .int (i ^ j.toNat)
  | _ => rNo
theorem op_no {X : Cx} {f : Value → Value → Sem Value} : OpR X f rNo := fun _ _ _ _ _ _ _ _ _ _ _ _ h => h.elim
theorem op_bin {X : Cx} (op : Operator) : OpR X (binaryOp op) (rBin X.K op) := by
  cases op with
  | Add => exact (op_add.or op_add_str).or (op_catA.or op_catR)
  | Sub => exact op_sub
  | Mult => exact op_mul.or op_repR
  | FloorDiv => exact op_fdiv
  | Mod => exact op_mod
  | Pow => exact op_pow
  | _ => exact op_no

section
variable {G : GE} {cu : Option Cu} {Wi : WX} {g g' g1 : Gh} {M M' M1 : Store} {H H' H1 : Hp} {σ : L2.St} {l : LM}
theorem RWs.repl {ws : List W} {vs : List V} (r : RWs G g M H ws vs) : ∀ k : Nat, RWs G g M H (List.replicate k ws).flatten (List.replicate k vs).flatten
  | 0 => rfl
  | k + 1 => by
    rw [List.replicate_succ, List.replicate_succ, List.flatten_cons, List.flatten_cons]
    exact r.append (RWs.repl r k)
theorem Post.no {α β : Type} {rel : Rel α β} {Q : β → Hp → Prop} (h : Post G Wi rel g M H σ .err Q) : False := h
theorem serves_bin {op : Operator} {fz : Bool} : Serves2 G (rBin G.K op) (binW op fz) := by
  intro Wi σ g M H x y v u Q a rx ry p
  cases op with
  | Add =>
    have lists : ∀ {x y : W} {v u : V}, RW G g M H x v → RW G g M H y u → Post G Wi (RW G) g M H σ (need (vL M x) fun x => need (vL M y) fun y => if x.length + y.length ≤ sizeLine then newL fz (x ++ y) M else .err) Q → rBin G.K .Add v u H Q := by
      intro x y v u rx ry p
      obtain ⟨xs, hx, p⟩ := p.need
      obtain ⟨ys, hy, p⟩ := p.need
      obtain ⟨b, vs, rfl, h1, h2⟩ := vL_ok a hx rx
      obtain ⟨c, us, rfl, h3, h4⟩ := vL_ok a hy ry
      split at p
      · rename_i hz
        exact .inr (.inr ⟨b, c, vs, us, rfl, rfl, h1, h3, by rw [← h2.length, ← h4.length]; exact hz, fun q hq => Post.newL a (h2.append h4) p hq⟩)
      · exact p.no.elim
    cases x with
    | int i =>
      cases y with
      | int j =>
        rw [show v = .int i from rx, show u = .int j from ry]
        exact .inl (.inl ⟨i, j, rfl, rfl, p.now a rfl⟩)
      | _ => exact lists rx ry p
    | str i =>
      cases y with
      | str j =>
        rw [show v = .str i from rx, show u = .str j from ry]
        simp only [binW] at p
        split at p
        · rename_i hz
          exact .inl (.inr ⟨i, j, rfl, rfl, hz, p.now a rfl⟩)
        · exact p.no.elim
      | _ => exact lists rx ry p
    | tup xs =>
      cases y with
      | tup ys =>
        obtain ⟨b, vs, rfl, h1, h2⟩ := rx
        obtain ⟨c, us, rfl, h3, h4⟩ := ry
        simp only [binW] at p
        split at p
        · rename_i hz
          refine .inr (.inl ⟨b, c, vs, us, rfl, rfl, h1.sq, h3.sq, by rw [← h2.length, ← h4.length]; exact hz, fun e => ?_, fun e1 e2 => ?_, fun _ _ q hq => ?_⟩)
          · subst e
            have e : xs = [] := List.eq_nil_of_length_eq_zero (by rw [h2.length]; rfl)
            subst e
            exact p.now a ⟨c, us, rfl, h3, h4⟩
          · subst e2
            have e : ys = [] := List.eq_nil_of_length_eq_zero (by rw [h4.length]; rfl)
            subst e
            rw [List.append_nil] at p
            exact p.now a ⟨b, vs, rfl, h1, h2⟩
          · obtain ⟨a1, e1, r1⟩ := a.newTup hq (h2.append h4)
            exact p _ _ _ a1 e1 r1
        · exact p.no.elim
      | _ => exact lists rx ry p
    | _ => exact lists rx ry p
  | Sub =>
    cases x <;> first | exact p.no.elim | skip
    rename_i i
    cases y <;> first | exact p.no.elim | skip
    rename_i j
    rw [show v = .int i from rx, show u = .int j from ry]
    exact ⟨i, j, rfl, rfl, p.now a rfl⟩
  | Mult =>
    cases y with
    | int k =>
      rw [show u = .int k from ry]
      have lists : ∀ {x : W} {v : V}, RW G g M H x v → Post G Wi (RW G) g M H σ (need (vL M x) fun ws => if -(2 ^ 63) ≤ k ∧ k < 2 ^ 63 ∧ ws.length * k.toNat ≤ sizeLine then newL fz (List.replicate k.toNat ws).flatten M else .err) Q → rBin G.K .Mult v (.int k) H Q := by
        intro x v rx p
        obtain ⟨xs, hx, p⟩ := p.need
        obtain ⟨b, vs, rfl, h1, h2⟩ := vL_ok a hx rx
        split at p
        · rename_i hz
          exact .inr ⟨b, k, vs, rfl, rfl, h1, hz.1, hz.2.1, by rw [← h2.length]; exact hz.2.2, fun q hq => Post.newL a (h2.repl k.toNat) p hq⟩
        · exact p.no.elim
      cases x with
      | int i =>
        rw [show v = .int i from rx]
        simp only [binW] at p
        split at p
        · rename_i hc
          exact .inl ⟨i, k, rfl, rfl, hc, p.now a rfl⟩
        · exact p.no.elim
      | _ => exact lists rx p
    | _ => cases x <;> exact p.no.elim
  | FloorDiv =>
    cases x <;> first | exact p.no.elim | skip
    rename_i i
    cases y <;> first | exact p.no.elim | skip
    rename_i j
    rw [show v = .int i from rx, show u = .int j from ry]
    simp only [binW] at p
    split at p
    · rename_i hc
      exact ⟨i, j, rfl, rfl, hc, p.now a rfl⟩
    · exact p.no.elim
  | Mod =>
    cases x <;> first | exact p.no.elim | skip
    rename_i i
    cases y <;> first | exact p.no.elim | skip
    rename_i j
    rw [show v = .int i from rx, show u = .int j from ry]
    simp only [binW] at p
    split at p
    · rename_i hc
      exact ⟨i, j, rfl, rfl, hc, p.now a rfl⟩
    · exact p.no.elim
  | Pow =>
    cases x <;> first | exact p.no.elim | skip
    rename_i i
    cases y <;> first | exact p.no.elim | skip
    rename_i j
    rw [show v = .int i from rx, show u = .int j from ry]
    simp only [binW] at p
    split at p
    · rename_i hc
      exact ⟨i, j, rfl, rfl, hc, p.now a rfl⟩
    · exact p.no.elim
  | _ => cases x <;> cases y <;> exact p.no.elim
end
end PyI
namespace PyI
open PySem PySem.Spec PyProof.Rows L2
/-! ### values as they are read now (nothing said of later) -/
section
variable (G : GE)
mutual
def RV (g : Gh) (H : Hp) : W → V → Prop
  | .non, v => v = .non
  | .bl b, v => v = .bl b
  | .int i, v => v = .int i
  | .str x, v => v = .str x
  | .tup ws, v => ∃ a vs, v = .ref a ∧ SqT G.K H a vs ∧ RVs g H ws vs
  | .lst ws, v => ∃ a vs, v = .ref a ∧ SqL G.K H a vs ∧ RVs g H ws vs
  | .ref n, v => ∃ a, g.R[n]? = some a ∧ v = .ref a
  | _, _ => True
def RVs (g : Gh) (H : Hp) : List W → List V → Prop
  | [], vs => vs = []
  | w :: ws, vs => ∃ v r, vs = v :: r ∧ RV g H w v ∧ RVs g H ws r
end
end
section
variable {G : GE} {cu : Option Cu} {Wi : WX} {g g' g1 : Gh} {M M' M1 : Store} {H H' H1 : Hp} {σ : L2.St} {l : LM}
mutual
theorem RW.rv : ∀ {w : W} {v : V}, RW G g M H w v → RV G g H w v
  | .non, v, h => h
  | .bl b, v, h => h
  | .int i, v, h => h
  | .str x, v, h => h
  | .tup ws, v, h => by
    obtain ⟨a, vs, h1, h2, h3⟩ := h
    exact ⟨a, vs, h1, h2.sq, RWs.rv h3⟩
  | .lst ws, v, h => by
    obtain ⟨a, vs, h1, h2, h3⟩ := h
    exact ⟨a, vs, h1, h2.sq, RWs.rv h3⟩
  | .ref n, v, h => h
  | .dct ks ws, v, h => True.intro
  | .obj c ns ws, v, h => True.intro
  | .cls c, v, h => True.intro
  | .typ n, v, h => True.intro
  | .scr ns, v, h => True.intro
theorem RWs.rv : ∀ {ws : List W} {vs : List V}, RWs G g M H ws vs → RVs G g H ws vs
  | [], vs, h => h
  | w :: ws, vs, h => by
    obtain ⟨v, r, h1, h2, h3⟩ := h
    exact ⟨v, r, h1, RW.rv h2, RWs.rv h3⟩
end
mutual
theorem RV.res1 (a : Abs G g M H) : ∀ {w : W} {v : V}, RV G g H w v → RV G g H (res1 M w) v
  | .non, v, h => h
  | .bl b, v, h => h
  | .int i, v, h => h
  | .str x, v, h => h
  | .tup ws, v, h => by
    obtain ⟨p, vs, h1, h2, h3⟩ := h
    exact ⟨p, vs, h1, h2, RVs.res1 a h3⟩
  | .lst ws, v, h => by
    obtain ⟨p, vs, h1, h2, h3⟩ := h
    exact ⟨p, vs, h1, h2, RVs.res1 a h3⟩
  | .ref n, v, h => by
    obtain ⟨p, h1, h2⟩ := h
    unfold PyI.res1
    cases hc : (M[n]?).bind fun c => conL c.con with
    | none => exact ⟨p, h1, h2⟩
    | some ws =>
      obtain ⟨q, vs, rfl, h3, h4⟩ := vL_ok a (show vL M (.ref n) = some ws from hc) (show RW G g M H (.ref n) v from ⟨p, h1, h2⟩)
      exact ⟨q, vs, rfl, .inl h3, h4.rv⟩
  | .dct ks ws, v, h => True.intro
  | .obj c ns ws, v, h => True.intro
  | .cls c, v, h => True.intro
  | .typ n, v, h => True.intro
  | .scr ns, v, h => True.intro
theorem RVs.res1 (a : Abs G g M H) : ∀ {ws : List W} {vs : List V}, RVs G g H ws vs → RVs G g H (res1s M ws) vs
  | [], vs, h => h
  | w :: ws, vs, h => by
    obtain ⟨v, r, h1, h2, h3⟩ := h
    exact ⟨v, r, h1, RV.res1 a h2, RVs.res1 a h3⟩
end
mutual
theorem RV.dp : ∀ {w : W} {v : V} {d : PyData}, dataW w = some d → RV G g H w v → Dp G.K H v d
  | .non, v, d, e, h => by cases e; rw [show v = .non from h]; exact .non
  | .bl b, v, d, e, h => by cases e; rw [show v = .bl b from h]; exact .bl b
  | .int i, v, d, e, h => by cases e; rw [show v = .int i from h]; exact .int i
  | .str x, v, d, e, h => by cases e; rw [show v = .str x from h]; exact .str x
  | .tup ws, v, d, e, h => by
    obtain ⟨a, vs, rfl, h2, h3⟩ := h
    simp only [dataW, Option.map_eq_some_iff] at e
    obtain ⟨ds, e1, rfl⟩ := e
    exact .tup h2 (RVs.dp e1 h3)
  | .lst ws, v, d, e, h => by
    obtain ⟨a, vs, rfl, h2, h3⟩ := h
    simp only [dataW, Option.map_eq_some_iff] at e
    obtain ⟨ds, e1, rfl⟩ := e
    exact .lst h2 (RVs.dp e1 h3)
  | .ref n, v, d, e, h => by cases e
  | .dct ks ws, v, d, e, h => by cases e
  | .obj c ns ws, v, d, e, h => by cases e
  | .cls c, v, d, e, h => by cases e
  | .typ n, v, d, e, h => by cases e
  | .scr ns, v, d, e, h => by cases e
theorem RVs.dp : ∀ {ws : List W} {vs : List V} {ds : List PyData}, dataWs ws = some ds → RVs G g H ws vs → DpAll G.K H vs ds
  | [], vs, ds, e, h => by cases e; rw [show vs = [] from h]; exact .nil
  | w :: ws, vs, ds, e, h => by
    obtain ⟨v, r, rfl, h2, h3⟩ := h
    simp only [dataWs, Option.bind_eq_some_iff, Option.map_eq_some_iff] at e
    obtain ⟨d, e1, ds', e2, rfl⟩ := e
    exact .cons (RV.dp e1 h2) (RVs.dp e2 h3)
end
theorem dataM_dp {w : W} {v : V} {d : PyData} (a : Abs G g M H) (h : dataM M w = some d) (r : RW G g M H w v) : Dp G.K H v d :=
  RV.dp h (RV.res1 a (RV.res1 a (RV.res1 a r.rv)))
theorem eqW_ok {x y : W} {v u : V} {k : Bool} (a : Abs G g M H) (h : eqW M x y = some k) (rx : RW G g M H x v) (ry : RW G g M H y u) :
    ∃ d e, Dp G.K H v d ∧ Dp G.K H u e ∧ SeqAt.shaped d = true ∧ SeqAt.shaped e = true ∧ PyData.eqv d e = k := by
  unfold eqW at h
  simp only [Option.bind_eq_some_iff] at h
  obtain ⟨d, h1, e, h2, h3⟩ := h
  split at h3
  · rename_i hs
    cases h3
    obtain ⟨s1, s2⟩ := Bool.and_eq_true_iff.mp hs
    exact ⟨d, e, dataM_dp a h1 rx, dataM_dp a h2 ry, s1, s2, rfl⟩
  · cases h3

/-! ### comparisons -/
def rCmp (K : PySem.W.Frag) : CmpOp → R2
  | .Lt => rI0 fun i j => .bl (decide (i < j))
  | .LtE => rI0 fun i j => .bl (decide (i ≤ j))
  | .Gt => rI0 fun i j => .bl (decide (j < i))
  | .GtE => rI0 fun i j => .bl (decide (j ≤ i))
  | .Eq => rEqD K
  | .NotEq => rNeD K
  | .In => fun x y H Q => (∃ i j, x = .str i ∧ y = .str j ∧ Q (.bl (!(Builtin.Str.occurrences j i 0 j.length 1).isEmpty)) H) ∨ (∃ d ds, Dp K H x d ∧ (Dp K H y (.list ds) ∨ Dp K H y (.tuple ds)) ∧ SeqAt.shaped d = true ∧ SeqAt.shaped (.list ds) = true ∧ Q (.bl (ds.any fun z => PyData.eqv z d)) H)
  | .NotIn => fun x y H Q => (∃ i j, x = .str i ∧ y = .str j ∧ Q (.bl (!(!(Builtin.Str.occurrences j i 0 j.length 1).isEmpty))) H) ∨ (∃ d ds, Dp K H x d ∧ (Dp K H y (.list ds) ∨ Dp K H y (.tuple ds)) ∧ SeqAt.shaped d = true ∧ SeqAt.shaped (.list ds) = true ∧ Q (.bl (!ds.any fun z => PyData.eqv z d)) H)
  | .Is => fun x y H Q => y = .non ∧ Q (.bl (decide (x = .non))) H
  | .IsNot => fun x y H Q => y = .non ∧ Q (.bl (!decide (x = .non))) H
end
theorem canLayT_of_shaped {ds : List PyData} (h : SeqAt.shaped (.list ds) = true) : PyData.canLayAll0 ds = true := SeqAt.canLay_of_shaped (d := .list ds) h
section
variable {X : Cx}
theorem op_inDT (hu : X.A.units + 65 < cLine) : OpR X (compareOp .In) (fun x y H Q => ∃ d ds, Dp X.K H x d ∧ (Dp X.K H y (.list ds) ∨ Dp X.K H y (.tuple ds)) ∧ SeqAt.shaped d = true ∧ SeqAt.shaped (.list ds) = true ∧ Q (.bl (ds.any fun z => PyData.eqv z d)) H) := by
  intro pins s σ H x y v u Q I rx ry h
  obtain ⟨d, ds, hd, he | he, sd, se, q⟩ := h
  · exact op_inD hu pins s σ H x y v u Q I rx ry ⟨d, ds, hd, he, sd, se, q⟩
  · obtain ⟨as, r1⟩ := Dp.reads I d x v hd rx
    obtain ⟨bs, r2⟩ := Dp.reads I (.tuple ds) y u he ry
    exact SeqAt.in_tuple_reads r2 r1 (canLayT_of_shaped se) (SeqAt.canLay_of_shaped sd) (room_in_shaped sd hu) ⟨.bl _, H, I, rfl, q⟩
theorem op_notInDT (hu : X.A.units + 65 < cLine) : OpR X (compareOp .NotIn) (fun x y H Q => ∃ d ds, Dp X.K H x d ∧ (Dp X.K H y (.list ds) ∨ Dp X.K H y (.tuple ds)) ∧ SeqAt.shaped d = true ∧ SeqAt.shaped (.list ds) = true ∧ Q (.bl (!ds.any fun z => PyData.eqv z d)) H) := by
  intro pins s σ H x y v u Q I rx ry h
  obtain ⟨d, ds, hd, he | he, sd, se, q⟩ := h
  · exact op_notInD hu pins s σ H x y v u Q I rx ry ⟨d, ds, hd, he, sd, se, q⟩
  · obtain ⟨as, r1⟩ := Dp.reads I d x v hd rx
    obtain ⟨bs, r2⟩ := Dp.reads I (.tuple ds) y u he ry
    exact SeqAt.notIn_tuple_reads r2 r1 (canLayT_of_shaped se) (SeqAt.canLay_of_shaped sd) (room_in_shaped sd hu) ⟨.bl _, H, I, rfl, q⟩
theorem op_cmp (hu : X.A.units + 65 < cLine) (op : CmpOp) : OpR X (compareOp op) (rCmp X.K op) := by
  cases op with
  | Eq => exact op_eqD (by omega)
  | NotEq => exact op_neD (by omega)
  | Lt => exact op_lt
  | LtE => exact op_le
  | Gt => exact op_gt
  | GtE => exact op_ge
  | Is => exact op_isN
  | IsNot => exact op_notN
  | In => exact op_in_str.or (op_inDT hu)
  | NotIn => exact op_notin_str.or (op_notInDT hu)
end
section
variable {G : GE} {cu : Option Cu} {Wi : WX} {g g' g1 : Gh} {M M' M1 : Store} {H H' H1 : Hp} {σ : L2.St} {l : LM}
theorem inW_ok {x y : W} {v u : V} {k : Bool} (a : Abs G g M H) (h : inW M x y = some k) (rx : RW G g M H x v) (ry : RW G g M H y u) :
    (∃ i j, v = .str i ∧ u = .str j ∧ (!(Builtin.Str.occurrences j i 0 j.length 1).isEmpty) = k) ∨
    (∃ d ds, Dp G.K H v d ∧ (Dp G.K H u (.list ds) ∨ Dp G.K H u (.tuple ds)) ∧ SeqAt.shaped d = true ∧ SeqAt.shaped (.list ds) = true ∧ (ds.any fun z => PyData.eqv z d) = k) := by
  have seqs : ∀ {x y : W} {v u : V}, RW G g M H x v → RW G g M H y u → ((vS M y).bind fun ws => (dataM M x).bind fun d => (dataM M (.lst ws)).bind fun e => match e with
    | .list ds => if SeqAt.shaped d && SeqAt.shaped (.list ds) then some (ds.any fun z => PyData.eqv z d) else none
    | _ => none) = some k → (∃ d ds, Dp G.K H v d ∧ (Dp G.K H u (.list ds) ∨ Dp G.K H u (.tuple ds)) ∧ SeqAt.shaped d = true ∧ SeqAt.shaped (.list ds) = true ∧ (ds.any fun z => PyData.eqv z d) = k) := by
    intro x y v u rx ry h
    simp only [Option.bind_eq_some_iff] at h
    obtain ⟨ws, h1, d, h2, e, h3, h4⟩ := h
    obtain ⟨p, vs, rfl, h5, h6⟩ := vS_ok a h1 ry
    have e3 : ∃ ds, e = .list ds ∧ dataWs (res1s M (res1s M (res1s M ws))) = some ds := by
      simp only [dataM, res1, dataW, Option.map_eq_some_iff] at h3
      obtain ⟨ds, e1, e2⟩ := h3
      exact ⟨ds, e2.symm, e1⟩
    obtain ⟨ds, rfl, e4⟩ := e3
    have dp := RVs.dp e4 (RVs.res1 a (RVs.res1 a (RVs.res1 a h6.rv)))
    have h4 : (if SeqAt.shaped d && SeqAt.shaped (.list ds) then some (ds.any fun z => PyData.eqv z d) else none) = some k := h4
    split at h4
    · rename_i hs
      cases h4
      obtain ⟨s1, s2⟩ := Bool.and_eq_true_iff.mp hs
      rcases h5 with h5 | h5
      · exact ⟨d, ds, dataM_dp a h2 rx, .inl (.lst h5 dp), s1, s2, rfl⟩
      · exact ⟨d, ds, dataM_dp a h2 rx, .inr (.tup h5 dp), s1, s2, rfl⟩
    · cases h4
  cases x with
  | str i =>
    cases y with
    | str j =>
      rw [show v = .str i from rx, show u = .str j from ry]
      cases h
      exact .inl ⟨i, j, rfl, rfl, rfl⟩
    | _ => exact .inr (seqs rx ry h)
  | _ => exact .inr (seqs rx ry h)
theorem serves_cmp {op : CmpOp} : Serves2 G (rCmp G.K op) (cmpW op) := by
  intro Wi σ g M H x y v u Q a rx ry p
  cases op with
  | Eq =>
    have p : Post G Wi (RW G) g M H σ (need (eqW M x y) fun r => .ok (.bl r) M) Q := by
      cases x <;> cases y <;> exact p
    obtain ⟨k, hk, p⟩ := p.need
    obtain ⟨d, e, h1, h2, h3, h4, rfl⟩ := eqW_ok a hk rx ry
    exact ⟨d, e, h1, h2, h3, h4, p.now a rfl⟩
  | NotEq =>
    have p : Post G Wi (RW G) g M H σ (need (eqW M x y) fun r => .ok (.bl (!r)) M) Q := by
      cases x <;> cases y <;> exact p
    obtain ⟨k, hk, p⟩ := p.need
    obtain ⟨d, e, h1, h2, h3, h4, rfl⟩ := eqW_ok a hk rx ry
    exact ⟨d, e, h1, h2, h3, h4, p.now a rfl⟩
  | In =>
    have p : Post G Wi (RW G) g M H σ (need (inW M x y) fun r => .ok (.bl r) M) Q := by
      cases x <;> cases y <;> exact p
    obtain ⟨k, hk, p⟩ := p.need
    rcases inW_ok a hk rx ry with ⟨i, j, rfl, rfl, rfl⟩ | ⟨d, ds, h1, h2, h3, h4, rfl⟩
    · exact .inl ⟨i, j, rfl, rfl, p.now a rfl⟩
    · exact .inr ⟨d, ds, h1, h2, h3, h4, p.now a rfl⟩
  | NotIn =>
    have p : Post G Wi (RW G) g M H σ (need (inW M x y) fun r => .ok (.bl (!r)) M) Q := by
      cases x <;> cases y <;> exact p
    obtain ⟨k, hk, p⟩ := p.need
    rcases inW_ok a hk rx ry with ⟨i, j, rfl, rfl, rfl⟩ | ⟨d, ds, h1, h2, h3, h4, rfl⟩
    · exact .inl ⟨i, j, rfl, rfl, p.now a rfl⟩
    · exact .inr ⟨d, ds, h1, h2, h3, h4, p.now a rfl⟩
  | Is =>
    cases y <;> try (cases x <;> exact p.no.elim)
    have key : ∀ b, v ≠ .non ∧ b = false ∨ v = .non ∧ b = true → decide (v = .non) = b := by
      intro b h
      rcases h with ⟨h, rfl⟩ | ⟨h, rfl⟩ <;> simp [h]
    refine ⟨show u = .non from ry, ?_⟩
    cases x with
    | non => rw [key true (.inr ⟨rx, rfl⟩)]; exact p.now a rfl
    | bl b => rw [key false (.inl ⟨by rw [show v = .bl b from rx]; simp, rfl⟩)]; exact p.now a rfl
    | int b => rw [key false (.inl ⟨by rw [show v = .int b from rx]; simp, rfl⟩)]; exact p.now a rfl
    | str b => rw [key false (.inl ⟨by rw [show v = .str b from rx]; simp, rfl⟩)]; exact p.now a rfl
    | tup b => rw [key false (.inl ⟨by obtain ⟨_, _, e, _⟩ := rx; rw [e]; simp, rfl⟩)]; exact p.now a rfl
    | lst b => rw [key false (.inl ⟨by obtain ⟨_, _, e, _⟩ := rx; rw [e]; simp, rfl⟩)]; exact p.now a rfl
    | dct k b => rw [key false (.inl ⟨by obtain ⟨_, _, e, _⟩ := rx; rw [e]; simp, rfl⟩)]; exact p.now a rfl
    | obj c k b => rw [key false (.inl ⟨by obtain ⟨_, _, _, _, e, _⟩ := rx; rw [e]; simp, rfl⟩)]; exact p.now a rfl
    | ref b => rw [key false (.inl ⟨by obtain ⟨_, _, e⟩ := rx; rw [e]; simp, rfl⟩)]; exact p.now a rfl
    | cls b => rw [key false (.inl ⟨by obtain ⟨_, _, e⟩ := rx; rw [e]; simp, rfl⟩)]; exact p.now a rfl
    | typ b => rw [key false (.inl ⟨by rw [show v = .ty b from rx]; simp, rfl⟩)]; exact p.now a rfl
    | scr b => rw [key false (.inl ⟨by obtain ⟨_, e, _⟩ := rx; rw [e]; simp, rfl⟩)]; exact p.now a rfl
  | IsNot =>
    cases y <;> try (cases x <;> exact p.no.elim)
    have key : ∀ b, v ≠ .non ∧ b = true ∨ v = .non ∧ b = false → (!decide (v = .non)) = b := by
      intro b h
      rcases h with ⟨h, rfl⟩ | ⟨h, rfl⟩ <;> simp [h]
    refine ⟨show u = .non from ry, ?_⟩
    cases x with
    | non => rw [key false (.inr ⟨rx, rfl⟩)]; exact p.now a rfl
    | bl b => rw [key true (.inl ⟨by rw [show v = .bl b from rx]; simp, rfl⟩)]; exact p.now a rfl
    | int b => rw [key true (.inl ⟨by rw [show v = .int b from rx]; simp, rfl⟩)]; exact p.now a rfl
    | str b => rw [key true (.inl ⟨by rw [show v = .str b from rx]; simp, rfl⟩)]; exact p.now a rfl
    | tup b => rw [key true (.inl ⟨by obtain ⟨_, _, e, _⟩ := rx; rw [e]; simp, rfl⟩)]; exact p.now a rfl
    | lst b => rw [key true (.inl ⟨by obtain ⟨_, _, e, _⟩ := rx; rw [e]; simp, rfl⟩)]; exact p.now a rfl
    | dct k b => rw [key true (.inl ⟨by obtain ⟨_, _, e, _⟩ := rx; rw [e]; simp, rfl⟩)]; exact p.now a rfl
    | obj c k b => rw [key true (.inl ⟨by obtain ⟨_, _, _, _, e, _⟩ := rx; rw [e]; simp, rfl⟩)]; exact p.now a rfl
    | ref b => rw [key true (.inl ⟨by obtain ⟨_, _, e⟩ := rx; rw [e]; simp, rfl⟩)]; exact p.now a rfl
    | cls b => rw [key true (.inl ⟨by obtain ⟨_, _, e⟩ := rx; rw [e]; simp, rfl⟩)]; exact p.now a rfl
    | typ b => rw [key true (.inl ⟨by rw [show v = .ty b from rx]; simp, rfl⟩)]; exact p.now a rfl
    | scr b => rw [key true (.inl ⟨by obtain ⟨_, e, _⟩ := rx; rw [e]; simp, rfl⟩)]; exact p.now a rfl
  | _ =>
    cases x <;> first | exact p.no.elim | skip
    rename_i i
    cases y <;> first | exact p.no.elim | skip
    rename_i j
    rw [show v = .int i from rx, show u = .int j from ry]
    exact ⟨i, j, rfl, rfl, p.now a rfl⟩
theorem cmpW_bl {op : CmpOp} {x y : W} {r : W} (h : cmpW op x y M = .ok r M1) : M1 = M ∧ ∃ k, r = .bl k := by
  unfold cmpW at h
  split at h <;> first | (cases h; exact ⟨rfl, _, rfl⟩) | skip
  all_goals first
    | (unfold need at h; split at h <;> first | (cases h; exact ⟨rfl, _, rfl⟩) | cases h)
    | cases h
end
end PyI
namespace PyI
open PySem PySem.Spec PyProof.Rows L2

/-- the built-in names that the text may use -/
def bltNames : List Str := ["len", "list", "tuple", "all", "any", "max", "min", "abs", "divmod", "int", "str", "repr", "sum", "range", "enumerate", "zip", "isinstance", "sorted", "bool", "dict", "set"]
/-- a context that the reader serves -/
structure Good (G : GE) (N : List Str) (sc : Scope) (calm : Bool) (X : Cx) : Prop where
  K : X.K = G.K
  xN : X.N = N
  nd : N.Nodup
  sc : X.env.scope = sc
  blt : ∀ x ∈ bltNames, X.mg x = none
  gd : X.A.guards = some []
  un : X.A.units + 200 < cLine
  calm : calm = true → X.calm = true
def notStar : Expr → Bool
  | .Starred _ _ => false
  | _ => true
/-- what an expression of the text means -/
structure PX (G : GE) (cu : Option Cu) (Wi : WX) (X : Cx) (x : Expr) (s : Sm) : Prop where
  pe : PE X x (TEof G cu Wi s.v)
  pt : PT X x (TTof G cu Wi s.t)
  ns : notStar x = true
inductive PXs (G : GE) (cu : Option Cu) (Wi : WX) (X : Cx) : List Expr → List Sm → Prop
  | nil : PXs G cu Wi X [] []
  | cons {x : Expr} {xs : List Expr} {s : Sm} {ss : List Sm} : PX G cu Wi X x s → PXs G cu Wi X xs ss → PXs G cu Wi X (x :: xs) (s :: ss)

section
variable {G : GE} {cu : Option Cu} {Wi : WX} {X : Cx} {g g' g1 : Gh} {M M' M1 : Store} {H H' H1 : Hp} {σ : L2.St} {l : LM}
theorem PX.of {x : Expr} {v : LM → Store → Res W} (hK : X.K = G.K) (h : PE X x (TEof G cu Wi v)) (he : ∀ whole, isTrue x X.env whole = (do let v ← whole; standAt x.pos; holding [v] (truthy v))) (hs : notStar x = true) : PX G cu Wi X x (.of v) :=
  ⟨h, pt_dfl hK h he, hs⟩
theorem starEach_cons {x : Expr} {xs : List Expr} {env : Env} (h : notStar x = true) : starEach (x :: xs) env = (false, eval x env) :: starEach xs env := by
  cases x <;> first | rfl | cases h
theorem PXs.stars {xs : List Expr} {ss : List Sm} (h : PXs G cu Wi X xs ss) (pos : Pos) : (backTo pos (starEach xs X.env)).any (·.1) = false := by
  induction h with
  | nil => rfl
  | cons h1 _ ih =>
    rw [starEach_cons h1.ns]
    show (false || (backTo pos (starEach _ X.env)).any (·.1)) = false
    rw [ih]
    rfl
/-- the arguments, from the left -/
theorem PXs.pa {xs : List Expr} {ss : List Sm} (h : PXs G cu Wi X xs ss) : PA X xs (TAof G cu Wi (evEs ss)) := by
  induction h with
  | nil =>
    refine pa_nil.imp fun σ H Q ⟨g, M, l, a, p⟩ => ?_
    exact p.now a.abs rfl
  | @cons x xs s ss h1 _ ih =>
    refine (pa_cons h1.pe ih (starEach_cons h1.ns)).imp fun σ H Q q => ?_
    refine (TOf.bind (fa := s.v) (f := fun l w M1 => (evEs ss l M1).bind fun ws M2 => .ok (w :: ws) M2) (rel1 := RW G) q).imp fun v H1 ⟨g1, M1, l, w, a1, r1, p⟩ => ?_
    refine ⟨g1, M1, l, a1, (p.bind (rel1 := RWs G) a1.abs.len).imp fun vs H2 ⟨g2, M2, ws, a2, e2, r2, p2⟩ => ?_⟩
    exact p2.now a2 ⟨v, vs, rfl, r1.evo a1.abs.len e2, r2⟩

/-! ### calls of built-in functions -/
/-- the rule r serves the function f on argument lists -/
def ServesC (G : GE) (r : List V → Hp → VK → Prop) (f : List W → Store → Res W) : Prop := ∀ (Wi : WX) (σ : L2.St) (g : Gh) (M : Store) (H : Hp) (ws : List W) (vs : List V) (Q : VK), Abs G g M H → RWs G g M H ws vs → Post G Wi (RW G) g M H σ (f ws M) Q → r vs H Q
theorem tCB_of {r : List V → Hp → VK → Prop} {f : List W → Store → Res W} {ss : List Sm} {Q : VK} (hs : ServesC G r f) (h : TEof G cu Wi (fun l M => (evEs ss l M).bind f) σ H Q) : tCB r (TAof G cu Wi (evEs ss)) σ H Q :=
  (TOf.bind (fa := evEs ss) (f := fun _ => f) (rel1 := RWs G) h).imp fun vs H1 ⟨g1, M1, l, ws, a1, r1, p⟩ => hs Wi σ g1 M1 H1 ws vs Q a1.abs r1 p

theorem RWs.one_inv {w : W} {vs : List V} (r : RWs G g M H [w] vs) : ∃ v, vs = [v] ∧ RW G g M H w v := by
  obtain ⟨v, r', rfl, h1, h2⟩ := r
  exact ⟨v, by rw [show r' = [] from h2], h1⟩
theorem RWs.two_inv {w x : W} {vs : List V} (r : RWs G g M H [w, x] vs) : ∃ v u, vs = [v, u] ∧ RW G g M H w v ∧ RW G g M H x u := by
  obtain ⟨v, r', rfl, h1, h2⟩ := r
  obtain ⟨u, rfl, h3⟩ := RWs.one_inv h2
  exact ⟨v, u, rfl, h1, h3⟩
theorem RWs.three_inv {w x y : W} {vs : List V} (r : RWs G g M H [w, x, y] vs) : ∃ v u z, vs = [v, u, z] ∧ RW G g M H w v ∧ RW G g M H x u ∧ RW G g M H y z := by
  obtain ⟨v, r', rfl, h1, h2⟩ := r
  obtain ⟨u, z, rfl, h3, h4⟩ := RWs.two_inv h2
  exact ⟨v, u, z, rfl, h1, h3, h4⟩
theorem bls_ok : ∀ {ws : List W} {bs : List Bool} {vs : List V}, blsOf ws = some bs → RWs G g M H ws vs → vs = bs.map V.bl
  | [], bs, vs, h, r => by cases h; exact r
  | w :: ws, bs, vs, h, r => by
    obtain ⟨v, r', rfl, h1, h2⟩ := r
    cases w <;> first | (cases h; done) | skip
    rename_i b
    simp only [blsOf, Option.map_eq_some_iff] at h
    obtain ⟨bs', h3, rfl⟩ := h
    rw [bls_ok h3 h2, show v = .bl b from h1]; rfl
theorem ints_ok : ∀ {ws : List W} {bs : List Int} {vs : List V}, intsOf ws = some bs → RWs G g M H ws vs → vs = bs.map V.int
  | [], bs, vs, h, r => by cases h; exact r
  | w :: ws, bs, vs, h, r => by
    obtain ⟨v, r', rfl, h1, h2⟩ := r
    cases w <;> first | (cases h; done) | skip
    rename_i b
    simp only [intsOf, Option.map_eq_some_iff] at h
    obtain ⟨bs', h3, rfl⟩ := h
    rw [ints_ok h3 h2, show v = .int b from h1]; rfl
theorem strs_ok : ∀ {ws : List W} {bs : List Str} {vs : List V}, strsOf ws = some bs → RWs G g M H ws vs → vs = bs.map V.str
  | [], bs, vs, h, r => by cases h; exact r
  | w :: ws, bs, vs, h, r => by
    obtain ⟨v, r', rfl, h1, h2⟩ := r
    cases w <;> first | (cases h; done) | skip
    rename_i b
    simp only [strsOf, Option.map_eq_some_iff] at h
    obtain ⟨bs', h3, rfl⟩ := h
    rw [strs_ok h3 h2, show v = .str b from h1]; rfl
/-- repr of data -/
def rRepr (K : PySem.W.Frag) : List V → Hp → VK → Prop := fun xs H Q => ∃ x d, xs = [x] ∧ Dp K H x d ∧ d.showable = true ∧ d.shown.length ≤ sizeLine ∧ d.hasDict = false ∧ d.depth ≤ 64 ∧ Q (.str d.shown) H
theorem call_reprD (hg : X.A.guards = some []) (hu : X.A.units + 200 < cLine) : CallR X (.builtin "repr") (rRepr X.K) := by
  intro pins s σ H xs us Q I r h
  obtain ⟨x, d, rfl, hd, hs, hz, hn, hp, q⟩ := h
  obtain ⟨u, rfl, rx⟩ := vals1 r
  obtain ⟨as, rd⟩ := Dp.reads I d x u hd rx
  cases rd with
  | none => exact PySem.P.repr_of_none ⟨.str _, H, I.tok _, ⟨_, rfl⟩, q⟩
  | bool b => exact PySem.P.repr_of_bool ⟨.str _, H, I.tok _, ⟨_, rfl⟩, by cases b <;> exact q⟩
  | int i t =>
    have hi : i.natAbs.log2 < 1920 := by simpa [PyData.showable] using hs
    exact PySem.P.repr_of_int hi ⟨.str _, H, I.tok _, ⟨_, rfl⟩, q⟩
  | str y t => exact PySem.P.repr_of_str ⟨.str _, H, I.tok _, ⟨_, rfl⟩, q⟩ hz
  | list h1 h2 h3 h4 =>
    exact repr_of_reads' (.list h1 h2 h3 h4) hs (fun z => by rw [hn] at z; cases z) hg (by omega) (fun _ _ e => e) (fun h' u tk k => ⟨.str _, H, I.kept (t' := tk) k, ⟨_, rfl⟩, q⟩) hz
  | tuple h1 h2 h3 h4 =>
    exact repr_of_reads' (.tuple h1 h2 h3 h4) hs (fun z => by rw [hn] at z; cases z) hg (by omega) (fun _ _ e => e) (fun h' u tk k => ⟨.str _, H, I.kept (t' := tk) k, ⟨_, rfl⟩, q⟩) hz
  | dict h1 h2 h3 h4 h5 => simp [PyData.hasDict] at hn
end
end PyI
namespace PyI
open PySem PySem.Spec PyProof.Rows L2
def rNoC : List V → Hp → VK → Prop := fun _ _ _ => False
/-- the rules of the built-in functions -/
def rBl (K : PySem.W.Frag) : Bl → List V → Hp → VK → Prop
  | .len => fun xs H Q => (∃ z, xs = [.str z] ∧ z.length ≤ sizeLine ∧ Q (.int z.length) H) ∨ (∃ p ys, xs = [.ref p] ∧ (SqL K H p ys ∨ SqT K H p ys) ∧ Q (.int ys.length) H) ∨ (∃ a kvs, xs = [V.ref a] ∧ H a = some (.dK kvs) ∧ Q (.int kvs.length) H)
  | .list => fun xs H Q => ∃ p ys, xs = [.ref p] ∧ (SqL K H p ys ∨ SqT K H p ys) ∧ ∀ l, H l = none → Q (.ref l) (upd H l (.lst ys))
  | .tuple => fun xs H Q => ∃ p ys, xs = [.ref p] ∧ ((SqL K H p ys ∧ ∀ l, H l = none → Q (.ref l) (upd H l (.tup ys))) ∨ (SqT K H p ys ∧ Q (.ref p) H))
  | .all => rAll K
  | .any => rAny K
  | .max => fun xs H Q => ∃ i j, xs = [.int i, .int j] ∧ Q (.int (if j > i then j else i)) H
  | .min => fun xs H Q => ∃ i j, xs = [.int i, .int j] ∧ Q (.int (if j < i then j else i)) H
  | .abs => fun xs H Q => ∃ i, xs = [.int i] ∧ Q (.int (if i < 0 then -i else i)) H
  | .divmod => fun xs H Q => ∃ i j, xs = [.int i, .int j] ∧ CDiv i j ∧ ∀ p, H p = none → Q (.ref p) (upd H p (.tup [.int (i / j), .int (i % j)]))
  | .int => fun xs H Q => ((∃ i, xs = [.int i] ∧ Q (.int i) H) ∨ ∃ k, xs = [.bl k] ∧ Q (.int (if k then 1 else 0)) H) ∨ (∃ a n, xs = [.str a] ∧ PySem.intText? a = some n ∧ a.length ≤ 640 ∧ Q (.int n) H)
  | .str => fun xs H Q => (∃ i, xs = [.int i] ∧ i.natAbs.log2 < 1920 ∧ Q (.str (toString i)) H) ∨ (∃ a, xs = [.str a] ∧ Q (.str a) H)
  | .repr => rRepr K
  | .sum => rSum K
def Bl.fn : Bl → Value
  | .list => .type "list" | .tuple => .type "tuple" | .int => .type "int" | .str => .type "str"
  | .len => .builtin "len" | .all => .builtin "all" | .any => .builtin "any" | .max => .builtin "max" | .min => .builtin "min" | .abs => .builtin "abs" | .divmod => .builtin "divmod" | .repr => .builtin "repr" | .sum => .builtin "sum"
/-- those that want a frame in which nothing is handled -/
def Bl.calm : Bl → Bool
  | .all | .any | .max | .min | .sum => true
  | _ => false
theorem call_bl {X : Cx} (hg : X.A.guards = some []) (hu : X.A.units + 200 < cLine) (b : Bl) (hc : b.calm = true → X.calm = true) : CallR X b.fn (rBl X.K b) := by
  cases b with
  | len => exact call_len_str.or (call_len_seq.or call_lenD)
  | list => exact call_list_of
  | tuple => exact call_tuple_of
  | all => exact cr_all (hc rfl)
  | any => exact cr_any (hc rfl)
  | max => exact call_max2 (hc rfl)
  | min => exact call_min2 (hc rfl)
  | abs => exact call_abs
  | divmod => exact call_divmod
  | int => exact call_int1.or call_int_str
  | str => exact call_str_int.or SkE.call_str_str
  | repr => exact call_reprD hg hu
  | sum => exact cr_sum (hc rfl)
section
variable {G : GE} {cu : Option Cu} {Wi : WX} {X : Cx} {g g' g1 : Gh} {M M' M1 : Store} {H H' H1 : Hp} {σ : L2.St} {l : LM}
theorem rBl_tup_of {ws : List W} {p : Addr} {vs : List V} {Q : VK} (a : Abs G g M H) (h : Post G Wi (RW G) g M H σ (.ok (.tup ws) M) Q) (r : RWs G g M H ws vs) (hp : H p = none) : Q (.ref p) (upd H p (.tup vs)) := by
  obtain ⟨a1, e1, r1⟩ := a.newTup hp r
  exact h _ _ _ a1 e1 r1
theorem serves_bl {b : Bl} {fz : Bool} : ServesC G (rBl G.K b) (bltW b fz) := by
  intro Wi σ g M H ws vs Q a r p
  match ws, r, p with
  | [], _, p => exact p.no.elim
  | _ :: _ :: _ :: _, _, p => exact p.no.elim
  | [w, x], r, p =>
    obtain ⟨v, u, rfl, h1, h2⟩ := r.two_inv
    cases w <;> first | exact p.no.elim | skip
    rename_i i
    cases x <;> first | exact p.no.elim | skip
    rename_i j
    rw [show v = .int i from h1, show u = .int j from h2]
    cases b <;> first | exact p.no.elim | skip
    · exact ⟨i, j, rfl, p.now a rfl⟩
    · exact ⟨i, j, rfl, p.now a rfl⟩
    · simp only [bltW, bl2] at p
      split at p
      · rename_i hc
        exact ⟨i, j, rfl, hc, fun q hq => rBl_tup_of a p (.cons rfl (.one rfl)) hq⟩
      · exact p.no.elim
  | [w], r, p =>
    obtain ⟨v, rfl, rw⟩ := r.one_inv
    cases b with
    | len =>
      have seqs : ∀ {w : W} {v : V}, RW G g M H w v → Post G Wi (RW G) g M H σ (match vD M w with
        | some (ks, _) => .ok (.int ks.length) M
        | none => need (vS M w) fun ws => .ok (.int ws.length) M) Q → rBl G.K .len [v] H Q := by
        intro w v rw p
        cases hd : vD M w with
        | some kv =>
          obtain ⟨ks, us⟩ := kv
          rw [hd] at p
          obtain ⟨q, kvs, rfl, h1, h2, h3⟩ := vD_ok a hd rw
          refine .inr (.inr ⟨q, kvs, rfl, h1, ?_⟩)
          have e : ks.length = kvs.length := by rw [← h2, List.length_map]
          rw [← e]
          exact p.now a rfl
        | none =>
          rw [hd] at p
          obtain ⟨us, hs, p⟩ := p.need
          obtain ⟨q, vs, rfl, h1, h2⟩ := vS_ok a hs rw
          refine .inr (.inl ⟨q, vs, rfl, h1, ?_⟩)
          rw [← h2.length]
          exact p.now a rfl
      cases w with
      | str x =>
        rw [show v = .str x from rw]
        simp only [bltW, bl1, lenW] at p
        split at p
        · rename_i hz
          exact .inl ⟨x, rfl, hz, p.now a rfl⟩
        · exact p.no.elim
      | _ => exact seqs rw p
    | list =>
      obtain ⟨us, hs, p⟩ := Post.need p
      obtain ⟨q, vs, rfl, h1, h2⟩ := vS_ok a hs rw
      exact ⟨q, vs, rfl, h1, fun l hl => Post.newL a h2 p hl⟩
    | tuple =>
      obtain ⟨us, hs, p2⟩ := Post.need p
      clear p
      cases w with
      | tup us' =>
        cases hs
        obtain ⟨q, vs, rfl, h1, h2⟩ := rw
        exact ⟨q, vs, rfl, .inr ⟨h1.sq, p2.now a ⟨q, vs, rfl, h1, h2⟩⟩⟩
      | lst us' =>
        obtain ⟨q, vs, rfl, h1, h2⟩ := vL_ok a (show vL M (.lst us') = some us from hs) rw
        exact ⟨q, vs, rfl, .inl ⟨.inl h1, fun l hl => rBl_tup_of a p2 h2 hl⟩⟩
      | ref n =>
        obtain ⟨q, vs, rfl, h1, h2⟩ := vL_ok a (show vL M (.ref n) = some us from hs) rw
        exact ⟨q, vs, rfl, .inl ⟨.inl h1, fun l hl => rBl_tup_of a p2 h2 hl⟩⟩
      | scr ns =>
        obtain ⟨q, rfl, h1⟩ := rw
        cases hs
        exact ⟨q, _, rfl, .inl ⟨h1.sq, fun l hl => rBl_tup_of a p2 (ints_rws ns) hl⟩⟩
      | _ => simp [vS] at hs
    | all =>
      obtain ⟨bs, hs, p⟩ := Post.need p
      unfold blsW at hs
      obtain ⟨us, h1, h2⟩ := Option.bind_eq_some_iff.mp hs
      obtain ⟨q, vs, rfl, h3, h4⟩ := vL_ok a h1 rw
      have e := bls_ok h2 h4
      subst e
      exact ⟨q, bs, rfl, .inl h3, p.now a rfl⟩
    | any =>
      obtain ⟨bs, hs, p⟩ := Post.need p
      unfold blsW at hs
      obtain ⟨us, h1, h2⟩ := Option.bind_eq_some_iff.mp hs
      obtain ⟨q, vs, rfl, h3, h4⟩ := vL_ok a h1 rw
      have e := bls_ok h2 h4
      subst e
      exact ⟨q, bs, rfl, .inl h3, p.now a rfl⟩
    | sum =>
      obtain ⟨bs, hs, p⟩ := Post.need p
      unfold intsW at hs
      obtain ⟨us, h1, h2⟩ := Option.bind_eq_some_iff.mp hs
      obtain ⟨q, vs, rfl, h3, h4⟩ := vL_ok a h1 rw
      have e := ints_ok h2 h4
      subst e
      exact ⟨q, bs, rfl, .inl h3, p.now a rfl⟩
    | repr =>
      obtain ⟨d, hd, p⟩ := Post.need p
      split at p
      · rename_i hc
        simp only [Bool.and_eq_true, decide_eq_true_eq, Bool.not_eq_true'] at hc
        obtain ⟨⟨⟨h1, h2⟩, h3⟩, h4⟩ := hc
        exact ⟨v, d, rfl, dataM_dp a hd rw, h1, h2, h3, h4, p.now a rfl⟩
      · exact p.no.elim
    | abs =>
      cases w <;> first | exact p.no.elim | skip
      rename_i i
      rw [show v = .int i from rw]
      exact ⟨i, rfl, p.now a rfl⟩
    | int =>
      cases w <;> first | exact p.no.elim | skip
      · rename_i b
        rw [show v = .bl b from rw]
        exact .inl (.inr ⟨b, rfl, p.now a rfl⟩)
      · rename_i i
        rw [show v = .int i from rw]
        exact .inl (.inl ⟨i, rfl, p.now a rfl⟩)
      · rename_i x
        rw [show v = .str x from rw]
        simp only [bltW, bl1, intW] at p
        split at p
        · rename_i hz
          obtain ⟨n, hn, p⟩ := p.need
          exact .inr ⟨x, n, rfl, hn, hz, p.now a rfl⟩
        · exact p.no.elim
    | str =>
      cases w <;> first | exact p.no.elim | skip
      · rename_i i
        rw [show v = .int i from rw]
        simp only [bltW, bl1, strW] at p
        split at p
        · rename_i hz
          exact .inl ⟨i, rfl, hz, p.now a rfl⟩
        · exact p.no.elim
      · rename_i x
        rw [show v = .str x from rw]
        exact .inr ⟨x, rfl, p.now a rfl⟩
    | _ => exact p.no.elim
end
end PyI
namespace PyI
open PySem PySem.Spec PyProof.Rows L2
section
variable {G : GE} {cu : Option Cu} {Wi : WX} {g g' g1 : Gh} {M M' M1 : Store} {H H' H1 : Hp} {σ : L2.St} {l : LM}
/-! ### the same values over other ghosts -/
def SameR (g g' : Gh) : Prop := ∀ (n : Nat) (a : Addr), g.R[n]? = some a → g'.R[n]? = some a
theorem StT.via {K : PySem.W.Frag} {a : Addr} {vs : List V} (hf : ∀ a, H a ≠ none → Fro g M a → Fro g' M' a) (h : StT K g M H a vs) : StT K g' M' H a vs := by
  rcases h with ⟨h, f⟩ | h
  · exact .inl ⟨h, hf _ (Rd.dom h) f⟩
  · exact .inr h
mutual
theorem RW.via (hf : ∀ a, H a ≠ none → Fro g M a → Fro g' M' a) : ∀ {w : W} {v : V}, (pureW w = true ∨ SameR g g') → RW G g M H w v → RW G g' M' H w v
  | .non, v, _, h => h
  | .bl b, v, _, h => h
  | .int i, v, _, h => h
  | .str x, v, _, h => h
  | .tup ws, v, p, h => by
    obtain ⟨a, vs, h1, h2, h3⟩ := h
    exact ⟨a, vs, h1, h2.via hf, RWs.via hf p h3⟩
  | .lst ws, v, p, h => by
    obtain ⟨a, vs, h1, h2, h3⟩ := h
    exact ⟨a, vs, h1, ⟨h2.1, hf _ (Rd.dom h2.1) h2.2⟩, RWs.via hf p h3⟩
  | .dct ks ws, v, p, h => by
    obtain ⟨a, kvs, h1, h2, h3, h4, h5⟩ := h
    exact ⟨a, kvs, h1, h2, hf _ (by rw [h2]; simp) h3, h4, RWs.via hf p h5⟩
  | .obj c ns ws, v, p, h => by
    obtain ⟨a, C, dx, fs, h1, h2, h3, h4, h5, h6⟩ := h
    exact ⟨a, C, dx, fs, h1, h2, h3, hf _ (by rw [h3]; simp) h4, h5, RWs.via hf p h6⟩
  | .ref n, v, p, h => by
    obtain ⟨a, h1, h2⟩ := h
    rcases p with p | p
    · cases p
    · exact ⟨a, p n a h1, h2⟩
  | .cls c, v, _, h => h
  | .typ n, v, _, h => h
  | .scr ns, v, _, h => by
    obtain ⟨a, h1, h2⟩ := h
    rcases h2 with ⟨h2, f⟩ | h2
    · exact ⟨a, h1, .inl ⟨h2, hf _ (Rd.dom h2) f⟩⟩
    · exact ⟨a, h1, .inr h2⟩
theorem RWs.via (hf : ∀ a, H a ≠ none → Fro g M a → Fro g' M' a) : ∀ {ws : List W} {vs : List V}, (pureWs ws = true ∨ SameR g g') → RWs G g M H ws vs → RWs G g' M' H ws vs
  | [], vs, _, h => h
  | w :: ws, vs, p, h => by
    obtain ⟨v, r, h1, h2, h3⟩ := h
    have p1 : pureW w = true ∨ SameR g g' := p.imp_left fun q => (Bool.and_eq_true_iff.mp q).1
    have p2 : pureWs ws = true ∨ SameR g g' := p.imp_left fun q => (Bool.and_eq_true_iff.mp q).2
    exact ⟨v, r, h1, RW.via hf p1 h2, RWs.via hf p2 h3⟩
end
theorem CellAt.via {a : Addr} {c : Con} (hf : ∀ a, H a ≠ none → Fro g M a → Fro g' M' a) (p : pureWs c.ws = true ∨ SameR g g') (h : CellAt G g M H a c) : CellAt G g' M' H a c := by
  cases c with
  | lst ws => obtain ⟨vs, h1, h2⟩ := h; exact ⟨vs, h1, h2.via hf p⟩
  | dct ks ws => obtain ⟨vs, h1, h2, h3⟩ := h; exact ⟨vs, h1, h2, h3.via hf p⟩
  | obj c ns ws => obtain ⟨C, dx, fs, h1, h2, h3, h4⟩ := h; exact ⟨C, dx, fs, h1, h2, h3, h4.via hf p⟩
theorem CellAt.frz {a : Addr} {c : Con} (f : Fro g M a) (h : CellAt G g M H a c) : RW G g M H c.frz (.ref a) := by
  cases c with
  | lst ws => obtain ⟨vs, h1, h2⟩ := h; exact ⟨a, vs, rfl, ⟨.of h1, f⟩, h2⟩
  | dct ks ws => obtain ⟨vs, h1, h2, h3⟩ := h; exact ⟨a, vs, rfl, h1, f, h2, h3⟩
  | obj c ns ws => obtain ⟨C, dx, fs, h1, h2, h3, h4⟩ := h; exact ⟨a, C, dx, fs, rfl, h1, h2, f, h3, h4⟩
theorem XR.via {c : Str} {ns : List Str} {ws : List W} {cls : Value} {d : Option Addr} (hf : ∀ a, H a ≠ none → Fro g M a → Fro g' M' a) (p : pureWs ws = true) (h : XR G g M H c ns ws cls d) : XR G g' M' H c ns ws cls d := by
  obtain ⟨C, dx, fs, h1, h2, h3, h4, h5, h6, h7⟩ := h
  refine ⟨C, dx, fs, h1, h2, h3, h4, hf _ (by rw [h4]; simp) h5, h6, fun f w q => ?_⟩
  obtain ⟨v, a, b⟩ := h7 f w q
  have pw : pureW w = true := by
    have key : ∀ {ns : List Str} {ws : List W}, pureWs ws = true → (ns.zip ws).lookup f = some w → pureW w = true := by
      intro ns
      induction ns with
      | nil => intro ws _ q; cases q
      | cons n ns ih =>
        intro ws p q
        cases ws with
        | nil => cases q
        | cons u us =>
          obtain ⟨p1, p2⟩ := Bool.and_eq_true_iff.mp p
          rw [List.zip_cons_cons, List.lookup_cons] at q
          split at q
          · cases q; exact p1
          · exact ih p2 q
    exact key p q
  exact ⟨v, a, b.via hf (.inl pw)⟩

/-! ### the cells handed over -/
theorem mapM_get {M : Store} : ∀ {ns : List Nat} {cs : List Cell}, (ns.mapM fun n => M[n]?) = some cs → cs.length = ns.length ∧ ∀ (j n : Nat), ns[j]? = some n → ∃ c, cs[j]? = some c ∧ M[n]? = some c
  | [], cs, h => by
    simp only [List.mapM_nil, Option.pure_def, Option.some.injEq] at h
    subst h
    exact ⟨rfl, fun j n q => by simp at q⟩
  | m :: ns, cs, h => by
    simp only [List.mapM_cons, Option.bind_eq_bind, Option.bind_eq_some_iff, Option.pure_def, Option.some.injEq] at h
    obtain ⟨c, h1, cs', h2, rfl⟩ := h
    obtain ⟨e, k⟩ := mapM_get h2
    refine ⟨by simp [e], fun j n q => ?_⟩
    cases j with
    | zero => simp at q; subst q; exact ⟨c, rfl, h1⟩
    | succ j => simpa using k j n (by simpa using q)
theorem putBack_length : ∀ (ns : List Nat) (cs : List Cell), (putBack M ns cs).length = M.length
  | [], cs => by cases cs <;> rfl
  | n :: ns, [] => rfl
  | n :: ns, c :: cs => by simp [putBack, putBack_length ns cs]
theorem putBack_out {i : Nat} : ∀ (ns : List Nat) (cs : List Cell), i ∉ ns → (putBack M ns cs)[i]? = M[i]?
  | [], cs, _ => by cases cs <;> rfl
  | n :: ns, [], _ => rfl
  | n :: ns, c :: cs, h => by
    simp only [List.mem_cons, not_or] at h
    rw [putBack, List.getElem?_set_ne (Ne.symm h.1), putBack_out ns cs h.2]
theorem putBack_in {j n : Nat} : ∀ (ns : List Nat) (cs : List Cell), ns.Nodup → cs.length = ns.length → ns[j]? = some n → n < M.length → (putBack M ns cs)[n]? = cs[j]?
  | [], cs, _, _, q, _ => by simp at q
  | m :: ns, [], _, e, _, _ => by simp at e
  | m :: ns, c :: cs, nd, e, q, hl => by
    obtain ⟨h1, h2⟩ := List.nodup_cons.mp nd
    cases j with
    | zero =>
      simp at q; subst q
      rw [putBack, List.getElem?_set_self (by rw [putBack_length]; exact hl)]
      rfl
    | succ j =>
      have q' : ns[j]? = some n := by simpa using q
      have hne : m ≠ n := fun e => h1 (e ▸ List.mem_of_getElem? q')
      rw [putBack, List.getElem?_set_ne hne, putBack_in ns cs h2 (by simpa using e) q' hl]
      simp

/-- the callee's ghosts: P the addresses of its own first cells, then those of the cells ns; nothing may lean on the caller's other live cells -/
def othersZ (g : Gh) (M : Store) (ns : List Nat) : List Addr := ((List.range M.length).filter fun i => decide (i ∉ ns) && (match M[i]? with | some c => c.live | none => false)).filterMap fun i => g.R[i]?
def subG (g : Gh) (M : Store) (ns : List Nat) (P : List Addr) : Gh := ⟨P ++ ns.filterMap (fun n => g.R[n]?), g.Z ++ othersZ g M ns⟩
theorem mem_othersZ {ns : List Nat} {a : Addr} : a ∈ othersZ g M ns ↔ ∃ i c, i ∉ ns ∧ M[i]? = some c ∧ c.live = true ∧ g.R[i]? = some a := by
  unfold othersZ
  simp only [List.mem_filterMap, List.mem_filter, List.mem_range, Bool.and_eq_true, decide_eq_true_eq]
  constructor
  · rintro ⟨i, ⟨hi, h1, h2⟩, h3⟩
    cases hc : M[i]? with
    | none => rw [hc] at h2; cases h2
    | some c => rw [hc] at h2; exact ⟨i, c, h1, hc, h2, h3⟩
  · rintro ⟨i, c, h1, h2, h3, h4⟩
    exact ⟨i, ⟨(List.getElem?_eq_some_iff.mp h2).1, h1, by rw [h2]; exact h3⟩, h4⟩
theorem fm_get {R : List Addr} : ∀ {ns : List Nat}, (∀ n ∈ ns, n < R.length) → (ns.filterMap (fun n => R[n]?)).length = ns.length ∧ ∀ (j n : Nat), ns[j]? = some n → (ns.filterMap (fun n => R[n]?))[j]? = R[n]?
  | [], _ => ⟨rfl, fun j n q => by simp at q⟩
  | m :: ns, h => by
    have hm : R[m]? = some (R[m]'(h m (by simp))) := List.getElem?_eq_getElem _
    obtain ⟨e, k⟩ := fm_get (R := R) (ns := ns) fun n hn => h n (by simp [hn])
    rw [List.filterMap_cons_some hm]
    refine ⟨by simp [e], fun j n q => ?_⟩
    cases j with
    | zero => simp at q; subst q; rw [hm]; rfl
    | succ j => simpa using k j n (by simpa using q)

/-- the cells ns are at hand -/
structure Take (M : Store) (ns : List Nat) (cs : List Cell) : Prop where
  nd : ns.Nodup
  len : cs.length = ns.length
  get : ∀ (j n : Nat), ns[j]? = some n → ∃ c, cs[j]? = some c ∧ M[n]? = some c
theorem Take.lt {ns : List Nat} {cs : List Cell} (T : Take M ns cs) : ∀ n ∈ ns, n < M.length := fun n hn => by
  obtain ⟨j, hj⟩ := List.mem_iff_getElem?.mp hn
  obtain ⟨c, _, h⟩ := T.get j n hj
  exact (List.getElem?_eq_some_iff.mp h).1
theorem Abs.inj (a : Abs G g M H) {i j : Nat} {p : Addr} (h1 : g.R[i]? = some p) (h2 : g.R[j]? = some p) : i = j := by
  exact (List.getElem?_inj (List.getElem?_eq_some_iff.mp h1).1 a.nd).mp (h1.trans h2.symm)
theorem Abs.at_ (a : Abs G g M H) {i : Nat} {c : Cell} (h : M[i]? = some c) : ∃ p, g.R[i]? = some p ∧ H p ≠ none := by
  have hi := (List.getElem?_eq_some_iff.mp h).1
  have e : g.R[i]? = some (g.R[i]'(by rw [a.len]; exact hi)) := List.getElem?_eq_getElem _
  refine ⟨_, e, fun q => a.cellNe q (List.mem_of_getElem? e)⟩
/-- the callee's cell j (behind the first m) -/
theorem subG_at {ns : List Nat} {cs : List Cell} {P : List Addr} (a : Abs G g M H) (T : Take M ns cs) {j n : Nat} (h : ns[j]? = some n) : (subG g M ns P).R[P.length + j]? = g.R[n]? := by
  have k := (fm_get (R := g.R) (ns := ns) fun n hn => by rw [a.len]; exact T.lt n hn).2 j n h
  show (P ++ ns.filterMap (fun n => g.R[n]?))[P.length + j]? = _
  rw [List.getElem?_append_right (by omega), Nat.add_sub_cancel_left, k]
theorem subG_len {ns : List Nat} {cs : List Cell} {P : List Addr} (a : Abs G g M H) (T : Take M ns cs) : (subG g M ns P).R.length = P.length + ns.length := by
  have k := (fm_get (R := g.R) (ns := ns) fun n hn => by rw [a.len]; exact T.lt n hn).1
  show (P ++ ns.filterMap (fun n => g.R[n]?)).length = _
  rw [List.length_append, k]

/-- what a call leaves: the cells ns as the callee left them, some of its cells taken over -/
theorem ran_core {ns : List Nat} {cs pre : List Cell} {P : List Addr} (a : Abs G g M H) (T : Take M ns cs) (hP : ∀ p ∈ P, H p = none) (hlP : pre.length = P.length) (ext : ∀ b o, H b = some o → H1 b = some o)
    (a' : Abs G g' M' H') (e : Evo (subG g M ns P) (pre ++ cs) H1 g' M' H') (hl : P.length + ns.length ≤ M'.length) (hp : ((M'.drop P.length).take ns.length).all pureC = true)
    (L : List (Addr × Cell)) (hL : ∀ q ∈ L, ∃ j : Nat, g'.R[j]? = some q.1 ∧ M'[j]? = some q.2 ∧ (j < P.length ∨ P.length + ns.length ≤ j) ∧ pureC q.2 = true) (hnd : (L.map (·.1)).Nodup) :
    Abs G ⟨g.R ++ L.map (·.1), g.Z⟩ (putBack M ns ((M'.drop P.length).take ns.length) ++ L.map (·.2)) H' ∧
    Evo g M H ⟨g.R ++ L.map (·.1), g.Z⟩ (putBack M ns ((M'.drop P.length).take ns.length) ++ L.map (·.2)) H' ∧
    (∀ b, b ∉ (subG g M ns P).Z → (∀ (j : Nat) (c : Cell), P.length ≤ j → j < P.length + ns.length → g'.R[j]? = some b → M'[j]? = some c → c.live = false) → (∀ q ∈ L, q.1 = b → q.2.live = false) →
      Fro ⟨g.R ++ L.map (·.1), g.Z⟩ (putBack M ns ((M'.drop P.length).take ns.length) ++ L.map (·.2)) b) := by
  have lt := T.lt
  obtain ⟨X, hR, hX⟩ := e.more
  have sl := subG_len (P := P) a T
  have csl : ((M'.drop P.length).take ns.length).length = ns.length := by rw [List.length_take, List.length_drop]; omega
  have pbl : (putBack M ns ((M'.drop P.length).take ns.length)).length = M.length := putBack_length _ _
  -- the callee's cells that are the caller's
  have gB : ∀ (j n : Nat), ns[j]? = some n → g'.R[P.length + j]? = g.R[n]? := fun j n h => by
    have hj := (List.getElem?_eq_some_iff.mp h).1
    rw [hR, List.getElem?_append_left (by rw [sl]; omega), subG_at a T h]
  have cB : ∀ (j n : Nat), ns[j]? = some n → (putBack M ns ((M'.drop P.length).take ns.length))[n]? = M'[P.length + j]? := fun j n h => by
    have hj := (List.getElem?_eq_some_iff.mp h).1
    rw [putBack_in ns _ T.nd csl h (lt n (List.mem_of_getElem? h)), List.getElem?_take_of_lt hj, List.getElem?_drop]
  have preB : ∀ (j n : Nat), ns[j]? = some n → (pre ++ cs)[P.length + j]? = M[n]? := fun j n h => by
    obtain ⟨c, h1, h2⟩ := T.get j n h
    rw [List.getElem?_append_right (by omega), hlP, Nat.add_sub_cancel_left, h1, h2]
  -- addresses of the callee's first cells
  have subAt : ∀ {i : Nat} {b : Addr} {c : Cell}, (subG g M ns P).R[i]? = some b → (pre ++ cs)[i]? = some c → H b = none ∨ ∃ (j n : Nat), ns[j]? = some n ∧ g.R[n]? = some b ∧ M[n]? = some c := fun {i b c} h1 h2 => by
    by_cases hi : i < P.length
    · have : (P ++ ns.filterMap (fun n => g.R[n]?))[i]? = some b := h1
      rw [List.getElem?_append_left hi] at this
      exact .inl (hP _ (List.mem_of_getElem? this))
    · have hi2 : i < P.length + ns.length := by rw [← sl]; exact (List.getElem?_eq_some_iff.mp h1).1
      obtain ⟨j, rfl⟩ : ∃ j, i = P.length + j := ⟨i - P.length, by omega⟩
      have hj : j < ns.length := by omega
      have hn : ns[j]? = some ns[j] := List.getElem?_eq_getElem hj
      rw [subG_at a T hn] at h1
      rw [preB j _ hn] at h2
      exact .inr ⟨j, _, hn, h1, h2⟩
  have hLn : ∀ q ∈ L, H q.1 = none := fun q hq => by
    obtain ⟨j, h1, h2, h3, h4⟩ := hL q hq
    rw [hR] at h1
    rcases h3 with h3 | h3
    · rw [List.getElem?_append_left (by rw [sl]; omega)] at h1
      have : (P ++ ns.filterMap (fun n => g.R[n]?))[j]? = some q.1 := h1
      rw [List.getElem?_append_left h3] at this
      exact hP _ (List.mem_of_getElem? this)
    · rw [List.getElem?_append_right (by rw [sl]; omega)] at h1
      have := hX _ (List.mem_of_getElem? h1)
      cases q1 : H q.1 with
      | none => rfl
      | some o => rw [ext _ _ q1] at this; cases this
  have ev : Evo g M H ⟨g.R ++ L.map (·.1), g.Z⟩ (putBack M ns ((M'.drop P.length).take ns.length) ++ L.map (·.2)) H' := by
    refine ⟨⟨L.map (·.1), rfl, fun b hb => ?_⟩, rfl, by rw [List.length_append, pbl]; omega, fun i c h1 h2 => ?_, fun b o h1 h2 => ?_, fun b h => ?_⟩
    · obtain ⟨q, hq, rfl⟩ := List.mem_map.mp hb
      exact hLn q hq
    · have hi := (List.getElem?_eq_some_iff.mp h1).1
      rw [List.getElem?_append_left (by rw [pbl]; exact hi)]
      by_cases hn : i ∈ ns
      · obtain ⟨j, hj⟩ := List.mem_iff_getElem?.mp hn
        rw [cB j i hj]
        exact e.dead _ c (by rw [preB j i hj]; exact h1) h2
      · rw [putBack_out _ _ hn]; exact h1
    · refine e.keep b o (ext _ _ h1) fun i c q1 q2 => ?_
      rcases subAt q1 q2 with z | ⟨j, n, h3, h4, h5⟩
      · rw [z] at h1; cases h1
      · exact h2 n c h4 h5
    · refine e.dom b ?_
      cases q : H b with
      | none => exact absurd q h
      | some o => rw [ext _ _ q]; simp
  have fro : ∀ b, b ∉ (subG g M ns P).Z → (∀ (j : Nat) (c : Cell), P.length ≤ j → j < P.length + ns.length → g'.R[j]? = some b → M'[j]? = some c → c.live = false) → (∀ q ∈ L, q.1 = b → q.2.live = false) →
      Fro ⟨g.R ++ L.map (·.1), g.Z⟩ (putBack M ns ((M'.drop P.length).take ns.length) ++ L.map (·.2)) b := fun b h1 h2 h3 => by
    refine ⟨fun h => h1 (List.mem_append_left _ h), fun i c q1 q2 => ?_⟩
    by_cases hi : i < M.length
    · rw [List.getElem?_append_left (by rw [pbl]; exact hi)] at q2
      have q1 : (g.R ++ L.map (·.1))[i]? = some b := q1
      rw [List.getElem?_append_left (by rw [a.len]; exact hi)] at q1
      by_cases hn : i ∈ ns
      · obtain ⟨j, hj⟩ := List.mem_iff_getElem?.mp hn
        have hj2 := (List.getElem?_eq_some_iff.mp hj).1
        rw [cB j i hj] at q2
        exact h2 _ c (by omega) (by omega) (by rw [gB j i hj]; exact q1) q2
      · rw [putBack_out _ _ hn] at q2
        cases hc : c.live with
        | false => rfl
        | true => exact absurd (List.mem_append_right _ (mem_othersZ.mpr ⟨i, c, hn, q2, hc, q1⟩)) h1
    · rw [List.getElem?_append_right (by rw [pbl]; omega), pbl] at q2
      have q1 : (g.R ++ L.map (·.1))[i]? = some b := q1
      rw [List.getElem?_append_right (by rw [a.len]; omega), a.len] at q1
      simp only [List.getElem?_map, Option.map_eq_some_iff] at q1 q2
      obtain ⟨q, hq, e1⟩ := q1
      obtain ⟨q', hq', e2⟩ := q2
      rw [hq] at hq'
      cases hq'
      rw [← e2]
      exact h3 q (List.mem_of_getElem? hq) e1
  have fro' : ∀ b, Fro g' M' b → Fro ⟨g.R ++ L.map (·.1), g.Z⟩ (putBack M ns ((M'.drop P.length).take ns.length) ++ L.map (·.2)) b := fun b h => by
    refine fro b (by rw [← e.zs]; exact h.1) (fun j c _ _ q1 q2 => h.2 j c q1 q2) fun q hq h1 => ?_
    obtain ⟨j, q1, q2, _⟩ := hL q hq
    exact h.2 j _ (by rw [q1, h1]) q2
  refine ⟨⟨by simp [a.len, pbl], ?_, fun z hz => ?_, fun z hz => ev.dom z (a.zd z hz), fun i c p h1 h2 => ?_⟩, ev, fro⟩
  · refine List.nodup_append.mpr ⟨a.nd, hnd, fun x hx y hy q => ?_⟩
    obtain ⟨q', hq, e1⟩ := List.mem_map.mp hy
    have hn := hLn q' hq
    rw [e1, ← q] at hn
    exact a.cellNe hn hx
  · intro hm
    rcases List.mem_append.mp hm with h | h
    · exact a.nz z hz h
    · obtain ⟨q, hq, e1⟩ := List.mem_map.mp h
      exact a.zd z hz (e1 ▸ hLn q hq)
  · by_cases hi : i < M.length
    · rw [List.getElem?_append_left (by rw [pbl]; exact hi)] at h1
      have h2 : (g.R ++ L.map (·.1))[i]? = some p := h2
      rw [List.getElem?_append_left (by rw [a.len]; exact hi)] at h2
      by_cases hn : i ∈ ns
      · obtain ⟨j, hj⟩ := List.mem_iff_getElem?.mp hn
        have hj2 := (List.getElem?_eq_some_iff.mp hj).1
        have k1 : M'[P.length + j]? = some c := by rw [← cB j i hj]; exact h1
        have k2 : g'.R[P.length + j]? = some p := by rw [gB j i hj]; exact h2
        have hpc : pureC c = true := by
          refine List.all_eq_true.mp hp c (List.mem_iff_getElem?.mpr ⟨j, ?_⟩)
          rw [List.getElem?_take_of_lt hj2, List.getElem?_drop]; exact k1
        exact (a'.cell _ c p k1 k2).via (fun b _ => fro' b) (.inl hpc)
      · rw [putBack_out _ _ hn] at h1
        refine (a.cell i c p h1 h2).evo a.len ev fun o ho => ?_
        refine e.keep p o (ext _ _ ho) fun i' c' q1 q2 => ?_
        rcases subAt q1 q2 with z | ⟨j, n, h3, h4, h5⟩
        · rw [z] at ho; cases ho
        · exact absurd (List.mem_of_getElem? h3) (by rw [a.inj h4 h2]; exact hn)
    · rw [List.getElem?_append_right (by rw [pbl]; omega), pbl] at h1
      have h2 : (g.R ++ L.map (·.1))[i]? = some p := h2
      rw [List.getElem?_append_right (by rw [a.len]; omega), a.len] at h2
      simp only [List.getElem?_map, Option.map_eq_some_iff] at h1 h2
      obtain ⟨q, hq, e1⟩ := h2
      obtain ⟨q', hq', e2⟩ := h1
      rw [hq] at hq'
      cases hq'
      obtain ⟨j, k1, k2, _, k3⟩ := hL q (List.mem_of_getElem? hq)
      rw [← e1, ← e2]
      exact (a'.cell j _ _ k2 k1).via (fun b _ => fro' b) (.inl k3)

theorem nodup_fm {R : List Addr} (nd : R.Nodup) : ∀ {ns : List Nat}, ns.Nodup → (ns.filterMap (fun n => R[n]?)).Nodup
  | [], _ => by simp
  | n :: ns, h => by
    obtain ⟨h1, h2⟩ := List.nodup_cons.mp h
    cases q : R[n]? with
    | none => rw [List.filterMap_cons_none q]; exact nodup_fm nd h2
    | some p =>
      rw [List.filterMap_cons_some q]
      refine List.nodup_cons.mpr ⟨fun hm => ?_, nodup_fm nd h2⟩
      obtain ⟨i, hi, e⟩ := List.mem_filterMap.mp hm
      have : n = i := (List.getElem?_inj (List.getElem?_eq_some_iff.mp q).1 nd).mp (q.trans e.symm)
      exact h1 (this ▸ hi)
/-- the callee's world at its start -/
theorem sub_fro {ns : List Nat} {cs pre : List Cell} {P : List Addr} (a : Abs G g M H) (T : Take M ns cs) (hP : ∀ p ∈ P, H p = none) (hlP : pre.length = P.length) {b : Addr} (hb : H b ≠ none) (f : Fro g M b) : Fro (subG g M ns P) (pre ++ cs) b := by
  refine ⟨fun h => ?_, fun i c h1 h2 => ?_⟩
  · rcases List.mem_append.mp h with h | h
    · exact f.1 h
    · obtain ⟨i, c, _, q2, q3, q4⟩ := mem_othersZ.mp h
      rw [f.2 i c q4 q2] at q3
      cases q3
  · by_cases hi : i < P.length
    · have : (P ++ ns.filterMap (fun n => g.R[n]?))[i]? = some b := h1
      rw [List.getElem?_append_left hi] at this
      exact absurd (hP _ (List.mem_of_getElem? this)) hb
    · have hi2 : i < P.length + ns.length := by rw [← subG_len a T]; exact (List.getElem?_eq_some_iff.mp h1).1
      obtain ⟨j, rfl⟩ : ∃ j, i = P.length + j := ⟨i - P.length, by omega⟩
      have hj : j < ns.length := by omega
      have hn : ns[j]? = some ns[j] := List.getElem?_eq_getElem hj
      rw [subG_at a T hn] at h1
      obtain ⟨c', k1, k2⟩ := T.get j _ hn
      rw [List.getElem?_append_right (by omega), hlP, Nat.add_sub_cancel_left, k1] at h2
      cases h2
      exact f.2 _ c h1 k2
theorem evo_ext (ext : ∀ b o, H b = some o → H1 b = some o) : Evo g M H g M H1 := ⟨⟨[], by simp, by simp⟩, rfl, Nat.le_refl _, fun _ _ h _ => h, fun b o h _ => ext b o h, fun b h => by
  cases q : H b with
  | none => exact absurd q h
  | some o => rw [ext _ _ q]; simp⟩
theorem sub_abs {ns : List Nat} {cs pre : List Cell} {P : List Addr} (a : Abs G g M H) (T : Take M ns cs) (hpc : cs.all pureC = true) (hP : ∀ p ∈ P, H p = none) (hPn : P.Nodup) (hlP : pre.length = P.length) (ext : ∀ b o, H b = some o → H1 b = some o)
    (hpre : ∀ (i : Nat) (c : Cell) (p : Addr), pre[i]? = some c → P[i]? = some p → CellAt G (subG g M ns P) (pre ++ cs) H1 p c.con) : Abs G (subG g M ns P) (pre ++ cs) H1 := by
  have len : (subG g M ns P).R.length = (pre ++ cs).length := by rw [subG_len a T, List.length_append, hlP, T.len]
  have dom : ∀ b, H b ≠ none → H1 b ≠ none := (evo_ext (g := g) (M := M) ext).dom
  have atI : ∀ {i : Nat} {p : Addr}, i ∈ ns → g.R[i]? = some p → H p ≠ none := fun {i p} hi h => by
    obtain ⟨j, hj⟩ := List.mem_iff_getElem?.mp hi
    obtain ⟨c, _, h2⟩ := T.get j i hj
    obtain ⟨q, h3, h4⟩ := a.at_ h2
    rw [h] at h3; cases h3; exact h4
  refine ⟨len, List.nodup_append.mpr ⟨hPn, nodup_fm a.nd T.nd, fun x hx y hy q => ?_⟩, fun z hz hm => ?_, fun z hz => dom z ?_, fun i c p h1 h2 => ?_⟩
  · obtain ⟨i, hi, e⟩ := List.mem_filterMap.mp hy
    exact atI hi (q ▸ e) (hP x hx)
  · rcases List.mem_append.mp hz with h | h
    · rcases List.mem_append.mp hm with k | k
      · exact a.zd z h (hP z k)
      · obtain ⟨i, hi, e⟩ := List.mem_filterMap.mp k
        exact a.nz z h (List.mem_of_getElem? e)
    · obtain ⟨i, c, q1, q2, q3, q4⟩ := mem_othersZ.mp h
      rcases List.mem_append.mp hm with k | k
      · obtain ⟨p', h3, h4⟩ := a.at_ q2
        rw [q4] at h3; cases h3
        exact h4 (hP z k)
      · obtain ⟨i', hi, e⟩ := List.mem_filterMap.mp k
        exact q1 (a.inj e q4 ▸ hi)
  · rcases List.mem_append.mp hz with h | h
    · exact a.zd z h
    · obtain ⟨i, c, q1, q2, q3, q4⟩ := mem_othersZ.mp h
      obtain ⟨p', h3, h4⟩ := a.at_ q2
      rw [q4] at h3; cases h3
      exact h4
  · by_cases hi : i < P.length
    · rw [List.getElem?_append_left (by omega)] at h1
      have h2 : (P ++ ns.filterMap (fun n => g.R[n]?))[i]? = some p := h2
      rw [List.getElem?_append_left hi] at h2
      exact hpre i c p h1 h2
    · have hi2 : i < P.length + ns.length := by rw [← subG_len a T]; exact (List.getElem?_eq_some_iff.mp h2).1
      obtain ⟨j, rfl⟩ : ∃ j, i = P.length + j := ⟨i - P.length, by omega⟩
      have hj : j < ns.length := by omega
      have hn : ns[j]? = some ns[j] := List.getElem?_eq_getElem hj
      rw [subG_at a T hn] at h2
      obtain ⟨c', k1, k2⟩ := T.get j _ hn
      rw [List.getElem?_append_right (by omega), hlP, Nat.add_sub_cancel_left, k1] at h1
      cases h1
      have pc : pureC c = true := List.all_eq_true.mp hpc c (List.mem_of_getElem? k1)
      have C1 : CellAt G (subG g M ns P) (pre ++ cs) H p c.con := (a.cell _ c p k2 h2).via (fun b hb f => sub_fro a T hP hlP hb f) (.inl pc)
      exact C1.evo len (evo_ext ext) (ext p)
theorem args_ok {ns : List Nat} {cs pre : List Cell} {P : List Addr} (a : Abs G g M H) (T : Take M ns cs) (hP : ∀ p ∈ P, H p = none) (hlP : pre.length = P.length) (ext : ∀ b o, H b = some o → H1 b = some o) :
    ∀ {ws : List W} {xs : List V} (ms : List Nat), ns = ms ++ refsOf ws → (ws.all fun v => isRef v || pureW v) = true → RWs G g M H ws xs → RWs G (subG g M ns P) (pre ++ cs) H1 (renum (P.length + ms.length) ws) xs
  | [], xs, ms, _, _, h => h
  | w :: ws, xs, ms, e, p, h => by
    obtain ⟨v, r, h1, h2, h3⟩ := h
    have len : (subG g M ns P).R.length = (pre ++ cs).length := by rw [subG_len a T, List.length_append, hlP, T.len]
    rw [List.all_cons, Bool.and_eq_true] at p
    have pure' : isRef w = false → ∃ v r, xs = v :: r ∧ RW G (subG g M ns P) (pre ++ cs) H1 w v ∧ RWs G (subG g M ns P) (pre ++ cs) H1 (renum (P.length + ms.length) ws) r := fun hw => by
      have pw : pureW w = true := by have := p.1; rw [hw] at this; exact this
      have e2 : ns = ms ++ refsOf ws := by rw [e]; cases w <;> first | rfl | cases hw
      exact ⟨v, r, h1, (h2.via (fun b hb f => sub_fro a T hP hlP hb f) (.inl pw)).evo len (evo_ext ext), args_ok a T hP hlP ext ms e2 p.2 h3⟩
    cases w with
    | ref n =>
      have e2 : ns = (ms ++ [n]) ++ refsOf ws := by rw [e, List.append_assoc]; rfl
      have k := args_ok a T hP hlP ext (ms ++ [n]) e2 p.2 h3
      rw [List.length_append, List.length_singleton, ← Nat.add_assoc] at k
      obtain ⟨q, h4, h5⟩ := h2
      refine ⟨v, r, h1, ⟨q, ?_, h5⟩, k⟩
      have hn : ns[ms.length]? = some n := by rw [e, List.getElem?_append_right (Nat.le_refl _)]; simp [refsOf]
      rw [subG_at a T hn]; exact h4
    | non => exact pure' rfl
    | bl b => exact pure' rfl
    | int b => exact pure' rfl
    | str b => exact pure' rfl
    | tup b => exact pure' rfl
    | lst b => exact pure' rfl
    | dct k b => exact pure' rfl
    | obj c k b => exact pure' rfl
    | cls b => exact pure' rfl
    | typ b => exact pure' rfl
    | scr b => exact pure' rfl
end
end PyI
namespace PyI
open PySem PySem.Spec PyProof.Rows L2
section
variable {G : GE} {cu : Option Cu} {Wi : WX} {g g' g1 : Gh} {M M' M1 : Store} {H H' H1 : Hp} {σ : L2.St} {l : LM}
/-! ### references opened -/
def killOut (m hi : Nat) (M : Store) : Store := M.mapIdx fun i c => if m ≤ i ∧ i < hi then c else ⟨false, c.con⟩
theorem killOut_get {m hi i : Nat} {c : Cell} (h : (killOut m hi M)[i]? = some c) : (m ≤ i ∧ i < hi ∧ M[i]? = some c) ∨ (¬ (m ≤ i ∧ i < hi) ∧ c.live = false) := by
  unfold killOut at h
  rw [List.getElem?_mapIdx, Option.map_eq_some_iff] at h
  obtain ⟨c', h1, h2⟩ := h
  split at h2
  · rename_i q
    subst h2
    exact .inl ⟨q.1, q.2, h1⟩
  · rename_i q
    subst h2
    exact .inr ⟨q, rfl⟩
theorem killOut_at {m hi i : Nat} (h : m ≤ i ∧ i < hi) : (killOut m hi M)[i]? = M[i]? := by
  unfold killOut
  rw [List.getElem?_mapIdx]
  cases M[i]? with
  | none => rfl
  | some c => simp [h]
theorem fro_kill {m k : Nat} {b : Addr} (h : Fro g M b) : Fro g (killOut m k M) b := ⟨h.1, fun i c h1 h2 => by
  rcases killOut_get h2 with ⟨_, _, q⟩ | ⟨_, q⟩
  · exact h.2 i c h1 q
  · exact q⟩
mutual
theorem openW_ok {m k : Nat} (a : Abs G g M H) : ∀ {w : W} {v : V}, RW G g (killOut m k M) H w v → RW G g (killOut m k M) H (openW M k w) v
  | .non, v, h => h
  | .bl b, v, h => h
  | .int i, v, h => h
  | .str x, v, h => h
  | .tup ws, v, h => by
    obtain ⟨p, vs, h1, h2, h3⟩ := h
    exact ⟨p, vs, h1, h2, openWs_ok a h3⟩
  | .lst ws, v, h => by
    obtain ⟨p, vs, h1, h2, h3⟩ := h
    exact ⟨p, vs, h1, h2, openWs_ok a h3⟩
  | .ref n, v, h => by
    unfold openW
    split
    · rename_i hk
      cases hc : M[n]? with
      | none => exact h
      | some c =>
        obtain ⟨p, h1, rfl⟩ := h
        refine ((a.cell n c p hc h1).via (fun b _ f => fro_kill f) (.inr fun _ _ q => q)).frz ⟨fun hz => a.nz p hz (List.mem_of_getElem? h1), fun i c' q1 q2 => ?_⟩
        rw [a.inj q1 h1] at q2
        rcases killOut_get q2 with ⟨_, q, _⟩ | ⟨_, q⟩
        · omega
        · exact q
    · exact h
  | .dct ks ws, v, h => by
    obtain ⟨p, kvs, h1, h2, h3, h4, h5⟩ := h
    exact ⟨p, kvs, h1, h2, h3, h4, openWs_ok a h5⟩
  | .obj c ns ws, v, h => by
    obtain ⟨p, C, dx, fs, h1, h2, h3, h4, h5, h6⟩ := h
    exact ⟨p, C, dx, fs, h1, h2, h3, h4, h5, openWs_ok a h6⟩
  | .cls c, v, h => h
  | .typ n, v, h => h
  | .scr ns, v, h => h
theorem openWs_ok {m k : Nat} (a : Abs G g M H) : ∀ {ws : List W} {vs : List V}, RWs G g (killOut m k M) H ws vs → RWs G g (killOut m k M) H (openWs M k ws) vs
  | [], vs, h => h
  | w :: ws, vs, h => by
    obtain ⟨v, r, h1, h2, h3⟩ := h
    exact ⟨v, r, h1, openW_ok a h2, openWs_ok a h3⟩
end

/-! ### what a def promises -/
def PostF (G : GE) (g : Gh) (M : Store) (H : Hp) (r : Res W) (Q : VK) (E : XK) : Prop := Post G (fun c d _ H => E c d H) (RW G) g M H ([] : L2.St) r Q
/-- the promise of a def that means sem on n values -/
def spOf (G : GE) (n : Nat) (sem : List W → Store → Res W) : Sp := fun xs H Q E => ∃ g M ws, Abs G g M H ∧ RWs G g M H ws xs ∧ ws.length = n ∧ PostF G g M H (sem ws M) Q E
theorem refsOf_renum : ∀ {ws : List W} {k : Nat}, (renum k ws).length = ws.length
  | [], _ => rfl
  | w :: ws, k => by cases w <;> simp [renum, refsOf_renum (ws := ws)]
/-- an answer taken over, the callee's first cells its own (P), then the caller's cells ns -/
theorem take_ok {fz : Bool} {ns : List Nat} {cs : List Cell} {w : W} {v : V} {Q : VK} (a : Abs G g M H) (T : Take M ns cs)
    (a' : Abs G g' M' H') (e : Evo (subG g M ns []) cs H g' M' H') (hl : ns.length ≤ M'.length) (hp : (M'.take ns.length).all pureC = true) (r : RW G g' M' H' w v)
    (h : Post G Wi (RW G) g M H σ (takeW fz ns w M' (putBack M ns (M'.take ns.length))) Q) : Q v H' := by
  have core0 := ran_core (pre := []) (P := []) a T (by simp) rfl (fun _ _ q => q) a' e (by simpa using hl) (by simpa using hp) [] (by simp) (by simp)
  simp only [List.map_nil, List.append_nil, List.length_nil, List.drop_zero, Nat.zero_add] at core0
  obtain ⟨a2, e2, f2⟩ := core0
  have gh : (⟨g.R, g.Z⟩ : Gh) = g := rfl
  rw [gh] at a2 e2 f2
  have fro : ∀ b, Fro g' M' b → Fro g (putBack M ns (M'.take ns.length)) b := fun b f => f2 b (by have := f.1; rw [e.zs] at this; exact this) (fun j c _ _ q1 q2 => f.2 j c q1 q2) (by simp)
  have froK : ∀ b, Fro g' (killOut 0 ns.length M') b → Fro g (putBack M ns (M'.take ns.length)) b := fun b f => f2 b (by have := f.1; rw [e.zs] at this; exact this) (fun j c _ hj q1 q2 => f.2 j c q1 (by
    rw [killOut_at ⟨Nat.zero_le _, hj⟩]; exact q2)) (by simp)
  unfold takeW at h
  split at h
  · rename_i hw
    exact h g v H' a2 e2 (r.via (fun b _ f => fro b f) (.inl hw))
  · split at h
    · simp only at h
      split at h
      · rename_i hw
        exact h g v H' a2 e2 ((openW_ok a' (openW_ok a' (r.via (fun b _ f => fro_kill f) (.inr fun _ _ q => q)))).via (fun b _ f => froK b f) (.inl hw))
      · exact h.elim
    · cases w with
      | ref j =>
        obtain ⟨p, h1, rfl⟩ := r
        simp only at h
        split at h
        · rename_i n hn
          refine h g _ H' a2 e2 ⟨p, ?_, rfl⟩
          have hj : j < (subG g M ns []).R.length := by
            rw [subG_len a T]
            have := (List.getElem?_eq_some_iff.mp hn).1
            simpa using this
          obtain ⟨X, hR, _⟩ := e.more
          rw [hR, List.getElem?_append_left hj] at h1
          have := subG_at (P := []) a T hn
          rw [List.length_nil, Nat.zero_add] at this
          rw [← this]; exact h1
        · rename_i hn
          obtain ⟨c, hc, h⟩ := h.need
          split at h
          · rename_i hpc
            have hj : ns.length ≤ j := by
              by_cases q : j < ns.length
              · rw [List.getElem?_eq_getElem q] at hn; cases hn
              · omega
            have core1 := ran_core (pre := []) (P := []) a T (by simp) rfl (fun _ _ q => q) a' e (by simpa using hl) (by simpa using hp) [(p, c)]
              (by simp only [List.mem_singleton, forall_eq]; exact ⟨j, h1, hc, .inr (by simpa using hj), hpc⟩) (by simp)
            simp only [List.map_cons, List.map_nil, List.length_nil, List.drop_zero, Nat.zero_add] at core1
            obtain ⟨a3, e3, f3⟩ := core1
            refine h _ _ _ a3 e3 ⟨p, ?_, rfl⟩
            show (g.R ++ [p])[(putBack M ns (M'.take ns.length)).length]? = some p
            rw [putBack_length, ← a.len]
            simp
          · exact h.elim
      | _ => exact h.elim
/-- a call of a def: its promise from the caller's reading -/
theorem call_pass {n : Nat} {sem : List W → Store → Res W} {fz : Bool} {ws : List W} {xs : List V} {Q : VK} (a : Abs G g M H) (r : RWs G g M H ws xs) (hn : ws.length = n) (h : Post G Wi (RW G) g M H σ (callW sem fz ws M) Q) :
    spOf G n sem xs H Q (fun c d H' => Wi c d σ H') := by
  unfold callW at h
  simp only at h
  obtain ⟨cs, hm, h⟩ := h.need
  split at h
  · rename_i hc
    obtain ⟨h1, h2, h3⟩ := hc
    obtain ⟨l1, l2⟩ := mapM_get hm
    have T : Take M (refsOf ws) cs := ⟨h1, l1, l2⟩
    have A0 := sub_abs (pre := []) (P := []) a T h2 (by simp) (by simp) rfl (fun _ _ q => q) (by simp)
    have r0 := args_ok (pre := []) (P := []) a T (by simp) rfl (fun _ _ q => q) [] (by simp) h3 r
    simp only [List.nil_append, List.length_nil, Nat.zero_add] at A0 r0
    refine ⟨subG g M (refsOf ws) [], cs, renum 0 ws, A0, r0, by rw [refsOf_renum]; exact hn, ?_⟩
    cases hs : sem (renum 0 ws) cs with
    | err => rw [hs] at h; exact h.elim
    | ok w M' =>
      rw [hs] at h
      simp only at h
      split at h
      · rename_i hk
        exact fun g' v H' a' e' rv => take_ok a T a' e' hk.1 hk.2 rv h
      · exact h.elim
    | exc c ns us M' =>
      rw [hs] at h
      simp only at h
      split at h
      · rename_i hk
        intro g' cls d H' a' e' rx
        have core0 := ran_core (pre := []) (P := []) a T (by simp) rfl (fun _ _ q => q) a' e' (by simpa using hk.1) (by simpa using hk.2.1) [] (by simp) (by simp)
        simp only [List.map_nil, List.append_nil, List.length_nil, List.drop_zero, Nat.zero_add] at core0
        obtain ⟨a2, e2, f2⟩ := core0
        exact h g cls d H' a2 e2 (rx.via (fun b _ f => f2 b (by have := f.1; rw [e'.zs] at this; exact this) (fun j c _ _ q1 q2 => f.2 j c q1 q2) (by simp)) hk.2.2)
      · exact h.elim
  · exact h.elim

/-- a class made -/
theorem make_pass {sem : List W → Store → Res W} {c : Str} {C x dx : Addr} {fz : Bool} {ws : List W} {xs : List V} {Q : VK} (a : Abs G g M H) (r : RWs G g M H ws xs) (hC : G.cA c = some C) (hx : H x = none) (hdx : H dx = none) (hne : dx ≠ x)
    (h : Post G Wi (RW G) g M H σ (makeW sem c fz ws M) Q) :
    spOf G (ws.length + 1) sem (.ref x :: xs) (upd (upd H dx (.own x)) x (.ins C dx [])) (fun v H2 => v = .non ∧ Q (.ref x) H2) (fun c d H' => Wi c d σ H') := by
  unfold makeW at h
  simp only at h
  obtain ⟨cs, hm, h⟩ := h.need
  split at h
  · rename_i hc
    obtain ⟨h1, h2, h3⟩ := hc
    obtain ⟨l1, l2⟩ := mapM_get hm
    have T : Take M (refsOf ws) cs := ⟨h1, l1, l2⟩
    have ext : ∀ b o, H b = some o → upd (upd H dx (.own x)) x (.ins C dx []) b = some o := fun b o q => by
      rw [upd_ne (ne_of_none q hx), upd_ne (ne_of_none q hdx)]; exact q
    have hP : ∀ p ∈ [x], H p = none := by simpa using hx
    have A0 := sub_abs (pre := [⟨true, .obj c [] []⟩]) (P := [x]) a T h2 hP (by simp) rfl ext (fun i c' p q1 q2 => by
      cases i with
      | zero =>
        simp at q1 q2
        subst q1 q2
        exact ⟨C, dx, [], hC, upd_same, rfl, rfl⟩
      | succ i => simp at q1)
    have r0 := args_ok (pre := [⟨true, .obj c [] []⟩]) (P := [x]) a T hP rfl ext [] (by simp) h3 r
    simp only [List.length_singleton, List.length_nil, Nat.add_zero, List.singleton_append] at A0 r0
    have hself : (subG g M (refsOf ws) [x]).R[0]? = some x := rfl
    refine ⟨subG g M (refsOf ws) [x], _, .ref 0 :: renum 1 ws, A0, ⟨.ref x, xs, rfl, ⟨x, hself, rfl⟩, r0⟩, by simp [refsOf_renum], ?_⟩
    have at0 : ∀ {g' : Gh} {M' : Store} {H' : Hp}, Evo (subG g M (refsOf ws) [x]) (⟨true, .obj c [] []⟩ :: cs) (upd (upd H dx (.own x)) x (.ins C dx [])) g' M' H' → g'.R[0]? = some x := fun {g' M' H'} e => by
      obtain ⟨X, hR, _⟩ := e.more
      rw [hR, List.getElem?_append_left (by rw [subG_len a T]; simp; omega)]; exact hself
    cases hs : sem (.ref 0 :: renum 1 ws) (⟨true, .obj c [] []⟩ :: cs) with
    | err => rw [hs] at h; exact h.elim
    | ok w M' =>
      rw [hs] at h
      cases w <;> first | exact h.elim | skip
      simp only at h
      split at h
      · rename_i hk
        obtain ⟨o, ho, h⟩ := h.need
        intro g' v H' a' e' rv
        refine ⟨rv, ?_⟩
        have hR0 := at0 e'
        have zs' : ∀ b, b ∉ g'.Z → b ∉ (subG g M (refsOf ws) [x]).Z := fun b q => by rw [e'.zs] at q; exact q
        split at h
        · split at h
          · rename_i hw
            have core0 := ran_core (pre := [⟨true, .obj c [] []⟩]) (P := [x]) a T hP rfl ext a' e' (by simpa using hk.1) (by simpa using hk.2) [] (by simp) (by simp)
            simp only [List.map_nil, List.append_nil, List.length_singleton] at core0
            obtain ⟨a2, e2, f2⟩ := core0
            have gh : (⟨g.R, g.Z⟩ : Gh) = g := rfl
            rw [gh] at a2 e2 f2
            have fx : Fro g' (killOut 1 (1 + (refsOf ws).length) M') x := ⟨fun hz => a'.nz x hz (List.mem_of_getElem? hR0), fun i c' q1 q2 => by
              have hi := a'.inj q1 hR0
              subst hi
              rcases killOut_get q2 with ⟨q, _⟩ | ⟨_, q⟩
              · omega
              · exact q⟩
            have R1 : RW G g' (killOut 1 (1 + (refsOf ws).length) M') H' o.con.frz (.ref x) := ((a'.cell 0 o x ho hR0).via (fun b _ f => fro_kill f) (.inr fun _ _ q => q)).frz fx
            refine h g _ H' a2 e2 ((openW_ok a' (openW_ok a' R1)).via (fun b _ f => f2 b (zs' b f.1) (fun j c' q1 q2 q3 q4 => f.2 j c' q3 ?_) (by simp)) (.inl hw))
            rw [killOut_at ⟨q1, q2⟩]; exact q4
          · exact h.elim
        · split at h
          · rename_i hpc
            have core1 := ran_core (pre := [⟨true, .obj c [] []⟩]) (P := [x]) a T hP rfl ext a' e' (by simpa using hk.1) (by simpa using hk.2) [(x, o)]
              (by simp only [List.mem_singleton, forall_eq]; exact ⟨0, hR0, ho, .inl (by simp), hpc⟩) (by simp)
            simp only [List.map_cons, List.map_nil, List.length_singleton] at core1
            obtain ⟨a3, e3, f3⟩ := core1
            refine h _ _ _ a3 e3 ⟨x, ?_, rfl⟩
            show (g.R ++ [x])[M.length]? = some x
            rw [← a.len]
            simp
          · exact h.elim
      · exact h.elim
    | exc e xs' us M' =>
      rw [hs] at h
      simp only at h
      split at h
      · rename_i hk
        intro g' cls d H' a' e' rx
        have core0 := ran_core (pre := [⟨true, .obj c [] []⟩]) (P := [x]) a T hP rfl ext a' e' (by simpa using hk.1) (by simpa using hk.2.1) [] (by simp) (by simp)
        simp only [List.map_nil, List.append_nil, List.length_singleton] at core0
        obtain ⟨a2, e2, f2⟩ := core0
        exact h g cls d H' a2 e2 (rx.via (fun b _ f => f2 b (by have := f.1; rw [e'.zs] at this; exact this) (fun j c _ _ q1 q2 => f.2 j c q1 q2) (by simp)) hk.2.2)
      · exact h.elim
  · exact h.elim
end
end PyI
namespace PyI
open PySem PySem.Spec PyProof.Rows L2

/-! ### how a call binds -/
theorem forIn_run {α β : Type} {f : α → β → Sem (ForInStep β)} (st : List α → β) : ∀ (l2 l1 : List α), (∀ l x r, l1 ++ l2 = l ++ x :: r → l1.length ≤ l.length → f x (st l) = pure (.yield (st (l ++ [x])))) → forIn l2 (st l1) f = pure (st (l1 ++ l2))
  | [], l1, _ => by rw [List.append_nil]; rfl
  | x :: r, l1, h => by
    rw [List.forIn_cons, h l1 x r rfl (Nat.le_refl _)]
    have k := forIn_run st r (l1 ++ [x]) fun l y r' e hl => h l y r' (by rw [← e, List.append_assoc]; rfl) (by rw [List.length_append] at hl; omega)
    rw [List.append_assoc, List.singleton_append] at k
    rw [← k] <;> rfl
theorem forIn_run0 {α β : Type} {f : α → β → Sem (ForInStep β)} {b : β} {l : List α} (st : List α → β) (h0 : st [] = b) (h : ∀ l1 x r, l = l1 ++ x :: r → f x (st l1) = pure (.yield (st (l1 ++ [x])))) : forIn l b f = pure (st l) := by
  have := forIn_run (f := f) st l [] fun l1 x r e _ => h l1 x r e
  rw [h0] at this
  exact this
/-- plain parameters -/
def plainP (p : Arguments) : Bool := p.posonlyargs.isEmpty && p.vararg.isNone && p.kwarg.isNone
def parNames (p : Arguments) : List Str := p.args.map (·.arg) ++ p.kwonlyargs.map (·.arg)
/-- the keywords fit: n positional ones -/
def kwFit (np : Nat) (ps : List Str) (n : Nat) (ks : List Str) : Bool := decide (n ≤ np) && decide (ps.Nodup) && decide (ks.Nodup) && (ks.all fun k => decide (k ∈ ps.drop n)) && (ps.drop n).all (fun k => decide (k ∈ ks))
theorem lookup_zip_isSome {α : Type} {k : Str} : ∀ {ks : List Str} {ws : List α}, ks.length = ws.length → k ∈ ks → ((ks.zip ws).lookup k).isSome = true
  | [], _, _, h => by cases h
  | a :: ks, [], e, _ => by cases e
  | a :: ks, w :: ws, e, h => by
    rw [List.zip_cons_cons, List.lookup_cons]
    split
    · rfl
    · rename_i q
      refine lookup_zip_isSome (by simpa using e) ?_
      rcases List.mem_cons.mp h with h | h
      · subst h; simp at q
      · exact h
theorem lookup_zip_none {α : Type} {k : Str} : ∀ {ks : List Str} {ws : List α}, k ∉ ks → (ks.zip ws).lookup k = none
  | [], _, _ => rfl
  | a :: ks, [], _ => rfl
  | a :: ks, w :: ws, h => by
    simp only [List.mem_cons, not_or] at h
    rw [List.zip_cons_cons, List.lookup_cons]
    split
    · rename_i q
      exact absurd (by simpa using q) h.1
    · exact lookup_zip_none h.2
theorem lookup_append' {α : Type} {k : Str} : ∀ {l r : List (Str × α)}, (l ++ r).lookup k = (l.lookup k).or (r.lookup k)
  | [], r => rfl
  | (a, w) :: l, r => by
    rw [List.cons_append, List.lookup_cons, List.lookup_cons]
    split
    · rfl
    · exact lookup_append'
theorem zip_take {α β : Type} : ∀ (l : List α) (r : List β), l.zip r = (l.take r.length).zip r
  | _, [] => by simp
  | [], _ => by simp
  | a :: l, b :: r => by simp [zip_take l r]
/-- what binds -/
theorem bind_ok {fd : FuncData} {us ws : List Value} {ks : List Str} (hp : plainP fd.params = true) (hd : fd.defaults = .none) (hk : kwFit fd.params.args.length (parNames fd.params) us.length ks = true) (hl : ks.length = ws.length) :
    bindArgs fd ⟨us, ks.zip ws⟩ = pure ((parNames fd.params).filterMap fun n => (((fd.params.args.map (·.arg)).zip us ++ ks.zip ws).lookup n).map (n, ·)) := by
  obtain ⟨p1, p2⟩ := Bool.and_eq_true_iff.mp hp
  obtain ⟨p3, p4⟩ := Bool.and_eq_true_iff.mp p1
  have h1 : fd.params.posonlyargs = [] := by simpa using p3
  have h2 : fd.params.vararg = none := by simpa using p4
  have h3 : fd.params.kwarg = none := by simpa using p2
  simp only [kwFit, Bool.and_eq_true, decide_eq_true_eq, List.all_eq_true] at hk
  obtain ⟨⟨⟨⟨k1, k2⟩, k3⟩, k4⟩, k5⟩ := hk
  have hn : (fd.params.args.map (·.arg)).length = fd.params.args.length := by simp
  have drop1 : (parNames fd.params).drop us.length = (fd.params.args.map (·.arg)).drop us.length ++ fd.params.kwonlyargs.map (·.arg) := by
    unfold parNames
    rw [List.drop_append_of_le_length (by simpa using k1)]
  have inA : ∀ k ∈ ks, ((fd.params.args.map (·.arg)).zip us).lookup k = none := fun k hk => by
    rw [zip_take]
    refine lookup_zip_none fun hm => ?_
    have h4 := k4 k hk
    have e : parNames fd.params = (parNames fd.params).take us.length ++ (parNames fd.params).drop us.length := (List.take_append_drop _ _).symm
    rw [e] at k2
    refine (List.nodup_append.mp k2).2.2 k ?_ k h4 rfl
    unfold parNames
    rw [List.take_append_of_le_length (by simpa using k1)]
    exact hm
  have inB : ∀ k ∈ ks, ((fd.params.args.map (·.arg)).contains k || (fd.params.kwonlyargs.map (·.arg)).contains k) = true := fun k hk => by
    have h4 := k4 k hk
    rw [drop1] at h4
    rcases List.mem_append.mp h4 with h | h
    · rw [Bool.or_eq_true]; left; simpa using List.mem_of_mem_drop h
    · rw [Bool.or_eq_true]; right; simpa using h
  have someK : ∀ k ∈ parNames fd.params, ((((fd.params.args.map (·.arg)).zip us) ++ ks.zip ws).lookup k).isSome = true := fun k hk => by
    rw [lookup_append']
    have e : parNames fd.params = (parNames fd.params).take us.length ++ (parNames fd.params).drop us.length := (List.take_append_drop _ _).symm
    rw [e] at hk
    rcases List.mem_append.mp hk with h | h
    · have : ((((fd.params.args.map (·.arg)).zip us)).lookup k).isSome = true := by
        rw [zip_take]
        refine lookup_zip_isSome (by rw [List.length_take, hn]; omega) ?_
        unfold parNames at h
        rw [List.take_append_of_le_length (by simpa using k1)] at h
        exact h
      cases q : (((fd.params.args.map (·.arg)).zip us)).lookup k with
      | none => rw [q] at this; cases this
      | some v => rfl
    · have : ((ks.zip ws).lookup k).isSome = true := lookup_zip_isSome hl (k5 k h)
      cases q : (((fd.params.args.map (·.arg)).zip us)).lookup k with
      | none => exact this
      | some v => rfl
  unfold bindArgs
  simp only [h1, h2, h3, hd, List.map_nil, List.nil_append]
  rw [forIn_run0 (fun l => ((fd.params.args.map (·.arg)).zip us ++ l, ([] : List (Str × Value)))) (by rw [List.append_nil]) (fun l1 x r e => ?_)]
  · have s0 : seqItems? Value.none = pure none := rfl
    rw [s0]
    simp only [pure_bind]
    rw [if_neg (by simp; omega)]
    rw [if_neg (by
      simp only [Option.getD_none, Array.toList_empty, List.length_nil, Nat.zero_sub, List.drop_nil, Nat.sub_zero, Bool.not_eq_true', Bool.not_eq_false, List.isEmpty_iff, List.filter_eq_nil_iff, List.take_length]
      intro k hk
      have := someK k (by unfold parNames; exact List.mem_append_left _ hk)
      cases q : ((((fd.params.args.map (·.arg)).zip us) ++ ks.zip ws).lookup k) with
      | none => rw [q] at this; cases this
      | some v => simp)]
    simp only [Option.getD_none, Array.toList_empty, List.length_nil, Nat.zero_sub, List.drop_nil, Nat.sub_zero, List.zip_nil_right, List.forIn_nil]
    simp only [pure_bind]
    rw [forIn_run0 (fun _ => ((fd.params.args.map (·.arg)).zip us ++ ks.zip ws, ([] : List Str))) rfl (fun l1 x r e => ?_)]
    · simp only [pure_bind]
      rfl
    · have hx : x ∈ parNames fd.params := by unfold parNames; rw [e]; simp
      have := someK x hx
      rw [if_neg (by
        cases q : ((((fd.params.args.map (·.arg)).zip us) ++ ks.zip ws).lookup x) with
        | none => rw [q] at this; cases this
        | some v => simp)]
  · have hx : x ∈ ks.zip ws := by rw [e]; simp
    have hxk : x.1 ∈ ks := (List.of_mem_zip (a := x.1) (b := x.2) hx).1
    rw [if_pos (inB x.1 hxk), if_neg ?_]
    · rw [List.append_assoc]
    · rw [lookup_append', inA x.1 hxk]
      have : l1.lookup x.1 = none := by
        have e1 : ks = l1.map (·.1) ++ x.1 :: r.map (·.1) := by
          have : (ks.zip ws).map (·.1) = ks := by rw [List.map_fst_zip (by omega)]
          rw [← this, e]; simp
        rw [e1] at k3
        have nd := (List.nodup_append.mp k3).2.2
        have : ∀ {l : List (Str × Value)}, x.1 ∉ l.map (·.1) → l.lookup x.1 = none := by
          intro l
          induction l with
          | nil => intro _; rfl
          | cons y l ih =>
            intro h
            simp only [List.map_cons, List.mem_cons, not_or] at h
            rw [List.lookup_cons]
            split
            · rename_i q; exact absurd (by simpa using q) h.1
            · exact ih h.2
        exact this fun hm => nd x.1 hm x.1 (by simp) rfl
      rw [this]; simp

theorem filterMap_zip {α β : Type} {f : α → Option β} : ∀ {l : List α}, (∀ x ∈ l, (f x).isSome = true) → (l.filterMap fun n => (f n).map (n, ·)) = l.zip (l.filterMap f)
  | [], _ => rfl
  | x :: l, h => by
    obtain ⟨y, hy⟩ := Option.isSome_iff_exists.mp (h x (by simp))
    rw [List.filterMap_cons_some (b := (x, y)) (by rw [hy]; rfl), List.filterMap_cons_some hy, List.zip_cons_cons, filterMap_zip fun z hz => h z (by simp [hz])]
theorem fm_congr {α β : Type} {f h : α → Option β} : ∀ {l : List α}, (∀ x ∈ l, f x = h x) → l.filterMap f = l.filterMap h
  | [], _ => rfl
  | x :: l, k => by
    rw [List.filterMap_cons, List.filterMap_cons, k x (by simp), fm_congr fun y hy => k y (by simp [hy])]
theorem lookup_own {α : Type} {r : List (Str × α)} : ∀ {l : List Str} {us : List α}, l.Nodup → l.length = us.length → l.filterMap (fun n => (l.zip us ++ r).lookup n) = us
  | [], [], _, _ => rfl
  | [], _ :: _, _, e => by cases e
  | _ :: _, [], _, e => by cases e
  | x :: l, u :: us, nd, e => by
    obtain ⟨h1, h2⟩ := List.nodup_cons.mp nd
    have e1 : ((x :: l).zip (u :: us) ++ r).lookup x = some u := by simp [List.lookup_cons]
    rw [List.filterMap_cons_some (f := fun n => ((x :: l).zip (u :: us) ++ r).lookup n) e1]
    congr 1
    rw [← lookup_own (r := r) (us := us) h2 (by simpa using e)]
    refine fm_congr fun y hy => ?_
    have : (y == x) = false := by
      cases q : y == x with
      | false => rfl
      | true => exact absurd ((beq_iff_eq.mp q) ▸ hy) h1
    rw [List.zip_cons_cons, List.cons_append, List.lookup_cons, this, lookup_own (r := r) (us := us) h2 (by simpa using e)]
theorem lookup_idx {α : Type} {p : Str} : ∀ {ks : List Str} {ws : List α}, ks.length = ws.length → p ∈ ks → (ks.zip ws).lookup p = ws[ks.idxOf p]?
  | [], _, _, h => by cases h
  | _ :: _, [], e, _ => by cases e
  | a :: ks, w :: ws, e, h => by
    rw [List.zip_cons_cons, List.lookup_cons, List.idxOf_cons]
    by_cases q : p = a
    · subst q; simp
    · have q1 : (p == a) = false := by simpa using q
      have q2 : (a == p) = false := by simpa using Ne.symm q
      rw [q1, q2]
      simp only [cond_false, List.getElem?_cons_succ]
      exact lookup_idx (by simpa using e) (by simpa [q] using h)
theorem kwFit_nil {np : Nat} {ps : List Str} (h1 : ps.length ≤ np) (h2 : ps.Nodup) {n : Nat} (hn : n = ps.length) : kwFit np ps n [] = true := by
  subst hn; simp [kwFit, h1, h2]
theorem bind_zip {fd : FuncData} {us ws : List Value} {ks : List Str} (hp : plainP fd.params = true) (hd : fd.defaults = .none) (hk : kwFit fd.params.args.length (parNames fd.params) us.length ks = true) (hl : ks.length = ws.length) (hn : us.length + ws.length = (parNames fd.params).length) :
    bindArgs fd ⟨us, ks.zip ws⟩ = pure ((parNames fd.params).zip (bindW (parNames fd.params) ks (us ++ ws))) := by
  rw [bind_ok hp hd hk hl]
  congr 1
  have hk' := hk
  simp only [kwFit, Bool.and_eq_true, decide_eq_true_eq, List.all_eq_true] at hk
  obtain ⟨⟨⟨⟨k1, k2⟩, k3⟩, k4⟩, k5⟩ := hk
  have hA : (fd.params.args.map (·.arg)).take us.length = (parNames fd.params).take us.length := by
    unfold parNames
    rw [List.take_append_of_le_length (by simpa using k1)]
  have hsl : (fd.params.args.map (·.arg)).zip us ++ ks.zip ws = ((parNames fd.params).take us.length).zip us ++ ks.zip ws := by rw [zip_take, hA]
  rw [hsl]
  have nd2 := k2
  rw [← List.take_append_drop us.length (parNames fd.params)] at nd2
  obtain ⟨n1, n2, n3⟩ := List.nodup_append.mp nd2
  have tl : ((parNames fd.params).take us.length).length = us.length := by rw [List.length_take]; omega
  have inB : ∀ p ∈ (parNames fd.params).drop us.length, (((parNames fd.params).take us.length).zip us ++ ks.zip ws).lookup p = (us ++ ws)[us.length + ks.idxOf p]? := fun p hp => by
    rw [lookup_append', lookup_zip_none (fun h => n3 p h p hp rfl), Option.none_or, lookup_idx hl (k5 p hp), List.getElem?_append_right (by omega), Nat.add_sub_cancel_left]
  have key : (parNames fd.params).filterMap (fun n => (((parNames fd.params).take us.length).zip us ++ ks.zip ws).lookup n) = bindW (parNames fd.params) ks (us ++ ws) := by
    have e : (parNames fd.params).filterMap (fun n => (((parNames fd.params).take us.length).zip us ++ ks.zip ws).lookup n) = ((parNames fd.params).take us.length ++ (parNames fd.params).drop us.length).filterMap (fun n => (((parNames fd.params).take us.length).zip us ++ ks.zip ws).lookup n) := by rw [List.take_append_drop]
    rw [e, List.filterMap_append, lookup_own n1 tl, fm_congr inB]
    cases ks with
    | nil =>
      have : ws = [] := List.eq_nil_of_length_eq_zero hl.symm
      subst this
      have : (parNames fd.params).drop us.length = [] := List.drop_of_length_le (by rw [← hn]; simp)
      rw [this]; rfl
    | cons k ks =>
      show _ = (permW _ _ ((us ++ ws).length - (k :: ks).length)).filterMap _
      have e1 : (us ++ ws).length - (k :: ks).length = us.length := by rw [List.length_append, hl]; omega
      rw [e1, permW, List.filterMap_append]
      congr 1
      · have : ∀ (us ws : List Value), (List.range us.length).filterMap (fun i => (us ++ ws)[i]?) = us := by
          intro us ws
          apply List.ext_getElem?
          intro i
          have e2 : (List.range us.length).filterMap (fun i => (us ++ ws)[i]?) = us := by
            have : ∀ (us ws pre : List Value), (List.range' pre.length us.length).filterMap (fun i => (pre ++ us ++ ws)[i]?) = us := by
              intro us
              induction us with
              | nil => intro ws pre; rfl
              | cons u us ih =>
                intro ws pre
                rw [List.length_cons, List.range'_succ, List.filterMap_cons_some (b := u) (by simp)]
                have := ih ws (pre ++ [u])
                simp only [List.length_append, List.length_singleton, List.append_assoc, List.singleton_append] at this ⊢
                rw [this]
            have := this us ws []
            simpa [List.range_eq_range'] using this
          rw [e2]
        exact (this us ws).symm
      · rw [List.filterMap_map]
        rfl
  rw [filterMap_zip, key]
  intro x hx
  have e := key
  rw [← List.take_append_drop us.length (parNames fd.params)] at hx
  rcases List.mem_append.mp hx with h | h
  · rw [lookup_append']
    have := lookup_zip_isSome (ws := us) tl h
    cases q : (((parNames fd.params).take us.length).zip us).lookup x with
    | none => rw [q] at this; cases this
    | some v => rfl
  · rw [lookup_append', lookup_zip_none (fun h' => n3 x h' x h rfl), Option.none_or]
    exact lookup_zip_isSome hl (k5 x h)
end PyI
namespace PyI
open PySem PySem.Spec PyProof.Rows L2
section
variable {G : GE} {cu : Option Cu} {Wi : WX} {g g' g1 : Gh} {M M' M1 : Store} {H H' H1 : Hp} {σ : L2.St} {l : LM}
/-! ### arguments put in order -/
theorem fm_rws {ws : List W} {xs : List V} (r : RWs G g M H ws xs) : ∀ is : List Nat, RWs G g M H (is.filterMap fun i => ws[i]?) (is.filterMap fun i => xs[i]?)
  | [] => rfl
  | i :: is => by
    cases q : ws[i]? with
    | none =>
      have q2 : xs[i]? = none := by
        rw [List.getElem?_eq_none_iff] at q ⊢
        rw [← r.length]; exact q
      rw [List.filterMap_cons_none q, List.filterMap_cons_none q2]
      exact fm_rws r is
    | some w =>
      obtain ⟨v, h1, h2⟩ := r.get q
      rw [List.filterMap_cons_some (f := fun i => ws[i]?) q, List.filterMap_cons_some (f := fun i => xs[i]?) h1]
      exact .cons h2 (fm_rws r is)
theorem fm_vals {xs : List V} {us : List Value} (r : Vals xs us) : ∀ is : List Nat, Vals (is.filterMap fun i => xs[i]?) (is.filterMap fun i => us[i]?)
  | [] => .nil
  | i :: is => by
    cases q : xs[i]? with
    | none =>
      have q2 : us[i]? = none := r.none_of q
      rw [List.filterMap_cons_none q, List.filterMap_cons_none q2]
      exact fm_vals r is
    | some w =>
      obtain ⟨v, h1, h2⟩ := r.get q
      rw [List.filterMap_cons_some (f := fun i => xs[i]?) q, List.filterMap_cons_some (f := fun i => us[i]?) h1]
      exact .cons h2 (fm_vals r is)
theorem bindW_rws {ps ks : List Str} {ws : List W} {xs : List V} (r : RWs G g M H ws xs) : RWs G g M H (bindW ps ks ws) (bindW ps ks xs) := by
  cases ks with
  | nil => exact r
  | cons k ks =>
    unfold bindW
    rw [r.length]
    exact fm_rws r _
theorem bindW_vals {ps ks : List Str} {xs : List V} {us : List Value} (r : Vals xs us) : Vals (bindW ps ks xs) (bindW ps ks us) := by
  cases ks with
  | nil => exact r
  | cons k ks =>
    unfold bindW
    rw [r.length]
    exact fm_vals r _
theorem fm_len {α : Type} {as : List α} : ∀ {is : List Nat}, (∀ i ∈ is, i < as.length) → (is.filterMap fun i => as[i]?).length = is.length
  | [], _ => rfl
  | i :: is, h => by
    rw [List.filterMap_cons_some (List.getElem?_eq_getElem (h i (by simp))), List.length_cons, List.length_cons, fm_len fun j hj => h j (by simp [hj])]
theorem bindW_len {α : Type} {np : Nat} {ps ks : List Str} {as : List α} (h : kwFit np ps (as.length - ks.length) ks = true) (hk : ks.length ≤ as.length) (hn : as.length = ps.length) : (bindW ps ks as).length = ps.length := by
  cases ks with
  | nil => exact hn
  | cons k ks =>
    simp only [kwFit, Bool.and_eq_true, decide_eq_true_eq, List.all_eq_true] at h
    obtain ⟨⟨⟨⟨k1, k2⟩, k3⟩, k4⟩, k5⟩ := h
    unfold bindW
    rw [fm_len]
    · unfold permW
      rw [List.length_append, List.length_range, List.length_map, List.length_drop]
      omega
    · intro i hi
      rcases List.mem_append.mp hi with q | q
      · have := List.mem_range.mp q
        omega
      · obtain ⟨p, hp, rfl⟩ := List.mem_map.mp q
        have := List.idxOf_lt_length_of_mem (k5 p hp)
        omega
theorem bindW_cons {α : Type} {ps ks : List Str} {a : α} {as : List α} (hk : ks.length ≤ as.length) : bindW ps ks (a :: as) = a :: bindW (ps.drop 1) ks as := by
  cases ks with
  | nil => rfl
  | cons k ks =>
    unfold bindW
    dsimp only
    have e : (a :: as).length - (k :: ks).length = (as.length - (k :: ks).length) + 1 := by rw [List.length_cons]; omega
    rw [e]
    unfold permW
    rw [List.range_succ_eq_map, List.cons_append, List.filterMap_cons_some (b := a) (by rfl)]
    congr 1
    rw [List.filterMap_append, List.filterMap_append]
    congr 1
    · rw [List.filterMap_map]
      exact fm_congr fun i _ => by simp
    · rw [List.filterMap_map, List.filterMap_map, List.drop_drop, Nat.add_comm 1 (as.length - (k :: ks).length)]
      exact fm_congr fun p _ => by
        show (a :: as)[as.length - (k :: ks).length + 1 + List.idxOf p (k :: ks)]? = _
        rw [show as.length - (k :: ks).length + 1 + List.idxOf p (k :: ks) = (as.length - (k :: ks).length + List.idxOf p (k :: ks)) + 1 from by omega, List.getElem?_cons_succ]
        rfl
end

/-! ### a def keeps its promise, where no repr is under way -/
structure RoomG (k : Nat) (A : Around) : Prop where
  room : Room k A
  gd : A.guards = some []
theorem RoomG.mono {j k : Nat} {A : Around} (r : RoomG k A) (h : j ≤ k) : RoomG j A := ⟨r.room.mono h, r.gd⟩
theorem RoomG.deeper {k : Nat} {A : Around} (r : RoomG (k + 1) A) (env : Env) : RoomG k (A.deeper env) := ⟨r.room.deeper env, r.gd⟩
theorem RoomG.make {k : Nat} {A : Around} (r : RoomG (k + 1) A) (C : Addr) (us : List Value) (kw : List (Str × Value)) : RoomG k (A.under (.builtin "type.__call__" ⟨.ref C :: us, kw⟩)) :=
  ⟨r.room.make C us kw, by
    have : (A.under (.builtin "type.__call__" ⟨.ref C :: us, kw⟩)).guards = A.guards := by
      first | rfl | simp [Around.under, pushGuards, Code.guards, Code.isGuard, guardIds]
    rw [this]; exact r.gd⟩
/-- the promise sp of the def at f -/
structure FnG (P : Program) (w : World) (K : PySem.W.Frag) (mg : Str → Option Value) (base : Heap) (k : Nat) (f : Addr) (fd : FuncData) (ps : List Str) (sp : Sp) : Prop where
  run : ∀ (A : Around) (outer : List Env) (s : Shared) (H : Hp) (args : Args) (us : List Value) (vs : List V) (Q : VK) (E : XK), RoomG k A → Env0 P w K mg base A outer s H → vs.length = ps.length → BindsTo s fd args (ps.zip us) → Vals vs us → sp vs H Q E →
    codeAny (model P w) A (.call (.ref f) args) (CR (CX P w) outer P w H s Q E) s
section
variable {P : Program} {w : World} {K : PySem.W.Frag} {mg : Str → Option Value} {base : Heap} {j k : Nat} {f : Addr} {fd : FuncData} {ps : List Str} {sp sp' : Sp}
theorem FnG.mono (F : FnG P w K mg base j f fd ps sp) (h : j ≤ k) : FnG P w K mg base k f fd ps sp := ⟨fun A outer s H args us vs Q E hr => F.run A outer s H args us vs Q E (hr.mono h)⟩
end
section
variable {X : Cx} {k : Nat} {f C : Addr} {fd : FuncData} {ps : List Str} {sp : Sp} {Wi : WX} {E : XK}
def Back (X : Cx) (pins : List (Addr × Obj)) (σ : L2.St) (Q : VK) : Result → Shared → Prop
  | .ok (.ret u), s' => EP X pins σ Q u s'
  | .ok _, _ => False
  | .error e, s' => X.xe e s'
/-- a call's result, seen from the caller -/
theorem res_back {pins : List (Addr × Obj)} {σ : L2.St} {H : Hp} {s : Shared} {Q : VK} (tk : Takes X Wi) (I : Inv X pins σ H s) (hE : ∀ c d H', E c d H' → Wi c d σ H') {r : Result} {s' : Shared} (h : CR (CX X.prog X.w) X.stack X.prog X.w H s Q E r s') :
    Back X pins σ Q r s' := by
  cases r with
  | error e => exact tk _ _ (XE.of_call I hE h)
  | ok fl =>
    cases fl with
    | ret u => exact I.after h
    | next => exact False.elim h
    | brk => exact False.elim h
    | cont => exact False.elim h
/-- the call itself -/
theorem run_fnG {pins : List (Addr × Obj)} {σ : L2.St} {H : Hp} {s : Shared} {Q : VK} {args : Args} {us : List Value} {vs : List V} (F : FnG X.prog X.w X.K X.mg X.base k f fd ps sp) (hr : RoomG k X.A) (tk : Takes X Wi) (hE : ∀ c d H', E c d H' → Wi c d σ H')
    (I : Inv X pins σ H s) (hl : vs.length = ps.length) (hb : BindsTo s fd args (ps.zip us)) (r : Vals vs us) (h : sp vs H Q E) : codeAny (model X.prog X.w) X.A (.call (.ref f) args) (Back X pins σ Q) s :=
  codeAny_mono (F.run X.A X.stack s H args us vs Q E hr I.env0 hl hb r h) fun r s' hq => res_back tk I hE hq
end
/-- from the body -/
theorem fnG_of {P : Program} {w : World} {K : PySem.W.Frag} {mg : Str → Option Value} {base : Heap} {k : Nat} {f : Addr} {x qual : Str} {params : Arguments} {body : List Stmt} {scope : Scope} {kws : List (Str × V)} {fd : FuncData} {N ps : List Str} {sp : Sp}
    (F : FunD K x qual params body scope [] kws f fd) (S : FnScope N ps scope)
    (hbody : ∀ (cdv : Value) (A : Around) (outer : List Env) (s : Shared) (H : Hp) (vs : List V) (Q : VK) (E : XK), RoomG k (A.deeper (envOfC qual scope s.heap.objs.size f cdv)) → vs.length = ps.length → sp vs H Q E →
      ∃ t, PSs (cxOf (CX P w) P w K mg base N qual scope f cdv A outer s H E) body t ∧ t { nx := fun _ H' => Q .non H', rt := Q } (L2.start N vs) H) : FnG P w K mg base (k + 1) f fd ps sp := by
  obtain ⟨oc, od, dV, kV, doc, pm, an, cdv, ct, osl, rfl, lk, hcd, _, _⟩ := F.ex
  refine ⟨fun A outer s H args us vs Q E hr e0 hl hb r hsp => ?_⟩
  have KX : K.In s.heap := e0.mod.kin.keeps fun b o e => (e0.bs b o e).1
  have lim : s.heap.NoLimit := e0.mod.nolimit.keeps fun b o e => (e0.bs b o e).1
  have hkind : ∀ y ∈ ps.zip us, scope.names.lookup y.1 = some .local ∨ (scope.names.lookup y.1 = some .cell ∧ ((cellsFrom (s.heap.objs.size + 1) scope.names []).lookup y.1).isSome = true) := fun ⟨n, v⟩ hy => by
    rcases S.par n (List.of_mem_zip hy).1 with q | q
    · exact .inl q
    · exact .inr ⟨q, PySem.W.cellsFrom_some _ _ _ (.inl q)⟩
  refine codeAny_call_function hr.room.depth (KX _ _ lk) rfl S.co S.gen rfl (PySem.W.codeRec_of KX hcd) (hb _ _ _ _ ?_)
  refine wpAny_newFunctionEnv_cells S.kind hkind fun env he s1 x => ?_
  subst he
  refine ⟨lim.keeps x.toInCall.keep, codeAny_func ?_⟩
  obtain ⟨t, ht, hq⟩ := hbody cdv A outer s H vs Q E (hr.deeper _) hl hsp
  have I : Inv (cxOf (CX P w) P w K mg base N qual scope f cdv A outer s H E) [] (L2.start N vs) H s1 := inv_start S hr.room.hd e0 hl r x
  refine wpAny_mono (ht.run [] s1 (L2.start N vs) H _ I hq) (fun fl s' hs => ?_) fun e s' hs => hs
  cases fl with
  | ret u =>
    obtain ⟨v, σ', H', J, rv, q⟩ := hs
    exact ⟨v, H', J.os, J.bare, J.base, J.hok, rv, q⟩
  | next =>
    obtain ⟨σ', H', J, q⟩ := hs
    exact ⟨V.non, H', J.os, J.bare, J.base, J.hok, rfl, q⟩
  | brk =>
    obtain ⟨_, _, _, q⟩ := hs
    exact False.elim q
  | cont =>
    obtain ⟨_, _, _, q⟩ := hs
    exact False.elim q
end PyI
namespace PyI
open PySem PySem.Spec PyProof.Rows L2
/-! ### what the global names stand for -/
/-- the promise of a def, and how it binds -/
structure FnP (G : GE) (P : Program) (w : World) (mg : Str → Option Value) (base : Heap) (k : Nat) (f : Addr) (fi : FnI) : Prop where
  ex : ∃ fd, FnG P w G.K mg base k f fd fi.ps (spOf G fi.ps.length fi.sem) ∧ ∀ (s : Shared) (us ws : List Value) (ks : List Str), kwFit fi.np fi.ps us.length ks = true → ks.length = ws.length → us.length + ws.length = fi.ps.length →
    BindsTo s fd ⟨us, ks.zip ws⟩ (fi.ps.zip (bindW fi.ps ks (us ++ ws)))
  kp : PySem.W.keepIn G.K (.ref f) = true
theorem FnP.mono {G : GE} {P : Program} {w : World} {mg : Str → Option Value} {base : Heap} {j k : Nat} {f : Addr} {fi : FnI} (F : FnP G P w mg base j f fi) (h : j ≤ k) : FnP G P w mg base k f fi :=
  ⟨let ⟨fd, a, b⟩ := F.ex; ⟨fd, a.mono h, b⟩, F.kp⟩
/-- a plain class of the text, for isinstance -/
structure InsT (K : PySem.W.Frag) (C : Addr) : Prop where
  cl : Cls K C
  ha : PySem.W.findIn K (.ref C) "__class__" = some (some (.builtin "object.__class__"))
  hn : PySem.W.specialIn K (.builtin "object.__class__") "__get__" = some (some (.builtin "getset_descriptor.__get__"))
  ht : PySem.W.takesIn K (.builtin "object.__class__") = some true
  hm : PySem.W.mroIn K C (.type "object") = some true
def bTypes : List String := ["NoneType", "bool", "int", "str", "tuple", "list", "dict"]
structure Tops (G : GE) (Γ : Glo) (P : Program) (w : World) (mg : Str → Option Value) (base : Heap) (k : Nat) : Prop where
  con : ∀ x c, Γ.con x = some c → ∃ u v, mg x = some u ∧ RelV v u ∧ ∀ g M H, RW G g M H c v
  fn : ∀ x fi, Γ.fn x = some fi → ∃ f, mg x = some (.ref f) ∧ FnP G P w mg base k f fi
  mks : ∀ c fi, Γ.mt c "__init__" = some fi → ∃ C f, G.cA c = some C ∧ mg c = some (.ref C) ∧ Mk G.K C f ∧ FnP G P w mg base k f fi
  pl : ∀ c, Γ.pl c = true → ∃ C, G.cA c = some C ∧ mg c = some (.ref C) ∧ InsT G.K C ∧ (∀ t ∈ bTypes, PySem.W.kitOne G.K (.ref C) (.type t) = some false ∧ PySem.W.kitOne G.K (.type t) (.ref C) = some false) ∧
    ∀ d D, Γ.pl d = true → G.cA d = some D → PySem.W.kitOne G.K (.ref C) (.ref D) = some (decide (c = d))
  mt : ∀ c m fi, Γ.mt c m = some fi → ∃ C f, G.cA c = some C ∧ Cls G.K C ∧ Meth G.K C m f ∧ FnP G P w mg base k f fi

section
variable {G : GE} {Γ : Glo} {cu : Option Cu} {Wi : WX} {X : Cx} {g g' g1 : Gh} {M M' M1 : Store} {H H' H1 : Hp} {σ : L2.St} {l : LM} {N : List Str} {sc : Scope} {calm : Bool} {a b c : Expr} {sa sb s_c : Sm} {pos : Pos}

/-! ### short lists -/
theorem evEs_one {α : Type} {f : List W → Store → Res α} : ((evEs [sa] l M).bind f) = (sa.v l M).bind fun x M1 => f [x] M1 := by
  simp only [evEs]
  cases sa.v l M <;> rfl
theorem evEs_two {α : Type} {f : List W → Store → Res α} : ((evEs [sa, sb] l M).bind f) = (sa.v l M).bind fun x M1 => (sb.v l M1).bind fun y M2 => f [x, y] M2 := by
  simp only [evEs]
  cases sa.v l M with
  | ok x M1 => simp only [Res.bind]; cases sb.v l M1 <;> rfl
  | exc c ns ws M1 => rfl
  | err => rfl
theorem evEs_three {α : Type} {f : List W → Store → Res α} : ((evEs [sa, sb, s_c] l M).bind f) = (sa.v l M).bind fun x M1 => (sb.v l M1).bind fun y M2 => (s_c.v l M2).bind fun z M3 => f [x, y, z] M3 := by
  simp only [evEs]
  cases sa.v l M with
  | ok x M1 =>
    simp only [Res.bind]
    cases sb.v l M1 with
    | ok y M2 => simp only [Res.bind]; cases s_c.v l M2 <;> rfl
    | exc c ns ws M1 => rfl
    | err => rfl
  | exc c ns ws M1 => rfl
  | err => rfl
/-! ### names and constants -/
theorem px_var {i : Nat} {x : Str} (hK : X.K = G.K) (hN : X.N[i]? = some x) (hv : Vis X.env.scope x) (hd : (x == ("__debug__" : Str)) = false) (hcd : (x == ("__classdict__" : Str)) = false) :
    PX G cu Wi X (.Name x pos) (.of fun l M => match l[i]? with | some (some w) => .ok w M | _ => .err) := by
  refine PX.of hK ((pe_var hN hv hd hcd).imp fun σ H Q ⟨g, M, l, a, p⟩ => ?_) (fun _ => rfl) rfl
  cases h : l[i]? with
  | none => simp only [h] at p; exact p.elim
  | some o =>
    cases o with
    | none => simp only [h] at p; exact p.elim
    | some w =>
      simp only [h] at p
      obtain ⟨v, h1, h2⟩ := a.lr.2 i w h
      exact ⟨v, h1, p.now a.abs h2⟩
/-- a constant that needs no object -/
theorem px_const {e : Expr} {w : W} {v : V} (hK : X.K = G.K) (h : PE X e (tC v)) (r : ∀ g M H, RW G g M H w v) (he : ∀ whole, isTrue e X.env whole = (do let v ← whole; standAt e.pos; holding [v] (truthy v))) (hs : notStar e = true) :
    PX G cu Wi X e (.of fun _ M => .ok w M) :=
  PX.of hK (h.imp fun σ H Q ⟨g, M, l, a, p⟩ => p.now a.abs (r _ _ _)) he hs
theorem px_glo {x : Str} {k : Nat} (hK : X.K = G.K) (T : Tops G Γ X.prog X.w X.mg X.base k) (hg : Gl X x) (hs : (Γ.con x).isSome = true) (hd : (x == ("__debug__" : Str)) = false) :
    PX G cu Wi X (.Name x pos) (.of fun _ M => need (Γ.con x) fun w => .ok w M) := by
  obtain ⟨w, hw⟩ := Option.isSome_iff_exists.mp hs
  obtain ⟨u, v, h1, h2, h3⟩ := T.con x w hw
  have := px_const (G := G) (cu := cu) (Wi := Wi) (e := .Name x pos) hK (pe_glob hg h1 h2 hd) h3 (fun _ => rfl) rfl
  rw [hw]; exact this

/-! ### tests -/
/-- a value that is a bool: as a test -/
theorem test_bl {v : LM → Store → Res W} {Q : Bool → Hp → Prop} (hb : ∀ l M r M1, v l M = .ok r M1 → ∃ k, r = .bl k) (h : TTof G cu Wi (dflT v) σ H Q) : TEof G cu Wi v σ H (fun x H' => ∃ k, x = .bl k ∧ Q k H') := by
  obtain ⟨g, M, l, a, p⟩ := h
  refine ⟨g, M, l, a, ?_⟩
  unfold dflT at p
  cases hr : v l M with
  | ok r M1 =>
    obtain ⟨k, rfl⟩ := hb l M r M1 hr
    rw [hr] at p
    intro g' v' H' a' e' rv
    rw [show v' = .bl k from rv]
    exact ⟨k, rfl, p g' k H' a' e' rfl⟩
  | exc c ns ws M1 => rw [hr] at p; exact p
  | err => rw [hr] at p; exact p
/-! ### operations -/
theorem px_bin {op : Operator} {fz : Bool} (hK : X.K = G.K) (ha : PX G cu Wi X a sa) (hb : PX G cu Wi X b sb) : PX G cu Wi X (.BinOp a op b pos) (.of fun l M => (evEs [sa, sb] l M).bind fun vs M1 => prm (.bin op fz) vs M1) :=
  PX.of hK ((pe_op (op_bin op) ha.pe hb.pe).imp fun σ H Q h => by
    rw [hK]
    exact tOp_of (serves_bin (fz := fz)) h) (fun _ => rfl) rfl
theorem evEs_cmp_bl {op : CmpOp} : ∀ (l : LM) (M : Store) (r : W) (M1 : Store), ((evEs [sa, sb] l M).bind fun vs M1 => prm (.cmp op) vs M1) = .ok r M1 → ∃ k, r = .bl k := by
  intro l M r M1 h
  cases q : evEs [sa, sb] l M with
  | ok vs M2 =>
    rw [q] at h
    have h : two (cmpW op) vs M2 = .ok r M1 := h
    unfold two at h
    split at h
    · exact (cmpW_bl h).2
    · cases h
  | exc c ns ws M2 => rw [q] at h; cases h
  | err => rw [q] at h; cases h
theorem px_cmp {op : CmpOp} (hK : X.K = G.K) (hu : X.A.units + 200 < cLine) (ha : PX G cu Wi X a sa) (hb : PX G cu Wi X b sb) (hm : behindInMarks op b = false) : PX G cu Wi X (.Compare a [op] [b] pos) (.of fun l M => (evEs [sa, sb] l M).bind fun vs M1 => prm (.cmp op) vs M1) := by
  refine ⟨(pe_cmpR (op_cmp (by omega) op) ha.pe hb.pe hm).imp fun σ H Q h => ?_, (pt_cmpR (op_cmp (by omega) op) ha.pe hb.pe hm).imp fun σ H Q h => ?_, rfl⟩
  · rw [hK]; exact tOp_of serves_cmp h
  · rw [hK]; exact tOp_of serves_cmp (test_bl evEs_cmp_bl h)
theorem px_neg (hK : X.K = G.K) (ha : PX G cu Wi X a sa) : PX G cu Wi X (.UnaryOp .USub a pos) (.of fun l M => (evEs [sa] l M).bind fun vs M1 => prm .neg vs M1) := by
  refine PX.of hK ((pe_un un_neg ha.pe).imp fun σ H Q ⟨g, M, l, at_, p⟩ => ?_) (fun _ => rfl) rfl
  refine ⟨g, M, l, at_, ?_⟩
  have p1 : Post G Wi (RW G) g M H σ ((sa.v l M).bind fun x M1 => negW x M1) Q := by dsimp only at p; rw [evEs_one] at p; exact p
  refine (p1.bind (rel1 := RW G) at_.abs.len).imp fun v H1 ⟨g1, M1, x, a1, e1, r1, p2⟩ => ?_
  obtain ⟨i, hi, p3⟩ := Post.need p2
  cases x <;> first | (cases hi; done) | skip
  cases hi
  exact ⟨i, r1, p3.now a1 rfl⟩
/-- the truth of a value, then -/
theorem truthy_then {pins : List (Addr × Obj)} {s : Shared} {x : W} {v : V} {u : Value} {Q : Bool → Shared → Prop} {k : Bool} (hK : X.K = G.K) (I : Inv X pins σ H s) (a : Abs G g M H) (r : RW G g M H x v) (rv : RelV v u) (hk : truW M x = some k)
    (h : ∀ s', Inv X pins σ H s' → Q k s') : wpAny (model X.prog X.w) X.A (truthy u) Q X.xe s :=
  thn (tru_ok pins s σ H v u (fun b H' => b = k ∧ H' = H) I rv ⟨k, by rw [hK]; exact tru_of a hk r, rfl, rfl⟩) fun b s' ⟨H', I', e1, e2⟩ => by
    subst e1 e2; exact h s' I'
theorem px_not (hK : X.K = G.K) (ha : PX G cu Wi X a sa) : PX G cu Wi X (.UnaryOp .Not a pos) ⟨fun l M => (sa.v l M).bind fun w M1 => need (truW M1 w) fun b => .ok (.bl (!b)) M1, fun l M => (sa.t l M).bind fun k M1 => .ok (!k) M1⟩ := by
  refine ⟨⟨fun pins s σ H Q I q => ?_⟩, (pt_not ha.pt).imp fun σ H Q q => ?_, rfl⟩
  · refine UnaryOp_ (thn (ha.pe.run pins s σ H _ I (TOf.bind (fa := sa.v) (f := fun _ w M1 => need (truW M1 w) fun b => .ok (W.bl (!b)) M1) (rel1 := RW G) q)) fun v s1 ⟨x, H1, I1, r1, g1, M1, l, w, a1, rw1, p⟩ => ?_)
    obtain ⟨k, hk, p⟩ := Post.need p
    exact not_of (truthy_then hK I1 a1.abs rw1 r1 hk fun s2 I2 => ⟨.bl (!k), H1, I2, rfl, p.now a1.abs rfl⟩)
  · refine (TOf.bind (fa := sa.t) (f := fun _ k M1 => .ok (!k) M1) (rel1 := relB) q).imp fun k H1 ⟨g1, M1, l, k', a1, r1, p⟩ => ?_
    rw [show k = k' from r1.symm]
    exact p.now a1.abs rfl
theorem evAndT_one (s : Sm) : evAndT [s] = s.t := by
  funext l M
  simp only [evAndT]
  cases s.t l M with
  | ok k M1 => cases k <;> rfl
  | exc c ns ws M1 => rfl
  | err => rfl
theorem evOrT_one (s : Sm) : evOrT [s] = s.t := by
  funext l M
  simp only [evOrT]
  cases s.t l M with
  | ok k M1 => cases k <;> rfl
  | exc c ns ws M1 => rfl
  | err => rfl
theorem px_and (hK : X.K = G.K) : ∀ {xs : List Expr} {ss : List Sm} {x : Expr} {s : Sm}, PX G cu Wi X x s → PXs G cu Wi X xs ss → PE X (.BoolOp .And (x :: xs) pos) (TEof G cu Wi (evAnd (s :: ss))) ∧ PW X (.BoolOp .And (x :: xs) pos) (TTof G cu Wi (evAndT (s :: ss)))
  | _, _, x, s, h, .nil => by
    refine ⟨pe_one h.pe, ?_⟩
    rw [evAndT_one]
    exact pw_and1 h.pt
  | _, _, x, s, h, .cons (x := y) (xs := ys) (s := t) (ss := ts) h1 hr => by
    obtain ⟨k1, k2⟩ := px_and hK h1 hr
    refine ⟨⟨fun pins st σ H Q I q => ?_⟩, ⟨fun wh pins st σ H Q I q => (pw_and h.pt k2).run wh pins st σ H Q I ?_⟩⟩
    · refine BoolOp_and (thn (h.pe.run pins st σ H _ I (TOf.bind (fa := s.v) (f := fun l w M1 => need (truW M1 w) fun k => if k then evAnd (t :: ts) l M1 else .ok w M1) (rel1 := RW G) q)) fun v s1 ⟨xv, H1, I1, r1, g1, M1, l, w, a1, rw1, p⟩ => ?_)
      obtain ⟨k, hk, p⟩ := Post.need p
      refine truthy_then hK I1 a1.abs rw1 r1 hk fun s2 I2 => ?_
      cases k with
      | true => exact k1.run pins s2 σ H1 Q I2 ⟨g1, M1, l, a1, p⟩
      | false => exact ⟨xv, H1, I2, r1, p.now a1.abs rw1⟩
    · refine (TOf.bind (fa := s.t) (f := fun l k M1 => if k then evAndT (t :: ts) l M1 else .ok false M1) (rel1 := relB) q).imp fun k H1 ⟨g1, M1, l, k', a1, r1, p⟩ => ?_
      have e : k' = k := r1
      subst e
      cases k' with
      | true => exact ⟨g1, M1, l, a1, p⟩
      | false => exact p.now a1.abs rfl
theorem px_or (hK : X.K = G.K) : ∀ {xs : List Expr} {ss : List Sm} {x : Expr} {s : Sm}, PX G cu Wi X x s → PXs G cu Wi X xs ss → PE X (.BoolOp .Or (x :: xs) pos) (TEof G cu Wi (evOr (s :: ss))) ∧ PW X (.BoolOp .Or (x :: xs) pos) (TTof G cu Wi (evOrT (s :: ss)))
  | _, _, x, s, h, .nil => by
    refine ⟨pe_one h.pe, ?_⟩
    rw [evOrT_one]
    exact pw_or1 h.pt
  | _, _, x, s, h, .cons (x := y) (xs := ys) (s := t) (ss := ts) h1 hr => by
    obtain ⟨k1, k2⟩ := px_or hK h1 hr
    refine ⟨⟨fun pins st σ H Q I q => ?_⟩, ⟨fun wh pins st σ H Q I q => (pw_or h.pt k2).run wh pins st σ H Q I ?_⟩⟩
    · refine BoolOp_or (thn (h.pe.run pins st σ H _ I (TOf.bind (fa := s.v) (f := fun l w M1 => need (truW M1 w) fun k => if k then .ok w M1 else evOr (t :: ts) l M1) (rel1 := RW G) q)) fun v s1 ⟨xv, H1, I1, r1, g1, M1, l, w, a1, rw1, p⟩ => ?_)
      obtain ⟨k, hk, p⟩ := Post.need p
      refine truthy_then hK I1 a1.abs rw1 r1 hk fun s2 I2 => ?_
      cases k with
      | false => exact k1.run pins s2 σ H1 Q I2 ⟨g1, M1, l, a1, p⟩
      | true => exact ⟨xv, H1, I2, r1, p.now a1.abs rw1⟩
    · refine (TOf.bind (fa := s.t) (f := fun l k M1 => if k then .ok true M1 else evOrT (t :: ts) l M1) (rel1 := relB) q).imp fun k H1 ⟨g1, M1, l, k', a1, r1, p⟩ => ?_
      have e : k' = k := r1
      subst e
      cases k' with
      | false => exact ⟨g1, M1, l, a1, p⟩
      | true => exact p.now a1.abs rfl
theorem px_ife (hc : PX G cu Wi X c s_c) (ha : PX G cu Wi X a sa) (hb : PX G cu Wi X b sb) :
    PX G cu Wi X (.IfExp c a b pos) ⟨fun l M => (s_c.t l M).bind fun k M1 => if k then sa.v l M1 else sb.v l M1, fun l M => (s_c.t l M).bind fun k M1 => if k then sa.t l M1 else sb.t l M1⟩ := by
  refine ⟨(pe_ifExp hc.pt ha.pe hb.pe).imp fun σ H Q q => ?_, ⟨fun pins st σ H Q I q => ?_⟩, rfl⟩
  · refine (TOf.bind (fa := s_c.t) (f := fun l k M1 => if k then sa.v l M1 else sb.v l M1) (rel1 := relB) q).imp fun k H1 ⟨g1, M1, l, k', a1, r1, p⟩ => ?_
    have e : k' = k := r1
    subst e
    cases k' with
    | true => exact ⟨g1, M1, l, a1, p⟩
    | false => exact ⟨g1, M1, l, a1, p⟩
  · have e : PySem.isTrue (.IfExp c a b pos) X.env (eval (.IfExp c a b pos) X.env) = (PySem.isTrue c X.env (eval c X.env) >>= fun k => if k then PySem.isTrue a X.env (eval a X.env) else PySem.isTrue b X.env (eval b X.env)) := by rw [PySem.isTrue]
    rw [e]
    refine wpAny_bind (thn (hc.pt.run pins st σ H _ I (TOf.bind (fa := s_c.t) (f := fun l k M1 => if k then sa.t l M1 else sb.t l M1) (rel1 := relB) q)) fun k s1 ⟨H1, I1, g1, M1, l, k', a1, r1, p⟩ => ?_)
    have e : k' = k := r1
    subst e
    cases k' with
    | true => exact ha.pt.run pins s1 σ H1 Q I1 ⟨g1, M1, l, a1, p⟩
    | false => exact hb.pt.run pins s1 σ H1 Q I1 ⟨g1, M1, l, a1, p⟩
theorem px_chain {op1 op2 : CmpOp} (hK : X.K = G.K) (hu : X.A.units + 200 < cLine) (ha : PX G cu Wi X a sa) (hb : PX G cu Wi X b sb) (hc : PX G cu Wi X c s_c) (hm : lastMarks [op1, op2] [b, c] = false) :
    PX G cu Wi X (.Compare a [op1, op2] [b, c] pos) (.of (evChain op1 op2 sa sb s_c)) := by
  have key : ∀ {σ : L2.St} {H : Hp} {Q : VK}, TEof G cu Wi (evChain op1 op2 sa sb s_c) σ H Q → tChain (rCmp X.K op1) (rCmp X.K op2) (TEof G cu Wi sa.v) (TEof G cu Wi sb.v) (TEof G cu Wi s_c.v) σ H Q := by
    intro σ H Q ⟨g, M, l, a, p⟩
    rw [hK]
    refine ⟨g, M, l, a, (Post.bind (rel1 := RW G) a.abs.len p).imp fun v H1 ⟨g1, M1, x, a1, e1, r1, p1⟩ => ?_⟩
    have at1 := a.evo a1 e1
    refine ⟨g1, M1, l, at1, (Post.bind (rel1 := RW G) a1.len p1).imp fun u H2 ⟨g2, M2, y, a2, e2, r2, p2⟩ => ?_⟩
    have at2 := at1.evo a2 e2
    refine serves_cmp Wi σ g2 M2 H2 x y v u _ a2 (r1.evo a1.len e2) r2 ?_
    cases q : cmpW op1 x y M2 with
    | err => rw [q] at p2; exact p2.elim
    | exc c ns ws M3 => rw [q] at p2; exact p2
    | ok r M3 =>
      obtain ⟨rfl, k, rfl⟩ := cmpW_bl q
      rw [q] at p2
      intro g3 z H3 a3 e3 r3
      refine ⟨k, r3, ?_⟩
      have p3 := Post.evo a2.len e3 (show Post G Wi (RW G) g2 M3 H2 σ (if k then (s_c.v l M3).bind fun z M4 => cmpW op2 y z M4 else .ok (.bl k) M3) Q from p2)
      cases k with
      | false => exact p3.now a3 rfl
      | true =>
        refine ⟨g3, M3, l, at2.evo a3 e3, (Post.bind (rel1 := RW G) a3.len p3).imp fun u' H4 ⟨g4, M4, y', a4, e4, r4, p4⟩ => ?_⟩
        exact serves_cmp Wi σ g4 M4 H4 y y' u u' _ a4 ((r2.evo a2.len e3).evo a3.len e4) r4 p4
  have hbl : ∀ (l : LM) (M : Store) (r : W) (M1 : Store), evChain op1 op2 sa sb s_c l M = .ok r M1 → ∃ k, r = .bl k := by
    intro l M r M1 h
    unfold evChain at h
    cases h1 : sa.v l M with
    | ok x M2 =>
      rw [h1] at h
      simp only [Res.bind] at h
      cases h2 : sb.v l M2 with
      | ok y M3 =>
        rw [h2] at h
        simp only at h
        cases h3 : cmpW op1 x y M3 with
        | ok r' M4 =>
          obtain ⟨rfl, k, rfl⟩ := cmpW_bl h3
          rw [h3] at h
          simp only [truW, need] at h
          cases k with
          | false => simp at h; exact ⟨false, h.1.symm⟩
          | true =>
            simp only [if_true] at h
            cases h4 : s_c.v l M4 with
            | ok z M5 =>
              rw [h4] at h
              exact (cmpW_bl h).2
            | exc c ns ws M1 => rw [h4] at h; cases h
            | err => rw [h4] at h; cases h
        | exc c ns ws M1 => rw [h3] at h; cases h
        | err => rw [h3] at h; cases h
      | exc c ns ws M1 => rw [h2] at h; cases h
      | err => rw [h2] at h; cases h
    | exc c ns ws M1 => rw [h1] at h; cases h
    | err => rw [h1] at h; cases h
  exact ⟨(pe_chain (op_cmp (by omega) op1) (op_cmp (by omega) op2) ha.pe hb.pe hc.pe hm).imp fun σ H Q h => key h,
    (pt_chain (op_cmp (by omega) op1) (op_cmp (by omega) op2) ha.pe hb.pe hc.pe hm).imp fun σ H Q h => key (test_bl hbl h), rfl⟩
end
end PyI
namespace PyI
open PySem PySem.Spec PyProof.Rows L2
section
variable {G : GE} {Γ : Glo} {cu : Option Cu} {Wi : WX} {X : Cx} {g g' g1 : Gh} {M M' M1 : Store} {H H' H1 : Hp} {σ : L2.St} {l : LM} {N : List Str} {sc : Scope} {calm : Bool} {a b c : Expr} {sa sb s_c : Sm} {pos : Pos}
/-! ### items -/
def rIxDc : R2 := fun x y H Q => ∃ a v, x = .ref a ∧ DGet H a y (some v) ∧ Q v H
theorem ix_dict (hu : X.A.units + 1 < cLine) : IxR X rIxDc := by
  intro value slice pins s σ H x y v u Q I rx ry h hs
  obtain ⟨a, z, rfl, gt, q⟩ := h
  cases rx
  exact tail_any (dict_typeIs I gt) PySem.F.slot_dict_getitem.lookup (d_getItem hu I gt ry fun w' s' I' rw' => ⟨z, H, I', rw', q⟩) hs
theorem valV_zip {k : Key} {v : W} : ∀ {kvs : List (Key × V)} {ws : List W}, RWs G g M H ws (kvs.map (·.2)) → lookK k (kvs.map (·.1)) ws = some v → ∃ u, valV kvs k = some u ∧ RW G g M H v u
  | [], _, _, h => by simp [lookK] at h
  | (a, x) :: kvs, [], r, h => by simp [lookK] at h
  | (a, x) :: kvs, w :: ws, r, h => by
    obtain ⟨x', r', e, h1, h2⟩ := r
    cases e
    rw [List.map_cons] at h
    unfold lookK at h
    unfold valV
    by_cases q : a = k
    · rw [if_pos q] at h
      cases h
      exact ⟨x, by simp [List.find?_cons, q], h1⟩
    · rw [if_neg q] at h
      obtain ⟨u, e1, e2⟩ := valV_zip h2 h
      exact ⟨u, by rw [List.find?_cons_of_neg (by simpa using q)]; exact e1, e2⟩
theorem serves_ix : Serves2 G (fun x y H Q => rIx G.K x y H Q ∨ rIxDc x y H Q) idxW := by
  intro Wi σ g M H x y v u Q a rx ry p
  have dic : ∀ {x : W} {v : V} {ks : List Key} {ws : List W} {k : Key}, RW G g M H x v → vD M x = some (ks, ws) → u = kV k → Post G Wi (RW G) g M H σ (need (lookK k ks ws) fun w => .ok w M) Q → rIxDc v u H Q := by
    intro x v ks ws k rx hd hu p
    obtain ⟨q, kvs, rfl, h1, rfl, h3⟩ := vD_ok a hd rx
    obtain ⟨w, hw, p⟩ := p.need
    obtain ⟨z, e1, e2⟩ := valV_zip h3 hw
    exact ⟨q, z, rfl, .inl ⟨kvs, k, .of h1, hu, e1.symm⟩, p.now a e2⟩
  cases y with
  | int i =>
    have hu : u = .int i := ry
    have gen : ∀ {x : W} {v : V}, RW G g M H x v → Post G Wi (RW G) g M H σ (match vD M x with
        | some (ks, ws) => need (lookK (Sum.inl i) ks ws) fun w => .ok w M
        | none => need (vS M x) fun ws => need (atI ws i) fun w => .ok w M) Q → rIx G.K v u H Q ∨ rIxDc v u H Q := by
      intro x v rx p
      cases hd : vD M x with
      | some kw =>
        obtain ⟨ks, ws⟩ := kw
        rw [hd] at p
        exact .inr (dic (k := Sum.inl i) rx hd hu p)
      | none =>
        rw [hd] at p
        obtain ⟨ws, hs, p⟩ := p.need
        obtain ⟨w, hw, p⟩ := p.need
        obtain ⟨q, vs, rfl, h1, h2⟩ := vS_ok a hs rx
        unfold atI at hw
        obtain ⟨j, hj, hw⟩ := Option.bind_eq_some_iff.mp hw
        obtain ⟨z, hz, rz⟩ := h2.get hw
        have at_ : atI vs i = some z := by unfold atI; rw [← h2.length, hj]; exact hz
        rcases h1 with h1 | h1
        · exact .inl (.inl ⟨q, vs, i, z, rfl, hu, h1, at_, p.now a rz⟩)
        · exact .inl (.inr (.inl ⟨q, vs, i, z, rfl, hu, h1, at_, p.now a rz⟩))
    cases x with
    | str z =>
      simp only [idxW] at p
      split at p
      · rename_i hz
        obtain ⟨c, hc, p⟩ := p.need
        exact .inl (.inr (.inr ⟨z, i, c, rx, hu, hz, hc, p.now a rfl⟩))
      · exact p.no.elim
    | _ => exact gen rx p
  | str z =>
    have p : Post G Wi (RW G) g M H σ (need (vD M x) fun (ks, ws) => need (lookK (Sum.inr z) ks ws) fun w => .ok w M) Q := by cases x <;> exact p
    obtain ⟨⟨ks, ws⟩, hd, p⟩ := p.need
    exact .inr (dic (k := Sum.inr z) rx hd ry p)
  | _ => cases x <;> exact p.no.elim
def plainIxB : Expr → Bool
  | .Slice _ _ _ _ => false
  | _ => true
theorem plainIx_of {b : Expr} (h : plainIxB b = true) : PlainIx b := by
  intro o i
  cases b <;> first | rfl | cases h
theorem px_idx (hK : X.K = G.K) (hu : X.A.units + 200 < cLine) (ha : PX G cu Wi X a sa) (hb : PX G cu Wi X b sb) (hp : plainIxB b = true) : PX G cu Wi X (.Subscript a b pos) (.of fun l M => (evEs [sa, sb] l M).bind fun vs M1 => prm .idx vs M1) :=
  PX.of hK ((pe_ix (ix_seq.or (ix_dict (by omega))) ha.pe hb.pe (plainIx_of hp)).imp fun σ H Q h => by
    rw [hK]
    exact tOp_of serves_ix h) (fun _ => rfl) rfl
/-! ### slices -/
theorem cutW_rws {ws : List W} {vs : List V} {lo hi : Option Int} (r : RWs G g M H ws vs) : RWs G g M H (cutW ws lo hi) (cutV vs lo hi) := by
  unfold cutW cutV
  rw [r.length]
  exact (r.drop _).take _
theorem cutW_all {α : Type} {ws : List α} {lo hi : Option Int} (h : HT.sIx ws.length 0 lo = 0 ∧ HT.sIx ws.length ws.length hi = ws.length) : cutW ws lo hi = ws := by
  unfold cutW
  rw [h.1, h.2]; simp
def rSlA3 (K : PySem.W.Frag) : V → Option Int → Option Int → Hp → VK → Prop := fun x lo hi H Q => rSlL K x lo hi H Q ∨ (rSlA K x lo hi H Q ∨ rSlS x lo hi H Q)
theorem sl_ok {fz : Bool} {x : W} {v : V} {lo hi : Option Int} {Q : VK} (a : Abs G g M H) (r : RW G g M H x v) (p : Post G Wi (RW G) g M H σ (slcW fz x lo hi M) Q) : rSlA3 G.K v lo hi H Q := by
  have gen : ∀ {x : W} {v : V}, RW G g M H x v → Post G Wi (RW G) g M H σ (need (vL M x) fun ws => newL fz (cutW ws lo hi) M) Q → rSlA3 G.K v lo hi H Q := by
    intro x v r p
    obtain ⟨ws, hs, p⟩ := p.need
    obtain ⟨q, vs, rfl, h1, h2⟩ := vL_ok a hs r
    exact .inl ⟨q, vs, rfl, .inl h1, fun l hl => Post.newL a (cutW_rws h2) p hl⟩
  cases x with
  | str z =>
    simp only [slcW] at p
    split at p
    · rename_i hz
      exact .inr (.inr ⟨z, r, hz, p.now a rfl⟩)
    · exact p.no.elim
  | tup ws =>
    obtain ⟨q, vs, rfl, h1, h2⟩ := r
    refine .inr (.inl ⟨q, vs, rfl, h1.sq, fun hw => ?_, fun hw l hl => ?_⟩)
    · have e : cutW ws lo hi = ws := cutW_all (by rw [h2.length]; exact hw)
      have p : Post G Wi (RW G) g M H σ (.ok (.tup (cutW ws lo hi)) M) Q := p
      rw [e] at p
      exact p.now a ⟨q, vs, rfl, h1, h2⟩
    · obtain ⟨a1, e1, r1⟩ := a.newTup hl (cutW_rws (lo := lo) (hi := hi) h2)
      exact p _ _ _ a1 e1 r1
  | _ => exact gen r p
theorem intOf_ok {x : W} {v : V} {i : Int} (h : intOf x = some i) (r : RW G g M H x v) : v = .int i := by
  cases x <;> first | (cases h; done) | skip
  cases h
  exact r
theorem px_slc0 {fz : Bool} {p2 : Pos} (hK : X.K = G.K) (ha : PX G cu Wi X a sa) : PX G cu Wi X (.Subscript a (.Slice none none none p2) pos) (.of fun l M => (evEs [sa] l M).bind fun vs M1 => prm (.slc false false fz) vs M1) := by
  refine PX.of hK ((pe_slice (sl_list.or (sl_tupA.or sl_str)) ha.pe po_none po_none).imp fun σ H Q ⟨g, M, l, at_, p⟩ => ?_) (fun _ => rfl) rfl
  dsimp only at p
  rw [evEs_one] at p
  refine ⟨g, M, l, at_, (Post.bind (rel1 := RW G) at_.abs.len p).imp fun v H1 ⟨g1, M1, x, a1, e1, r1, p1⟩ => ?_⟩
  have := sl_ok a1 r1 p1
  rw [← hK] at this
  exact this
theorem px_slcL {fz : Bool} {p2 : Pos} (hK : X.K = G.K) (ha : PX G cu Wi X a sa) (hb : PX G cu Wi X b sb) : PX G cu Wi X (.Subscript a (.Slice (some b) none none p2) pos) (.of fun l M => (evEs [sa, sb] l M).bind fun vs M1 => prm (.slc true false fz) vs M1) := by
  refine PX.of hK ((pe_slice (sl_list.or (sl_tupA.or sl_str)) ha.pe (po_some hb.pe) po_none).imp fun σ H Q ⟨g, M, l, at_, p⟩ => ?_) (fun _ => rfl) rfl
  dsimp only at p
  rw [evEs_two] at p
  refine ⟨g, M, l, at_, (Post.bind (rel1 := RW G) at_.abs.len p).imp fun v H1 ⟨g1, M1, x, a1, e1, r1, p1⟩ => ?_⟩
  refine ⟨g1, M1, l, at_.evo a1 e1, (Post.bind (rel1 := RW G) a1.len p1).imp fun u H2 ⟨g2, M2, y, a2, e2, r2, p2⟩ => ?_⟩
  obtain ⟨i, hi, p2⟩ := Post.need p2
  have := sl_ok a2 (r1.evo a1.len e2) p2
  rw [← hK] at this
  exact ⟨i, intOf_ok hi r2, this⟩
theorem px_slcH {fz : Bool} {p2 : Pos} (hK : X.K = G.K) (ha : PX G cu Wi X a sa) (hb : PX G cu Wi X b sb) : PX G cu Wi X (.Subscript a (.Slice none (some b) none p2) pos) (.of fun l M => (evEs [sa, sb] l M).bind fun vs M1 => prm (.slc false true fz) vs M1) := by
  refine PX.of hK ((pe_slice (sl_list.or (sl_tupA.or sl_str)) ha.pe po_none (po_some hb.pe)).imp fun σ H Q ⟨g, M, l, at_, p⟩ => ?_) (fun _ => rfl) rfl
  dsimp only at p
  rw [evEs_two] at p
  refine ⟨g, M, l, at_, (Post.bind (rel1 := RW G) at_.abs.len p).imp fun v H1 ⟨g1, M1, x, a1, e1, r1, p1⟩ => ?_⟩
  refine ⟨g1, M1, l, at_.evo a1 e1, (Post.bind (rel1 := RW G) a1.len p1).imp fun u H2 ⟨g2, M2, y, a2, e2, r2, p2⟩ => ?_⟩
  obtain ⟨i, hi, p2⟩ := Post.need p2
  have := sl_ok a2 (r1.evo a1.len e2) p2
  rw [← hK] at this
  exact ⟨i, intOf_ok hi r2, this⟩
theorem px_slcB {fz : Bool} {p2 : Pos} (hK : X.K = G.K) (ha : PX G cu Wi X a sa) (hb : PX G cu Wi X b sb) (hc : PX G cu Wi X c s_c) : PX G cu Wi X (.Subscript a (.Slice (some b) (some c) none p2) pos) (.of (evSlc fz sa sb s_c)) := by
  refine PX.of hK ((pe_slice (sl_list.or (sl_tupA.or sl_str)) ha.pe (po_some hb.pe) (po_some hc.pe)).imp fun σ H Q ⟨g, M, l, at_, p⟩ => ?_) (fun _ => rfl) rfl
  refine ⟨g, M, l, at_, (Post.bind (rel1 := RW G) at_.abs.len p).imp fun v H1 ⟨g1, M1, x, a1, e1, r1, p1⟩ => ?_⟩
  have at1 := at_.evo a1 e1
  refine ⟨g1, M1, l, at1, (Post.bind (rel1 := RW G) a1.len p1).imp fun u H2 ⟨g2, M2, y, a2, e2, r2, p2⟩ => ?_⟩
  have at2 := at1.evo a2 e2
  obtain ⟨i, hi, p2⟩ := Post.need p2
  refine ⟨i, intOf_ok hi r2, g2, M2, l, at2, (Post.bind (rel1 := RW G) a2.len p2).imp fun w H3 ⟨g3, M3, z, a3, e3, r3, p3⟩ => ?_⟩
  obtain ⟨j, hj, p3⟩ := Post.need p3
  have := sl_ok a3 ((r1.evo a1.len e2).evo a2.len e3) p3
  rw [← hK] at this
  exact ⟨j, intOf_ok hj r3, this⟩

/-! ### displays -/
theorem px_tup {xs : List Expr} {ss : List Sm} {k : Nat} (hK : X.K = G.K) (h : PXs G cu Wi X xs ss) : PX G cu Wi X (.Tuple xs k pos) (.of fun l M => (evEs ss l M).bind fun vs M1 => prm .tup vs M1) := by
  refine PX.of hK ((pe_tup h.pa).imp fun σ H Q q => ?_) (fun _ => rfl) rfl
  refine (TOf.bind (fa := evEs ss) (f := fun _ vs M1 => prm .tup vs M1) (rel1 := RWs G) q).imp fun vs H1 ⟨g1, M1, l, ws, a1, r1, p⟩ => ?_
  simp only [prm] at p
  split at p
  · rename_i hz
    refine ⟨by rw [← r1.length]; exact hz, fun q hq => ?_⟩
    obtain ⟨a2, e2, r2⟩ := a1.abs.newTup hq r1
    exact p _ _ _ a2 e2 r2
  · exact p.no.elim
theorem px_lst {xs : List Expr} {ss : List Sm} {fz : Bool} (hK : X.K = G.K) (h : PXs G cu Wi X xs ss) : PX G cu Wi X (.List xs pos) (.of fun l M => (evEs ss l M).bind fun vs M1 => prm (.lst fz) vs M1) := by
  refine PX.of hK ((pe_lst h.pa).imp fun σ H Q q => ?_) (fun _ => rfl) rfl
  refine (TOf.bind (fa := evEs ss) (f := fun _ vs M1 => prm (.lst fz) vs M1) (rel1 := RWs G) q).imp fun vs H1 ⟨g1, M1, l, ws, a1, r1, p⟩ => ?_
  simp only [prm] at p
  split at p
  · rename_i hz
    exact ⟨by rw [← r1.length]; exact hz, fun q hq => Post.newL a1.abs r1 p hq⟩
  · exact p.no.elim
/-! ### calls of built-in functions -/
theorem bl_names : ∀ b : Bl, b.name ∈ bltNames ∧ (b.name ≠ "__name__") ∧ (b.name == ("__debug__" : Str)) = false := by intro b; cases b <;> decide +kernel
theorem px_blt {b : Bl} {fz : Bool} {x : Expr} {xs : List Expr} {s : Sm} {ss : List Sm} {p : Pos} (Gd : Good G N sc calm X) (hc : b.calm = true → X.calm = true) (hg : Gl X b.name) (hx : PX G cu Wi X x s) (h : PXs G cu Wi X xs ss) :
    PX G cu Wi X (.Call (.Name b.name p) (x :: xs) [] pos) (.of fun l M => (evEs (s :: ss) l M).bind fun vs M1 => prm (.blt b fz) vs M1) := by
  obtain ⟨n1, n2, n3⟩ := bl_names b
  have hm := Gd.blt _ n1
  have hr := call_bl (X := X) Gd.gd Gd.un b hc
  have all := PXs.cons hx h
  have key : ∀ {σ : L2.St} {H : Hp} {Q : VK}, TEof G cu Wi (fun l M => (evEs (s :: ss) l M).bind fun vs M1 => prm (.blt b fz) vs M1) σ H Q → tCB (rBl X.K b) (TAof G cu Wi (evEs (s :: ss))) σ H Q := fun {σ H Q} q => by
    rw [Gd.K]
    exact tCB_of (serves_bl (fz := fz)) q
  have he : starEach (x :: xs) X.env = (false, eval x X.env) :: starEach xs X.env := starEach_cons hx.ns
  have hv : bootBuiltins b.name = some b.fn := by cases b <;> rfl
  refine PX.of Gd.K ?_ (fun _ => rfl) rfl
  have cb : ∀ id, b.fn = .builtin id → PE X (.Call (.Name b.name p) (x :: xs) [] pos) (TEof G cu Wi fun l M => (evEs (s :: ss) l M).bind fun vs M1 => prm (.blt b fz) vs M1) := fun id e => by
    rw [e] at hr hv
    exact (pe_callB hr hg hm hv all.pa n2 n3 he (h.stars pos)).imp fun σ H Q q => key q
  have ct : ∀ T, b.fn = .type T → PE X (.Call (.Name b.name p) (x :: xs) [] pos) (TEof G cu Wi fun l M => (evEs (s :: ss) l M).bind fun vs M1 => prm (.blt b fz) vs M1) := fun id e => by
    rw [e] at hr hv
    exact (pe_callTy hr hg hm hv all.pa n2 n3 he (h.stars pos)).imp fun σ H Q q => key q
  cases b <;> first | exact cb _ rfl | exact ct _ rfl
end
end PyI
namespace PyI
open PySem PySem.Spec PyProof.Rows L2
section
variable {G : GE} {Γ : Glo} {cu : Option Cu} {Wi : WX} {X : Cx} {g g' g1 : Gh} {M M' M1 : Store} {H H' H1 : Hp} {σ : L2.St} {l : LM} {N : List Str} {sc : Scope} {calm : Bool} {a b c : Expr} {sa sb s_c : Sm} {pos : Pos}
/-! ### a live cell is written -/
theorem Abs.putE {n : Nat} {p : Addr} {c0 c1 : Con} {o : HO} (a : Abs G g M H) (hn : g.R[n]? = some p) (hc : M[n]? = some ⟨true, c0⟩) : Evo g M H g (M.set n ⟨true, c1⟩) (upd H p o) := by
  refine ⟨⟨[], by simp, by simp⟩, rfl, by simp, fun i c h1 h2 => ?_, fun b u h1 h2 => ?_, fun b h => ?_⟩
  · by_cases hi : n = i
    · subst hi; rw [hc] at h1; cases h1; cases h2
    · rw [List.getElem?_set_ne hi]; exact h1
  · by_cases hb : b = p
    · subst hb
      have := h2 n _ hn hc
      cases this
    · rw [upd_ne hb]; exact h1
  · by_cases hb : b = p
    · subst hb; rw [upd_same]; simp
    · rw [upd_ne hb]; exact h
theorem Abs.put {n : Nat} {p : Addr} {c0 c1 : Con} {o : HO} (a : Abs G g M H) (hn : g.R[n]? = some p) (hc : M[n]? = some ⟨true, c0⟩) (hw : CellAt G g (M.set n ⟨true, c1⟩) (upd H p o) p c1) :
    Abs G g (M.set n ⟨true, c1⟩) (upd H p o) ∧ Evo g M H g (M.set n ⟨true, c1⟩) (upd H p o) := by
  have e := a.putE (c1 := c1) (o := o) hn hc
  have hl := (List.getElem?_eq_some_iff.mp hc).1
  refine ⟨⟨by simp [a.len], a.nd, a.nz, fun z hz => e.dom z (a.zd z hz), fun i c q h1 h2 => ?_⟩, e⟩
  by_cases hi : n = i
  · subst hi
    rw [List.getElem?_set_self hl] at h1
    cases h1
    rw [hn] at h2
    cases h2
    exact hw
  · rw [List.getElem?_set_ne hi] at h1
    refine (a.cell i c q h1 h2).evo a.len e fun u hu => ?_
    have hne : q ≠ p := fun z => hi (a.inj hn (z ▸ h2))
    rw [upd_ne hne]; exact hu
/-- a live list is rewritten: its items now, and the step -/
theorem putL_ok {n : Nat} {f : List W → Option (W × List W)} {v : V} {Q : VK} (a : Abs G g M H) (r : RW G g M H (.ref n) v) (p : Post G Wi (RW G) g M H σ (putL n f M) Q) :
    ∃ q xs ws w ws', v = .ref q ∧ H q = some (.lst xs) ∧ RWs G g M H ws xs ∧ f ws = some (w, ws') ∧ ∀ u ys, RW G g M H w u → RWs G g M H ws' ys → Q u (upd H q (.lst ys)) := by
  obtain ⟨q, hq, rfl⟩ := r
  unfold putL at p
  split at p
  · rename_i ws hc
    obtain ⟨⟨w, ws'⟩, hf, p⟩ := p.need
    obtain ⟨xs, h1, h2⟩ := a.cell n _ q hc hq
    refine ⟨q, xs, ws, w, ws', rfl, h1, h2, hf, fun u ys ru rys => ?_⟩
    have e := a.putE (c1 := .lst ws') (o := .lst ys) hq hc
    obtain ⟨a1, e1⟩ := a.put (c1 := .lst ws') (o := .lst ys) hq hc ⟨ys, upd_same, rys.evo a.len e⟩
    exact p _ _ _ a1 e1 (ru.evo a.len e1)
  · exact p.no.elim

/-- l.extend(b), b any list that stands -/
def rExtR : V → List V → Hp → VK → Prop := fun x vs H Q => ∃ l b xs zs, x = .ref l ∧ vs = [.ref b] ∧ H l = some (.lst xs) ∧ Rd H b (.lst zs) ∧ xs.length + zs.length ≤ sizeLine ∧ Q .non (upd H l (.lst (xs ++ zs)))
theorem mt_extR : MtR X "list.extend" rExtR := by
  intro pins s σ H x vs v us Q I rx rv h
  obtain ⟨l, b, xs, zs, rfl, rfl, hH, hB, hz, q⟩ := h
  cases rx
  obtain ⟨u, rfl, ru⟩ := rv.one
  cases ru
  obtain ⟨z, its, n, r, hl, e⟩ := I.lstM hH
  obtain ⟨z2, its2, n2, r2, hl2, e2⟩ := Inv_lstR I hB
  have hsz : its.toArray.size + its2.toArray.size ≤ sizeLine := by rw [List.size_toArray, List.size_toArray]; omega
  have hlong : ¬ (!its.toArray.isEmpty && Builtin.List.listTooLong (its.toArray.size + its2.toArray.size)) = true := by
    rw [notLongL hsz, Bool.and_false]
    exact Bool.false_ne_true
  refine call_meets F.slot_list_extend ⟨_, e, rfl⟩ F.entry_list_extend (F.args_list_extend_2 _ _)
    (AutoSeq1.list_extend_list_list_0 l its.toArray n b its2.toArray n2 hlong (by rw [List.size_toArray]; omega) (by omega)) ⟨e, e2, ?_⟩
  refine ⟨.non, _, I.lset (its' := its ++ its2) hH e (by simp) (r.append r2) ?_, rfl, q⟩
  rw [List.length_append]
  omega

/-! ### methods of built-in types -/
def Mt.ty : Mt → String
  | .join | .split | .upper | .startswith | .count => "str"
  | .get | .update => "dict"
  | _ => "list"
def rMt (K : PySem.W.Frag) : Mt → V → List V → Hp → VK → Prop
  | .join => fun x xs H Q => ∃ a p, ∃ ys : List Str, x = .str a ∧ xs = [.ref p] ∧ (SqL K H p (ys.map V.str) ∨ SqT K H p (ys.map V.str)) ∧ (ys.map (·.length)).sum + ys.length * a.length ≤ 16777216 ∧ Q (.str (Txt.join a ys)) H
  | .split => fun x xs H Q => ∃ a b, x = .str a ∧ xs = [.str b] ∧ (b.length == 0) = false ∧ a.length + 2 ≤ sizeLine ∧ rNewStrs (Txt.split a b) H Q
  | .upper => fun x xs H Q => ∃ a, x = .str a ∧ xs = [] ∧ a.length ≤ 5592405 ∧ Q (.str (Txt.upper a)) H
  | .startswith => fun x xs H Q => ∃ a b, x = .str a ∧ xs = [.str b] ∧ Q (.bl (Txt.startswith a b)) H
  | .count => fun x xs H Q => ∃ a b, x = .str a ∧ xs = [.str b] ∧ Q (.int (Txt.count a b)) H
  | .append => rAppend
  | .extend => rExtR
  | .pop => rPop
  | .popAt => rPopAt
  | .reverse => rReverse
  | .clear => rClear
  | _ => fun _ _ _ _ => False
def Mt.id : Mt → String
  | .join => "str.join" | .split => "str.split" | .upper => "str.upper" | .startswith => "str.startswith" | .count => "str.count"
  | .append => "list.append" | .extend => "list.extend" | .pop => "list.pop" | .popAt => "list.pop" | .reverse => "list.reverse" | .clear => "list.clear" | .insert => "list.insert" | .index => "list.index"
  | .get => "dict.get" | .update => "dict.update"
def Mt.ok : Mt → Bool
  | .insert | .index | .get | .update => false
  | _ => true
theorem mt_all {m : Mt} (h : m.ok = true) : MtR X m.id (rMt X.K m) := by
  cases m with
  | join => exact mt_join
  | split => exact mt_split
  | upper => exact mt_upper
  | startswith => exact mt_startswith
  | count => exact mt_count
  | append => exact mt_append
  | extend => exact mt_extR
  | pop => exact mt_pop
  | popAt => exact mt_popAt
  | reverse => exact mt_reverse
  | clear => exact mt_clear
  | _ => cases h
theorem mt_slot {m : Mt} (h : m.ok = true) : PlainAttrs m.ty ∧ Slot m.ty m.name m.id ∧ typeOf (.builtin m.id) = pure (.type "method_descriptor") := by
  cases m with
  | join => exact ⟨F.plainAttrs_str, F.slot_str_join, F.type_str_join⟩
  | split => exact ⟨F.plainAttrs_str, F.slot_str_split, F.type_str_split⟩
  | upper => exact ⟨F.plainAttrs_str, F.slot_str_upper, F.type_str_upper⟩
  | startswith => exact ⟨F.plainAttrs_str, F.slot_str_startswith, F.type_str_startswith⟩
  | count => exact ⟨F.plainAttrs_str, F.slot_str_count, F.type_str_count⟩
  | append => exact ⟨F.plainAttrs_list, F.slot_list_append, F.type_list_append⟩
  | extend => exact ⟨F.plainAttrs_list, F.slot_list_extend, F.type_list_extend⟩
  | pop => exact ⟨F.plainAttrs_list, F.slot_list_pop, F.type_list_pop⟩
  | popAt => exact ⟨F.plainAttrs_list, F.slot_list_pop, F.type_list_pop⟩
  | reverse => exact ⟨F.plainAttrs_list, F.slot_list_reverse, F.type_list_reverse⟩
  | clear => exact ⟨F.plainAttrs_list, F.slot_list_clear, F.type_list_clear⟩
  | _ => cases h
theorem kind_ok {m : Mt} {w : W} {v : V} (ho : m.ok = true) (a : Abs G g M H) (h : kindW m w M = true) (r : RW G g M H w v) : tyV G.K m.ty v H := by
  have lst : m.ty = "list" → (vL M w).isSome = true → tyV G.K m.ty v H := fun e h => by
    obtain ⟨ws, hs⟩ := Option.isSome_iff_exists.mp h
    obtain ⟨q, vs, rfl, h1, h2⟩ := vL_ok a hs r
    rw [e]
    exact .inl ⟨rfl, vs, .inl h1⟩
  have str : m.ty = "str" → (∃ x, w = .str x) → tyV G.K m.ty v H := fun e h => by
    obtain ⟨x, rfl⟩ := h
    rw [show v = .str x from r, e]
    exact rfl
  have isS : isStrW w = true → ∃ x, w = .str x := fun h => by
    clear str
    cases w <;> first | (cases h; done) | exact ⟨_, rfl⟩
  cases m <;> first | (cases ho; done) | (refine str rfl (isS ?_); exact h) | exact lst rfl h
theorem RWs.dropLast {ws : List W} {vs : List V} (r : RWs G g M H ws vs) : RWs G g M H ws.dropLast vs.dropLast := by
  rw [List.dropLast_eq_take, List.dropLast_eq_take, r.length]
  exact r.take _
theorem strs_new {fz : Bool} {ys : List Str} {Q : VK} (a : Abs G g M H) (p : Post G Wi (RW G) g M H σ (newL fz (ys.map .str) M) Q) : rNewStrs ys H Q := by
  have r : RWs G g M H (ys.map .str) (ys.map V.str) := by
    induction ys with
    | nil => rfl
    | cons y ys ih =>
      refine .cons rfl ?_
      clear p ih
      induction ys with
      | nil => rfl
      | cons z zs ih => exact .cons rfl ih
  exact fun q hq => Post.newL a r p hq
theorem strs_seq {w : W} {ys : List Str} {v : V} (a : Abs G g M H) (h : strsW M w = some ys) (r : RW G g M H w v) : ∃ p, v = .ref p ∧ (SqL G.K H p (ys.map V.str) ∨ SqT G.K H p (ys.map V.str)) := by
  unfold strsW at h
  obtain ⟨ws, h1, h2⟩ := Option.bind_eq_some_iff.mp h
  obtain ⟨q, vs, rfl, h3, h4⟩ := vS_ok a h1 r
  have e := strs_ok h2 h4
  subst e
  exact ⟨q, rfl, h3⟩
theorem serves_mt {m : Mt} {fz : Bool} {w : W} {ws : List W} {v : V} {vs : List V} {Q : VK} (a : Abs G g M H) (r : RW G g M H w v) (rs : RWs G g M H ws vs) (p : Post G Wi (RW G) g M H σ (mthW m fz (w :: ws) M) Q) : rMt G.K m v vs H Q := by
  match ws, rs, p with
  | [], rs, p =>
    have e : vs = [] := rs
    subst e
    cases m <;> first | (cases w <;> exact p.no.elim) | skip
    all_goals (cases w <;> first | exact p.no.elim | skip)
    · rename_i x _
      rw [show v = .str x from r]
      simp only [mthW, mth0] at p
      split at p
      · rename_i hz
        exact ⟨x, rfl, rfl, hz, p.now a rfl⟩
      · exact p.no.elim
    · obtain ⟨q, xs, us, x, us', rfl, h1, h2, h3, h4⟩ := putL_ok a r p
      simp only [Option.map_eq_some_iff] at h3
      obtain ⟨y, hy, e⟩ := h3
      cases e
      obtain ⟨z, hz, rz⟩ := h2.get hy
      exact ⟨q, xs, z, rfl, rfl, h1, by rw [← h2.length]; exact hz, h4 z _ rz h2.dropLast⟩
    · obtain ⟨q, xs, us, x, us', rfl, h1, h2, h3, h4⟩ := putL_ok a r p
      cases h3
      exact ⟨q, xs, rfl, rfl, h1, h4 .non _ rfl h2.reverse⟩
    · obtain ⟨q, xs, us, x, us', rfl, h1, h2, h3, h4⟩ := putL_ok a r p
      cases h3
      exact ⟨q, xs, rfl, rfl, h1, h4 .non _ rfl rfl⟩
  | [y], rs, p =>
    obtain ⟨u, rfl, ry⟩ := rs.one_inv
    cases m <;> first | exact p.no.elim | skip
    · -- join
      cases w <;> first | exact p.no.elim | skip
      rename_i x _
      rw [show v = .str x from r]
      simp only [mthW, mth1] at p
      obtain ⟨ys, hs, p⟩ := p.need
      split at p
      · rename_i hz
        obtain ⟨q, rfl, h1⟩ := strs_seq a hs ry
        exact ⟨x, q, ys, rfl, rfl, h1, hz, p.now a rfl⟩
      · exact p.no.elim
    · -- split
      cases w <;> first | exact p.no.elim | skip
      rename_i x _
      cases y <;> first | exact p.no.elim | skip
      rename_i z
      rw [show v = .str x from r, show u = .str z from ry]
      simp only [mthW, mth1] at p
      split at p
      · rename_i hz
        exact ⟨x, z, rfl, rfl, by simpa using hz.1, hz.2, strs_new a p⟩
      · exact p.no.elim
    · -- startswith
      cases w <;> first | exact p.no.elim | skip
      rename_i x _
      cases y <;> first | exact p.no.elim | skip
      rename_i z
      rw [show v = .str x from r, show u = .str z from ry]
      exact ⟨x, z, rfl, rfl, p.now a rfl⟩
    · -- count
      cases w <;> first | exact p.no.elim | skip
      rename_i x _
      cases y <;> first | exact p.no.elim | skip
      rename_i z
      rw [show v = .str x from r, show u = .str z from ry]
      exact ⟨x, z, rfl, rfl, p.now a rfl⟩
    · -- append
      cases w <;> first | exact p.no.elim | skip
      obtain ⟨q, xs, us, x, us', rfl, h1, h2, h3, h4⟩ := putL_ok a r p
      split at h3
      · rename_i hz
        cases h3
        exact ⟨q, xs, u, rfl, rfl, h1, by rw [← h2.length]; exact hz, h4 .non _ rfl (h2.append (.one ry))⟩
      · cases h3
    · -- extend
      cases w <;> first | exact p.no.elim | skip
      simp only [mthW, mth1] at p
      obtain ⟨zs, hs, p⟩ := p.need
      obtain ⟨q, xs, us, x, us', rfl, h1, h2, h3, h4⟩ := putL_ok a r p
      obtain ⟨q2, xs2, rfl, k1, k2⟩ := vL_ok a hs ry
      split at h3
      · rename_i hz
        cases h3
        exact ⟨q, q2, xs, xs2, rfl, rfl, h1, k1, by rw [← h2.length, ← k2.length]; exact hz, h4 .non _ rfl (h2.append k2)⟩
      · cases h3
    · -- pop(i)
      cases w <;> first | exact p.no.elim | skip
      cases y <;> first | exact p.no.elim | skip
      rename_i i
      obtain ⟨q, xs, us, x, us', rfl, h1, h2, h3, h4⟩ := putL_ok a r p
      split at h3
      · rename_i hz
        obtain ⟨k, hk, h3⟩ := Option.bind_eq_some_iff.mp h3
        obtain ⟨y, hy, e⟩ := Option.map_eq_some_iff.mp h3
        cases e
        obtain ⟨z, hz2, rz⟩ := h2.get hy
        exact ⟨q, xs, i, k, z, rfl, by rw [show u = .int i from ry], h1, hz.1, hz.2, by rw [← h2.length]; exact hk, hz2, h4 z _ rz (h2.eraseIdx k)⟩
      · cases h3
  | _ :: _ :: _, rs, p => exact p.no.elim
end
end PyI
namespace PyI
open PySem PySem.Spec PyProof.Rows L2
def baseB : Expr → Bool
  | .Call (.Name id _) [] [] _ => id != "super"
  | _ => true
theorem base_of {o : Expr} (h : baseB o = true) {attr : Str} {env : Env} {whole : Sem Value} : attributeBase o attr env whole = whole := by
  unfold attributeBase
  split
  · rename_i id p pos
    have h' : (id != ("super" : Str)) = true := h
    rw [h']
    rfl
  · rfl
section
variable {G : GE} {Γ : Glo} {cu : Option Cu} {Wi : WX} {X : Cx} {g g' g1 : Gh} {M M' M1 : Store} {H H' H1 : Hp} {σ : L2.St} {l : LM} {N : List Str} {sc : Scope} {calm : Bool} {a b c : Expr} {sa sb s_c : Sm} {pos : Pos}
theorem px_mth {m : Mt} {fz : Bool} {o : Expr} {so : Sm} {xs : List Expr} {ss : List Sm} {apos : Pos} (hK : X.K = G.K) (hm : m.ok = true) (hb : baseB o = true) (hl : (apos.endLine == pos.line) = true) (hn : xs.length < 28) (ho : PX G cu Wi X o so) (h : PXs G cu Wi X xs ss) :
    PX G cu Wi X (.Call (.Attribute o m.name apos) xs [] pos) (.of fun l M => (so.v l M).bind fun w M1 => if kindW m w M1 then (evEs ss l M1).bind fun vs M2 => mthW m fz (w :: vs) M2 else .err) := by
  obtain ⟨s1, s2, s3⟩ := mt_slot hm
  refine PX.of hK ?_ (fun _ => rfl) rfl
  cases h with
  | nil =>
    refine (pe_bm0 s1 s2 s3 (mt_all hm) ho.pe (base_of hb) hl).imp fun σ H Q q => ?_
    refine (TOf.bind (fa := so.v) (f := fun l w M1 => if kindW m w M1 then (evEs [] l M1).bind fun vs M2 => mthW m fz (w :: vs) M2 else .err) (rel1 := RW G) q).imp fun v H1 ⟨g1, M1, l, w, a1, r1, p⟩ => ?_
    split at p
    · rename_i hk
      rw [hK]
      exact ⟨kind_ok hm a1.abs hk r1, serves_mt (fz := fz) (ws := []) a1.abs r1 (show RWs G g1 M1 H1 [] [] from rfl) p⟩
    · exact p.no.elim
  | @cons x xs s ss hx hr =>
    have few : ((backTo pos (starEach (x :: xs) X.env)).all (fun x => !x.1) && (backToKw pos (keywordEach [] X.env)).all (fun x => x.1.isSome) && decide ((x :: xs).length + ([] : List Keyword).length + (if ([] : List Keyword).isEmpty then 0 else 1) < 30)) = true := by
      have e := (PXs.cons hx hr).stars pos
      have e1 : (backTo pos (starEach (x :: xs) X.env)).all (fun x => !x.1) = true := by
        rw [List.all_eq_true]
        rw [List.any_eq_false] at e
        intro y hy
        simpa using e y hy
      rw [e1]
      simp at hn ⊢
      refine ⟨fun a b hab => ?_, by omega⟩
      have : backToKw pos (keywordEach [] X.env) = [] := rfl
      rw [this] at hab
      cases hab
    refine (pe_bm s1 s2 s3 (mt_all hm) ho.pe (PXs.cons hx hr).pa (base_of hb) few hl (starEach_cons hx.ns) (hr.stars pos)).imp fun σ H Q q => ?_
    refine (TOf.bind (fa := so.v) (f := fun l w M1 => if kindW m w M1 then (evEs (s :: ss) l M1).bind fun vs M2 => mthW m fz (w :: vs) M2 else .err) (rel1 := RW G) q).imp fun v H1 ⟨g1, M1, l, w, a1, r1, p⟩ => ?_
    split at p
    · rename_i hk
      rw [hK]
      refine ⟨kind_ok hm a1.abs hk r1, g1, M1, l, a1, (Post.bind (rel1 := RWs G) a1.abs.len p).imp fun vs H2 ⟨g2, M2, ws, a2, e2, r2, p2⟩ => serves_mt a2 (r1.evo a1.abs.len e2) r2 p2⟩
    · exact p.no.elim

/-! ### keywords -/
def kwNames (kws : List Keyword) : List (Option Str) := kws.map (·.arg)
theorem kwEach {kws : List Keyword} {env : Env} : keywordEach kws env = kws.map fun k => (k.arg, eval k.value env) := by
  induction kws with
  | nil => rfl
  | cons k ks ih =>
    obtain ⟨a, v, p⟩ := k
    show (a, eval v env) :: keywordEach ks env = _
    rw [ih]; rfl
theorem backKw_fst {pos : Pos} {l : List (Option Str × Sem Value)} : (backToKw pos l).map (·.1) = l.map (·.1) := by
  unfold backToKw
  rw [List.map_map]
  rfl
theorem kw_all {kws : List Keyword} {ks : List Str} {env : Env} {pos : Pos} (h : kws.map (·.arg) = ks.map some) : (backToKw pos (keywordEach kws env)).all (·.1.isSome) = true ∧ (backToKw pos (keywordEach kws env)).filterMap (·.1) = ks ∧ (backToKw pos (keywordEach kws env)).any (·.1.isNone) = false := by
  have e : (backToKw pos (keywordEach kws env)).map (·.1) = ks.map some := by
    rw [backKw_fst, kwEach, List.map_map, ← h]; rfl
  have e1 : ∀ l : List (Option Str × Sem Value), l.map (·.1) = ks.map some → l.all (·.1.isSome) = true ∧ l.filterMap (·.1) = ks ∧ l.any (·.1.isNone) = false := by
    clear e h
    induction ks with
    | nil =>
      intro l h
      have : l = [] := by simpa using h
      subst this; exact ⟨rfl, rfl, rfl⟩
    | cons k ks ih =>
      intro l h
      cases l with
      | nil => cases h
      | cons q l =>
        obtain ⟨q1, q2⟩ := q
        rw [List.map_cons, List.map_cons] at h
        injection h with h1 h2
        have h1' : q1 = some k := h1
        subst h1'
        obtain ⟨i1, i2, i3⟩ := ih l h2
        refine ⟨by rw [List.all_cons, i1]; rfl, by rw [List.filterMap_cons_some (f := fun x : Option Str × Sem Value => x.1) (b := k) rfl, i2], by rw [List.any_cons, i3]; rfl⟩
  exact e1 _ e
theorem evEs_append {s1 s2 : List Sm} : evEs (s1 ++ s2) l M = (evEs s1 l M).bind fun a M1 => (evEs s2 l M1).bind fun b M2 => .ok (a ++ b) M2 := by
  induction s1 generalizing M with
  | nil =>
    simp only [List.nil_append, evEs, Res.bind]
    cases evEs s2 l M <;> rfl
  | cons s ss ih =>
    simp only [List.cons_append, evEs]
    cases s.v l M with
    | ok w M1 =>
      simp only [Res.bind]
      rw [ih]
      cases evEs ss l M1 with
      | ok ws M2 =>
        simp only [Res.bind]
        cases evEs s2 l M2 <;> rfl
      | exc c ns ws M2 => rfl
      | err => rfl
    | exc c ns ws M2 => rfl
    | err => rfl
/-- the keywords' values -/
theorem PXs.pk {kws : List Keyword} {ss : List Sm} (h : PXs G cu Wi X (kws.map (·.value)) ss) : PK X kws (TAof G cu Wi (evEs ss)) := by
  have imp : ∀ {kws : List Keyword} {t t' : TA}, PK X kws t → (∀ σ H Q, t' σ H Q → t σ H Q) → PK X kws t' := fun h k => ⟨fun pos pins s σ H Q I q => h.run pos pins s σ H Q I (k _ _ _ q)⟩
  induction kws generalizing ss with
  | nil =>
    cases h
    exact imp pk_nil fun σ H Q ⟨g, M, l, a, p⟩ => p.now a.abs rfl
  | cons k ks ih =>
    obtain ⟨nm, e, kp⟩ := k
    cases h with
    | @cons _ _ s ss h1 h2 =>
      refine imp (pk_cons h1.pe (ih h2)) fun σ H Q q => ?_
      refine (TOf.bind (fa := s.v) (f := fun l w M1 => (evEs ss l M1).bind fun ws M2 => .ok (w :: ws) M2) (rel1 := RW G) q).imp fun v H1 ⟨g1, M1, l, w, a1, r1, p⟩ => ?_
      refine ⟨g1, M1, l, a1, (p.bind (rel1 := RWs G) a1.abs.len).imp fun vs H2 ⟨g2, M2, ws, a2, e2, r2, p2⟩ => ?_⟩
      exact p2.now a2 ⟨v, vs, rfl, r1.evo a1.abs.len e2, r2⟩
theorem backTo_any {l : List (Bool × Sem Value)} {p : Pos} : (backTo p l).any (·.1) = l.any (·.1) := by
  unfold backTo
  rw [List.any_map]
  rfl
theorem PXs.length {xs : List Expr} {ss : List Sm} (h : PXs G cu Wi X xs ss) : xs.length = ss.length := by
  induction h with
  | nil => rfl
  | cons _ _ ih => simp [ih]
/-- the arguments by place and by name, then the call -/
theorem callWith_px {f : Value} {first : List Value} {xs : List Expr} {kws : List Keyword} {ss ts : List Sm} {ks : List Str} {pins : List (Addr × Obj)} {s : Shared} {Qf : Value → Shared → Prop} {R : List V → Hp → Prop} (hk : PySem.W.keepIn X.K f = true) (h : PXs G cu Wi X xs ss) (hw : PXs G cu Wi X (kws.map (·.value)) ts) (hn : kws.map (·.arg) = ks.map some)
    (I : Inv X pins σ H s) (q : TAof G cu Wi (evEs (ss ++ ts)) σ H R)
    (k : ∀ (us ws : List Value) (vs zs : List V) (s1 : Shared) (H1 : Hp), Inv X pins σ H1 s1 → Vals vs us → Vals zs ws → us.length = xs.length → ws.length = ks.length → R (vs ++ zs) H1 → wpAny (model X.prog X.w) X.A (call f (first ++ us) (ks.zip ws)) Qf X.xe s1) :
    wpAny (model X.prog X.w) X.A (callWith pos f first (backTo pos (starEach xs X.env)) (backToKw pos (keywordEach kws X.env))) Qf X.xe s := by
  obtain ⟨k1, k2, k3⟩ := kw_all (env := X.env) (pos := pos) hn
  have klen : ks.length = ts.length := by
    rw [← hw.length, List.length_map]
    have := congrArg List.length hn
    simpa using this.symm
  have q1 : TAof G cu Wi (evEs ss) σ H (fun vs H1 => vs.length = ss.length ∧ TAof G cu Wi (evEs ts) σ H1 (fun zs H2 => zs.length = ts.length ∧ R (vs ++ zs) H2)) := by
    have lens : ∀ {ss : List Sm} {l : LM} {M : Store} {ws : List W} {M1 : Store}, evEs ss l M = .ok ws M1 → ws.length = ss.length := by
      intro ss
      induction ss with
      | nil => intro l M ws M1 h; simp only [evEs] at h; cases h; rfl
      | cons s ss ih =>
        intro l M ws M1 h
        simp only [evEs] at h
        cases q : s.v l M with
        | ok w M2 =>
          rw [q] at h
          simp only [Res.bind] at h
          cases q2 : evEs ss l M2 with
          | ok us M3 => rw [q2] at h; cases h; simp [ih q2]
          | exc c ns ws M2 => rw [q2] at h; cases h
          | err => rw [q2] at h; cases h
        | exc c ns ws M2 => rw [q] at h; cases h
        | err => rw [q] at h; cases h
    obtain ⟨g, M, l, a, p⟩ := q
    rw [evEs_append] at p
    refine ⟨g, M, l, a, ?_⟩
    cases q1 : evEs ss l M with
    | ok ws M1 =>
      rw [q1] at p
      intro g1 vs H1 a1 e1 r1
      refine ⟨by rw [← r1.length]; exact lens q1, g1, M1, l, a.evo a1 e1, ?_⟩
      have p1 := Post.evo a.abs.len e1 (show Post G Wi (RWs G) g M H σ ((evEs ts l M1).bind fun b M2 => .ok (ws ++ b) M2) R from p)
      cases q2 : evEs ts l M1 with
      | ok us M2 =>
        rw [q2] at p1
        intro g2 zs H2 a2 e2 r2
        exact ⟨by rw [← r2.length]; exact lens q2, p1 g2 _ H2 a2 e2 ((r1.evo a1.len e2).append r2)⟩
      | exc c ns us M2 => rw [q2] at p1; exact p1
      | err => rw [q2] at p1; exact p1.elim
    | exc c ns us M2 => rw [q1] at p; exact p
    | err => rw [q1] at p; exact p.elim
  cases h with
  | nil =>
    have q2 := q1
    refine PySem.W.callWith_KW0 (h₀ := X.base) I.ok.mod.kin hk k1 ?_ (by rw [k3]; rfl)
    obtain ⟨g, M, l, a, p⟩ := q2
    obtain ⟨_, q3⟩ := p.now a.abs (show RWs G g M H [] [] from rfl)
    refine thn (hw.pk.run pos pins s σ H _ I q3) fun ws s2 ⟨zs, H2, I2, rz, hl, r⟩ => ⟨I2.kIn, ?_⟩
    rw [k2]
    exact k [] ws [] zs s2 H2 I2 .nil rz rfl (by rw [klen, ← hl, rz.length]) r
  | @cons x xs s' ss hx hr =>
    have all := PXs.cons hx hr
    refine PySem.W.callWith_KW (h₀ := X.base) I.ok.mod.kin hk k1 (thn (all.pa.run pos pins s σ H _ I q1) fun us s1 ⟨vs, H1, I1, r1, hl1, q3⟩ => ?_) (by rw [k3, all.stars pos]; rfl) (starEach_cons hx.ns)
    refine thn (hw.pk.run pos pins s1 σ H1 _ I1 q3) fun ws s2 ⟨zs, H2, I2, rz, hl, r⟩ => ⟨I2.kIn, ?_⟩
    rw [k2]
    exact k us ws vs zs s2 H2 I2 r1 rz (by rw [← r1.length, hl1]; exact all.length.symm) (by rw [klen, ← hl, rz.length]) r
end
end PyI
namespace PyI
open PySem PySem.Spec PyProof.Rows L2
section
variable {G : GE} {Γ : Glo} {cu : Option Cu} {Wi : WX} {X : Cx} {g g' g1 : Gh} {M M' M1 : Store} {H H' H1 : Hp} {σ : L2.St} {l : LM} {N : List Str} {sc : Scope} {calm : Bool} {a b c : Expr} {sa sb s_c : Sm} {pos : Pos} {k : Nat}
/-- the arguments' fit, seen by the checker -/
def fitB (fi : FnI) (n : Nat) (ks : List Str) : Bool := decide (ks.length ≤ n) && decide (n = fi.ps.length) && kwFit fi.np fi.ps (n - ks.length) ks
theorem vals_app {vs zs : List V} {us ws : List Value} (h : Vals vs us) (k : Vals zs ws) : Vals (vs ++ zs) (us ++ ws) := Vals.append h k
/-- the def runs on the arguments in order -/
theorem run_def {f : Addr} {fi : FnI} {pins : List (Addr × Obj)} {s : Shared} {Q : VK} {us ws : List Value} {vs zs : List V} {ks : List Str} (hK : X.K = G.K) (F : FnP G X.prog X.w X.mg X.base k f fi) (hr : RoomG k X.A) (tk : Takes X Wi) (I : Inv X pins σ H s)
    (hf : fitB fi (us.length + ws.length) ks = true) (hl : ws.length = ks.length) (r1 : Vals vs us) (r2 : Vals zs ws) (h : spOf G fi.ps.length fi.sem (bindW fi.ps ks (vs ++ zs)) H Q (fun c d H' => Wi c d σ H')) :
    wpAny (model X.prog X.w) X.A (call (.ref f) us (ks.zip ws)) (EP X pins σ Q) X.xe s := by
  obtain ⟨fd, F1, F2⟩ := F.ex
  simp only [fitB, Bool.and_eq_true, decide_eq_true_eq] at hf
  obtain ⟨⟨h1, h2⟩, h3⟩ := hf
  have e0 : us.length + ws.length - ks.length = us.length := by omega
  rw [e0] at h3
  have rv := bindW_vals (ps := fi.ps) (ks := ks) (r1.append r2)
  have hlen : (bindW fi.ps ks (vs ++ zs)).length = fi.ps.length := by
    have e1 : (vs ++ zs).length = us.length + ws.length := by rw [List.length_append, r1.length, r2.length]
    refine bindW_len (np := fi.np) ?_ (by rw [e1]; omega) (by rw [e1]; exact h2)
    rw [e1, e0]; exact h3
  have F1' : FnG X.prog X.w X.K X.mg X.base k f fd fi.ps (spOf G fi.ps.length fi.sem) := by rw [hK]; exact F1
  refine wpAny_call (codeAny_mono (run_fnG F1' hr tk (fun _ _ _ q => q) I hlen (F2 s us ws ks h3 hl.symm h2) rv h) fun r s' hq => ?_)
  cases r with
  | error e => exact hq
  | ok fl =>
    cases fl with
    | ret u => exact hq
    | next => exact False.elim hq
    | brk => exact False.elim hq
    | cont => exact False.elim hq
theorem RWs.append_inv : ∀ {ws : List W} {vs zs : List V} {n : Nat}, RWs G g M H ws (vs ++ zs) → True := fun _ => True.intro
theorem px_call {f : Str} {fi : FnI} {fz : Bool} {xs : List Expr} {kws : List Keyword} {ss ts : List Sm} {ks : List Str} {p : Pos} (hK : X.K = G.K) (T : Tops G Γ X.prog X.w X.mg X.base k) (hr : RoomG k X.A) (tk : Takes X Wi) (hΓ : Γ.fn f = some fi) (hg : Gl X f) (hd : (f == ("__debug__" : Str)) = false)
    (h : PXs G cu Wi X xs ss) (hw : PXs G cu Wi X (kws.map (·.value)) ts) (hn : kws.map (·.arg) = ks.map some) (hf : fitB fi (ss ++ ts).length ks = true) :
    PX G cu Wi X (.Call (.Name f p) xs kws pos) (.of fun l M => (evEs (ss ++ ts) l M).bind fun vs M1 => need (Γ.fn f) fun f => fullW f vs.length (callW f.sem fz (bindW f.ps ks vs) M1)) := by
  obtain ⟨fa, hm, F⟩ := T.fn f fi hΓ
  refine PX.of hK ⟨fun pins s σ H Q I q => ?_⟩ (fun _ => rfl) rfl
  refine wpAny_Call_Name_kw (ld_glob I hg hm ?_ hd)
  have q1 := TOf.bind (fa := evEs (ss ++ ts)) (f := fun l vs M1 => need (Γ.fn f) fun f => fullW f vs.length (callW f.sem fz (bindW f.ps ks vs) M1)) (rel1 := RWs G) q
  refine callWith_px (first := []) (by rw [hK]; exact F.kp) h hw hn I q1 fun us ws vs zs s1 H1 I1 r1 r2 l1 l2 ⟨g1, M1, l, as, a1, rw1, p⟩ => ?_
  rw [hΓ] at p
  simp only [need, fullW] at p
  split at p
  · rename_i hfull
    have hlen : (ss ++ ts).length = us.length + ws.length := by
      rw [List.length_append, ← h.length, ← hw.length, l1, l2]
      have := congrArg List.length hn
      simp at this
      rw [← this]; simp
    rw [hlen] at hf
    refine run_def hK F hr tk I1 hf l2 r1 r2 (call_pass a1.abs (bindW_rws rw1) ?_ p)
    have e1 : as.length = us.length + ws.length := by rw [rw1.length, List.length_append, r1.length, r2.length]
    simp only [fitB, Bool.and_eq_true, decide_eq_true_eq] at hf
    obtain ⟨⟨h1, h2⟩, h3⟩ := hf
    refine bindW_len (np := fi.np) ?_ (by rw [e1]; exact h1) (by rw [e1]; exact h2)
    rw [e1]; exact h3
  · exact p.no.elim
end
end PyI
namespace PyI
open PySem PySem.Spec PyProof.Rows L2
section
variable {G : GE} {Γ : Glo} {cu : Option Cu} {Wi : WX} {X : Cx} {g g' g1 : Gh} {M M' M1 : Store} {H H' H1 : Hp} {σ : L2.St} {l : LM} {N : List Str} {sc : Scope} {calm : Bool} {a b c : Expr} {sa sb s_c : Sm} {pos : Pos} {k : Nat}
/-! ### isinstance -/
/-- the class of a type's name -/
def TyIs (G : GE) : String ⊕ Str → Value → Prop
  | .inl t, v => t ∈ bTypes ∧ v = .type t
  | .inr c, v => ∃ C, G.cA c = some C ∧ InsT G.K C ∧ v = .ref C
theorem ty_ok {w : W} {v : V} {t : String ⊕ Str} (a : Abs G g M H) (r : RW G g M H w v) (h : tyW M w = some t) (hp : ∀ c, t = .inr c → ∃ C, G.cA c = some C ∧ InsT G.K C) : ∃ tv, TyIs G t tv ∧ TyX G.K H v tv := by
  have ins : ∀ {c : Str} {p C dx : Addr} {fs : List (Str × V)}, t = .inr c → G.cA c = some C → H p = some (.ins C dx fs) → v = .ref p → ∃ tv, TyIs G t tv ∧ TyX G.K H v tv := fun {c p C dx fs} e h1 h2 hv => by
    obtain ⟨C', h3, i⟩ := hp c e
    rw [h1] at h3; cases h3
    subst e hv
    exact ⟨.ref C, ⟨C, h1, i, rfl⟩, .base (.ins h2 i.cl i.ha i.hn i.ht i.hm)⟩
  cases w with
  | non => cases h; rw [show v = .non from r]; exact ⟨_, ⟨by decide, rfl⟩, .base .non⟩
  | bl b => cases h; rw [show v = .bl b from r]; exact ⟨_, ⟨by decide, rfl⟩, .base (.bl b)⟩
  | int b => cases h; rw [show v = .int b from r]; exact ⟨_, ⟨by decide, rfl⟩, .base (.int b)⟩
  | str b => cases h; rw [show v = .str b from r]; exact ⟨_, ⟨by decide, rfl⟩, .base (.str b)⟩
  | tup ws =>
    cases h
    obtain ⟨p, vs, rfl, h1, h2⟩ := r
    refine ⟨_, ⟨by decide, rfl⟩, ?_⟩
    rcases h1 with ⟨h1 | ⟨o, h1⟩, _⟩ | ⟨o, its, n, h1, h3, _⟩
    · exact .base (.tup h1)
    · exact .fTuple h1
    · exact .kTuple h1 h3
  | lst ws =>
    cases h
    obtain ⟨p, vs, rfl, h1, h2⟩ := r
    refine ⟨_, ⟨by decide, rfl⟩, ?_⟩
    rcases h1 with ⟨h1 | ⟨o, h1⟩, _⟩
    · exact .base (.lst h1)
    · exact .base (.frz h1)
  | dct ks ws =>
    cases h
    obtain ⟨p, vs, rfl, h1, h2⟩ := r
    exact ⟨_, ⟨by decide, rfl⟩, .base (.dK h1)⟩
  | obj c ns ws =>
    cases h
    obtain ⟨p, C, dx, fs, e, h1, h2, h3⟩ := r
    exact ins rfl h1 h2 e
  | ref n =>
    obtain ⟨p, hn, e⟩ := r
    simp only [tyW, Option.map_eq_some_iff] at h
    obtain ⟨c, hc, h⟩ := h
    have at_ := a.cell n c p hc hn
    obtain ⟨lv, con⟩ := c
    cases con with
    | lst ws =>
      cases h
      obtain ⟨vs, h1, _⟩ := at_
      rw [e]
      exact ⟨_, ⟨by decide, rfl⟩, .base (.lst h1)⟩
    | dct ks ws =>
      cases h
      obtain ⟨vs, h1, _⟩ := at_
      rw [e]
      exact ⟨_, ⟨by decide, rfl⟩, .base (.dK h1)⟩
    | obj cc ns ws =>
      cases h
      obtain ⟨C, dx, fs, h1, h2, _⟩ := at_
      exact ins rfl h1 h2 e
  | cls c => cases h
  | typ n => cases h
  | scr ns => cases h
theorem kit_bb (K : PySem.W.Frag) : ∀ t ∈ bTypes, ∀ q ∈ askTys, PySem.W.kitOne K (.type t) (.type q.2) = some (decide (t = q.2) || (decide (t = "bool") && decide (q.2 = "int"))) := by
  intro t ht q hq
  simp only [bTypes, askTys, List.mem_cons, List.not_mem_nil, or_false] at ht hq
  rcases ht with rfl | rfl | rfl | rfl | rfl | rfl | rfl <;> rcases hq with rfl | rfl | rfl | rfl | rfl | rfl <;> rfl
/-- what the asked class's name stands for -/
theorem ask_ok {q : Str × Bool} (T : Tops G Γ X.prog X.w X.mg X.base k) (hq : (if q.2 then Γ.pl q.1 else (askTys.lookup q.1).isSome) = true) (hbm : ∀ x ∈ bltNames, X.mg x = none) (hd : (q.1 == ("__debug__" : Str)) = false) :
    ∃ cv u, ClsV cv u ∧ (∀ {p : Pos}, Gl X q.1 → PE X (.Name q.1 p) (tC cv)) ∧ ∀ t tv, TyIs G t tv → (∀ c, t = .inr c → Γ.pl c = true) → PySem.W.kitOne G.K tv u = some (isiOne t q) := by
  obtain ⟨c, own⟩ := q
  cases own with
  | true =>
    obtain ⟨C, h1, h2, h3, h4, h5⟩ := T.pl c hq
    refine ⟨.ref C, .ref C, .own C, fun hg => pe_glob hg h2 rfl hd, fun t tv ht hp => ?_⟩
    · cases t with
      | inl a =>
        obtain ⟨m, rfl⟩ := ht
        exact (h4 a m).2
      | inr d =>
        obtain ⟨D, k1, _, rfl⟩ := ht
        obtain ⟨D', k1', _, _, _, k5⟩ := T.pl d (hp d rfl)
        rw [k1] at k1'; cases k1'
        exact k5 c C hq h1
  | false =>
    obtain ⟨ty, hty⟩ := Option.isSome_iff_exists.mp (show (askTys.lookup c).isSome = true from hq)
    have hm : (c, ty) ∈ askTys := by
      clear hq
      revert hty
      have : ∀ l : List (Str × String), l.lookup c = some ty → (c, ty) ∈ l := by
        intro l
        induction l with
        | nil => intro h; cases h
        | cons x l ih =>
          intro h
          rw [List.lookup_cons] at h
          split at h
          · rename_i e
            have : c = x.1 := by simpa using e
            cases h
            rw [this]; exact List.mem_cons_self ..
          · exact List.mem_cons_of_mem _ (ih h)
      exact this askTys
    have facts : c ∈ bltNames ∧ bootBuiltins c = some (.type ty) ∧ c ≠ "__name__" ∧ (c == ("__debug__" : Str)) = false := by
      simp only [askTys, List.mem_cons, List.not_mem_nil, or_false] at hm
      rcases hm with e | e | e | e | e | e <;> (cases e; exact ⟨by decide +kernel, rfl, by decide +kernel, by decide +kernel⟩)
    obtain ⟨f1, f2, f3, f4⟩ := facts
    refine ⟨.ty ty, .type ty, .ty ty, fun hg => pe_bltn hg (hbm c f1) f2 rfl f3 f4, fun t tv ht hp => ?_⟩
    cases t with
    | inl a =>
      obtain ⟨m, rfl⟩ := ht
      have := kit_bb G.K a m _ hm
      dsimp only [isiOne]
      rw [hty]; exact this
    | inr d =>
      obtain ⟨D, k1, _, rfl⟩ := ht
      obtain ⟨D', k1', _, _, k4, _⟩ := T.pl d (hp d rfl)
      rw [k1] at k1'; cases k1'
      have m : ty ∈ bTypes := by
        simp only [askTys, List.mem_cons, List.not_mem_nil, or_false] at hm
        rcases hm with e | e | e | e | e | e <;> (cases e; decide)
      exact (k4 ty m).1
theorem px_isi1 {q : Str × Bool} {p1 p2 : Pos} (Gd : Good G N sc calm X) (T : Tops G Γ X.prog X.w X.mg X.base k) (ha : PX G cu Wi X a sa) (hg : Gl X "isinstance") (hgc : Gl X q.1) (hd : (q.1 == ("__debug__" : Str)) = false) (hq : (if q.2 then Γ.pl q.1 else (askTys.lookup q.1).isSome) = true) :
    PX G cu Wi X (.Call (.Name "isinstance" p1) [a, .Name q.1 p2] [] pos) (.of fun l M => (sa.v l M).bind fun w M1 => need (tyW M1 w) fun t => if isiAll Γ.pl t [q] then .ok (.bl ([q].any (isiOne t))) M1 else .err) := by
  obtain ⟨cv, u, h1, h2, h3⟩ := ask_ok T hq Gd.blt hd
  have hm : X.mg "isinstance" = none := Gd.blt _ (by decide +kernel)
  refine PX.of Gd.K ((pe_callB call_isi hg hm rfl (pa_cons ha.pe (pa_cons (h2 hgc) pa_nil) (starEach_cons ha.ns)) (by decide +kernel) (by decide +kernel) (starEach_cons ha.ns) rfl).imp fun σ H Q q1 => ?_) (fun _ => rfl) rfl
  refine (TOf.bind (fa := sa.v) (f := fun _ w M1 => need (tyW M1 w) fun t => if isiAll Γ.pl t [q] then .ok (W.bl ([q].any (isiOne t))) M1 else .err) (rel1 := RW G) q1).imp fun v H1 ⟨g1, M1, l, w, a1, r1, p⟩ => ?_
  obtain ⟨t, ht, p⟩ := Post.need p
  split at p
  · rename_i hall
    simp only [isiAll, Bool.and_eq_true] at hall
    have hp : ∀ c, t = .inr c → Γ.pl c = true := fun c e => by subst e; exact hall.1
    obtain ⟨tv, k1, k2⟩ := ty_ok a1.abs r1 ht fun c e => let ⟨C, z1, _, z2, _⟩ := T.pl c (hp c e); ⟨C, z1, z2⟩
    rw [Gd.K]
    refine ⟨v, cv, tv, u, isiOne t q, rfl, h1, k2, h3 t tv k1 hp, ?_⟩
    have e : [q].any (isiOne t) = isiOne t q := by simp
    rw [e] at p
    exact p.now a1.abs rfl
  · exact p.no.elim
end
end PyI
namespace PyI
open PySem PySem.Spec PyProof.Rows L2
section
variable {G : GE} {Γ : Glo} {cu : Option Cu} {Wi : WX} {X : Cx} {g g' g1 g2 : Gh} {M M' M1 M2 : Store} {H H' H1 H2 : Hp} {σ : L2.St} {l : LM} {N : List Str} {sc : Scope} {calm : Bool} {a b c : Expr} {sa sb s_c : Sm} {pos : Pos} {k : Nat} {D : Addr}
/-! ### one object of one's own, that is written meanwhile -/
structure EvoX (D : Addr) (g : Gh) (M : Store) (H : Hp) (g' : Gh) (M' : Store) (H' : Hp) : Prop where
  more : ∃ X, g'.R = g.R ++ X ∧ ∀ a ∈ X, H a = none
  zs : g'.Z = g.Z
  len : M.length ≤ M'.length
  dead : ∀ (i : Nat) (c : Cell), M[i]? = some c → c.live = false → M'[i]? = some c
  keep : ∀ a o, a ≠ D → H a = some o → NL g M a → H' a = some o
  dom : ∀ a, H a ≠ none → H' a ≠ none
theorem Evo.x (e : Evo g M H g' M' H') : EvoX D g M H g' M' H' := ⟨e.more, e.zs, e.len, e.dead, fun a o _ h f => e.keep a o h f, e.dom⟩
theorem EvoX.nl (e : EvoX D g M H g' M' H') (hl : g.R.length = M.length) {a : Addr} (ha : H a ≠ none) (f : NL g M a) : NL g' M' a := by
  intro i c h1 h2
  obtain ⟨X, hR, hX⟩ := e.more
  rw [hR] at h1
  by_cases hi : i < g.R.length
  · rw [List.getElem?_append_left hi] at h1
    obtain ⟨c0, hc0⟩ : ∃ c0, M[i]? = some c0 := ⟨_, List.getElem?_eq_getElem (by omega)⟩
    have := f i c0 h1 hc0
    rw [e.dead i c0 hc0 this] at h2
    cases h2; exact this
  · rw [List.getElem?_append_right (by omega)] at h1
    exact absurd (hX a (List.mem_of_getElem? h1)) ha
theorem EvoX.trans (e : EvoX D g M H g' M' H') (hl : g.R.length = M.length) (f : EvoX D g' M' H' g2 M2 H2) : EvoX D g M H g2 M2 H2 := by
  obtain ⟨X, hR, hX⟩ := id e.more
  obtain ⟨Y, hR2, hY⟩ := id f.more
  refine ⟨⟨X ++ Y, by rw [hR2, hR, List.append_assoc], fun a ha => ?_⟩, f.zs.trans e.zs, Nat.le_trans e.len f.len, fun i c h1 h2 => f.dead i c (e.dead i c h1 h2) h2, fun a o h0 h1 h2 => ?_, fun a h => f.dom a (e.dom a h)⟩
  · rcases List.mem_append.mp ha with h | h
    · exact hX a h
    · have := hY a h
      cases q : H a with
      | none => rfl
      | some o => exact absurd this (e.dom a (by rw [q]; simp))
  · exact f.keep a o h0 (e.keep a o h0 h1 h2) (e.nl hl (by rw [h1]; simp) h2)
theorem EvoX.fro (e : EvoX D g M H g' M' H') (hl : g.R.length = M.length) {a : Addr} (ha : H a ≠ none) (f : Fro g M a) : Fro g' M' a := ⟨by rw [e.zs]; exact f.1, e.nl hl ha f.2⟩
/-- D as seen with nothing but D changed: a step of Evo on the heap where D stands still -/
theorem EvoX.evo (e : EvoX D g M H g' M' H') (hD : H D = H' D ∨ H D = none) : Evo g M H g' M' H' := ⟨e.more, e.zs, e.len, e.dead, fun a o h f => by
  by_cases ha : a = D
  · subst ha
    rcases hD with q | q
    · rw [← q]; exact h
    · rw [q] at h; cases h
  · exact e.keep a o ha h f, e.dom⟩
theorem EvoX.at_ (e : EvoX D g M H g' M' H') (hD : D ∈ g.Z) {a : Addr} {o : HO} (h : H a = some o) (f : Fro g M a) : H' a = some o := e.keep a o (fun q => f.1 (q ▸ hD)) h f.2
mutual
theorem RW.evoX (hl : g.R.length = M.length) (hD : D ∈ g.Z) (e : EvoX D g M H g' M' H') : ∀ {w : W} {v : V}, RW G g M H w v → RW G g' M' H' w v
  | .non, v, h => h
  | .bl b, v, h => h
  | .int i, v, h => h
  | .str x, v, h => h
  | .tup ws, v, h => by
    obtain ⟨a, vs, h1, h2, h3⟩ := h
    refine ⟨a, vs, h1, ?_, RWs.evoX hl hD e h3⟩
    rcases h2 with ⟨h2 | ⟨o, h2⟩, f⟩ | h2
    · exact .inl ⟨.inl (e.at_ hD h2 f), e.fro hl (by rw [h2]; simp) f⟩
    · exact .inl ⟨.inr ⟨o, e.at_ hD h2 f⟩, e.fro hl (by rw [h2]; simp) f⟩
    · exact .inr h2
  | .lst ws, v, h => by
    obtain ⟨a, vs, h1, h2, h3⟩ := h
    refine ⟨a, vs, h1, ?_, RWs.evoX hl hD e h3⟩
    rcases h2 with ⟨h2 | ⟨o, h2⟩, f⟩
    · exact ⟨.inl (e.at_ hD h2 f), e.fro hl (by rw [h2]; simp) f⟩
    · exact ⟨.inr ⟨o, e.at_ hD h2 f⟩, e.fro hl (by rw [h2]; simp) f⟩
  | .dct ks ws, v, h => by
    obtain ⟨a, kvs, h1, h2, h3, h4, h5⟩ := h
    exact ⟨a, kvs, h1, e.at_ hD h2 h3, e.fro hl (by rw [h2]; simp) h3, h4, RWs.evoX hl hD e h5⟩
  | .obj c ns ws, v, h => by
    obtain ⟨a, C, dx, fs, h1, h2, h3, h4, h5, h6⟩ := h
    exact ⟨a, C, dx, fs, h1, h2, e.at_ hD h3 h4, e.fro hl (by rw [h3]; simp) h4, h5, RWs.evoX hl hD e h6⟩
  | .ref n, v, h => by
    obtain ⟨a, h1, h2⟩ := h
    obtain ⟨X, hR, _⟩ := e.more
    exact ⟨a, by rw [hR, List.getElem?_append_left (List.getElem?_eq_some_iff.mp h1).1]; exact h1, h2⟩
  | .cls c, v, h => h
  | .typ n, v, h => h
  | .scr ns, v, h => by
    obtain ⟨a, h1, h2⟩ := h
    rcases h2 with ⟨h2 | ⟨o, h2⟩, f⟩ | h2
    · exact ⟨a, h1, .inl ⟨.inl (e.at_ hD h2 f), e.fro hl (by rw [h2]; simp) f⟩⟩
    · exact ⟨a, h1, .inl ⟨.inr ⟨o, e.at_ hD h2 f⟩, e.fro hl (by rw [h2]; simp) f⟩⟩
    · exact ⟨a, h1, .inr h2⟩
theorem RWs.evoX (hl : g.R.length = M.length) (hD : D ∈ g.Z) (e : EvoX D g M H g' M' H') : ∀ {ws : List W} {vs : List V}, RWs G g M H ws vs → RWs G g' M' H' ws vs
  | [], vs, h => h
  | w :: ws, vs, h => by
    obtain ⟨v, r, h1, h2, h3⟩ := h
    exact ⟨v, r, h1, RW.evoX hl hD e h2, RWs.evoX hl hD e h3⟩
end
theorem CellAt.evoX (hl : g.R.length = M.length) (hD : D ∈ g.Z) (e : EvoX D g M H g' M' H') {a : Addr} {c : Con} (h : CellAt G g M H a c) (k : ∀ o, H a = some o → H' a = some o) : CellAt G g' M' H' a c := by
  cases c with
  | lst ws => obtain ⟨vs, h1, h2⟩ := h; exact ⟨vs, k _ h1, h2.evoX hl hD e⟩
  | dct ks ws => obtain ⟨vs, h1, h2, h3⟩ := h; exact ⟨vs, k _ h1, h2, h3.evoX hl hD e⟩
  | obj c ns ws => obtain ⟨C, dx, fs, h1, h2, h3, h4⟩ := h; exact ⟨C, dx, fs, h1, k _ h2, h3, h4.evoX hl hD e⟩
theorem LR.evoX (hl : g.R.length = M.length) (hD : D ∈ g.Z) (e : EvoX D g M H g' M' H') {ws : List (Option W)} (h : LR G g M H ws σ) : LR G g' M' H' ws σ :=
  ⟨h.1, fun i w q => let ⟨v, a, b⟩ := h.2 i w q; ⟨v, a, b.evoX hl hD e⟩⟩
/-- D is written -/
theorem Abs.own (a : Abs G g M H) (hD : D ∈ g.Z) {o : HO} : Abs G g M (upd H D o) ∧ EvoX D g M H g M (upd H D o) := by
  have e : EvoX D g M H g M (upd H D o) := ⟨⟨[], by simp, by simp⟩, rfl, Nat.le_refl _, fun _ _ h _ => h, fun b u hb h _ => by rw [upd_ne hb]; exact h, fun b h => by
    by_cases hb : b = D
    · subst hb; rw [upd_same]; simp
    · rw [upd_ne hb]; exact h⟩
  have hDR : D ∉ g.R := a.nz D hD
  refine ⟨⟨a.len, a.nd, a.nz, fun z hz => e.dom z (a.zd z hz), fun i c p h1 h2 => ?_⟩, e⟩
  have hp : p ≠ D := fun q => hDR (q ▸ List.mem_of_getElem? h2)
  exact (a.cell i c p h1 h2).evoX a.len hD e fun o h => by rw [upd_ne hp]; exact h
/-- a new object of one's own: nothing may lean on it -/
def ownG (g : Gh) (D : Addr) : Gh := ⟨g.R, D :: g.Z⟩
theorem fro_own (hD : H D = none) {b : Addr} (hb : H b ≠ none) (f : Fro g M b) : Fro (ownG g D) M b := ⟨fun h => by
  rcases List.mem_cons.mp h with h | h
  · exact hb (h ▸ hD)
  · exact f.1 h, f.2⟩
theorem Abs.toOwn (a : Abs G g M H) (hD : H D = none) {o : HO} : Abs G (ownG g D) M (upd H D o) := by
  obtain ⟨a1, e1⟩ := a.fresh (o := o) hD
  refine ⟨a1.len, a1.nd, fun z hz => ?_, fun z hz => ?_, fun i c p h1 h2 => ?_⟩
  · rcases List.mem_cons.mp hz with h | h
    · rw [h]; exact a.cellNe hD
    · exact a.nz z h
  · rcases List.mem_cons.mp hz with h | h
    · rw [h, upd_same]; simp
    · exact a1.zd z h
  · have C := (a.cell i c p h1 h2).via (g' := ownG g D) (M' := M) (fun b hb f => fro_own hD hb f) (.inr fun _ _ q => q)
    refine C.evo (show (ownG g D).R.length = M.length from a.len) (evo_ext (g := ownG g D) (H1 := upd H D o) fun b u q => by rw [upd_ne (ne_of_none q hD)]; exact q) fun u q => by rw [upd_ne (ne_of_none q hD)]; exact q
theorem RW.toOwn (hl : g.R.length = M.length) (hD : H D = none) {o : HO} {w : W} {v : V} (r : RW G g M H w v) : RW G (ownG g D) M (upd H D o) w v :=
  (r.via (g' := ownG g D) (M' := M) (fun b hb f => fro_own hD hb f) (.inr fun _ _ q => q)).evo (show (ownG g D).R.length = M.length from hl) (evo_ext (g := ownG g D) (H1 := upd H D o) fun b u q => by rw [upd_ne (ne_of_none q hD)]; exact q)
theorem RWs.toOwn (hl : g.R.length = M.length) (hD : H D = none) {o : HO} {w : List W} {v : List V} (r : RWs G g M H w v) : RWs G (ownG g D) M (upd H D o) w v :=
  (r.via (g' := ownG g D) (M' := M) (fun b hb f => fro_own hD hb f) (.inr fun _ _ q => q)).evo (show (ownG g D).R.length = M.length from hl) (evo_ext (g := ownG g D) (H1 := upd H D o) fun b u q => by rw [upd_ne (ne_of_none q hD)]; exact q)
theorem LR.toOwn (hl : g.R.length = M.length) (hD : H D = none) {o : HO} {l : LM} (h : LR G g M H l σ) : LR G (ownG g D) M (upd H D o) l σ := ⟨h.1, fun i w q => let ⟨v, a, b⟩ := h.2 i w q; ⟨v, a, b.toOwn hl hD⟩⟩
/-- the object given back: as a frozen one, or as a new cell -/
theorem own_back {o : HO} (a0 : Abs G g M H) (hD : H D = none) (a : Abs G g1 M1 H1) (e : EvoX D (ownG g D) M (upd H D o) g1 M1 H1) : Abs G ⟨g1.R, g.Z⟩ M1 H1 ∧ Evo g M H ⟨g1.R, g.Z⟩ M1 H1 ∧ (∀ b, Fro g1 M1 b → Fro ⟨g1.R, g.Z⟩ M1 b) ∧ Fro ⟨g1.R, g.Z⟩ M1 D := by
  have hz : g1.Z = D :: g.Z := e.zs
  have sub : ∀ b, Fro g1 M1 b → Fro ⟨g1.R, g.Z⟩ M1 b := fun b f => ⟨fun h => f.1 (by rw [hz]; exact List.mem_cons_of_mem _ h), f.2⟩
  have hDR : D ∉ g1.R := a.nz D (by rw [hz]; exact List.mem_cons_self ..)
  have hDZ : D ∉ g.Z := fun h => a0.zd D h hD
  obtain ⟨X, hR, hX⟩ := e.more
  refine ⟨⟨a.len, a.nd, fun z h => a.nz z (by rw [hz]; exact List.mem_cons_of_mem _ h), fun z h => a.zd z (by rw [hz]; exact List.mem_cons_of_mem _ h), fun i c p h1 h2 => (a.cell i c p h1 h2).via (g' := ⟨g1.R, g.Z⟩) (fun b _ f => sub b f) (.inr fun _ _ q => q)⟩, ⟨⟨X, hR, fun b hb => ?_⟩, rfl, e.len, e.dead, fun b u h f => ?_, fun b h => ?_⟩, sub, hDZ, fun i c h1 _ => absurd (List.mem_of_getElem? h1) hDR⟩
  · have := hX b hb
    by_cases q : b = D
    · rw [q]; exact hD
    · rwa [upd_ne q] at this
  · exact e.keep b u (ne_of_none h hD) (by rw [upd_ne (ne_of_none h hD)]; exact h) f
  · refine e.dom b ?_
    by_cases q : b = D
    · rw [q, upd_same]; simp
    · rw [upd_ne q]; exact h
/-- .. as a cell -/
theorem own_cell {o : HO} {c : Con} (a0 : Abs G g M H) (hD : H D = none) (a : Abs G g1 M1 H1) (e : EvoX D (ownG g D) M (upd H D o) g1 M1 H1) (hc : CellAt G g1 M1 H1 D c) :
    Abs G ⟨g1.R ++ [D], g.Z⟩ (M1 ++ [⟨true, c⟩]) H1 ∧ Evo g M H ⟨g1.R ++ [D], g.Z⟩ (M1 ++ [⟨true, c⟩]) H1 := by
  obtain ⟨b1, b2, b3, b4⟩ := own_back a0 hD a e
  have hz : g1.Z = D :: g.Z := e.zs
  have hDR : D ∉ g1.R := a.nz D (by rw [hz]; exact List.mem_cons_self ..)
  have hDZ : D ∉ g.Z := b4.1
  have sub : ∀ b, Fro g1 M1 b → Fro ⟨g1.R ++ [D], g.Z⟩ (M1 ++ [⟨true, c⟩]) b := fun b f => ⟨(b3 b f).1, fun i c' h1 h2 => by
    by_cases hi : i < M1.length
    · rw [List.getElem?_append_left hi] at h2
      have h1 : (g1.R ++ [D])[i]? = some b := h1
      rw [List.getElem?_append_left (by rw [a.len]; exact hi)] at h1
      exact f.2 i c' h1 h2
    · have h1 : (g1.R ++ [D])[i]? = some b := h1
      rw [List.getElem?_append_right (by rw [a.len]; omega)] at h1
      have : b = D := by
        cases q : i - g1.R.length with
        | zero => rw [q] at h1; simpa using h1.symm
        | succ n => rw [q] at h1; simp at h1
      exact absurd (by rw [this, hz]; exact List.mem_cons_self ..) f.1⟩
  have sameR : SameR g1 ⟨g1.R ++ [D], g.Z⟩ := fun n p h => by
    show (g1.R ++ [D])[n]? = some p
    rw [List.getElem?_append_left (List.getElem?_eq_some_iff.mp h).1]; exact h
  obtain ⟨X, hR, hX⟩ := b2.more
  refine ⟨⟨by simp [a.len], List.nodup_append.mpr ⟨a.nd, by simp, fun x hx y hy q => ?_⟩, fun z h hm => ?_, b1.zd, fun i c' p h1 h2 => ?_⟩, ⟨⟨X ++ [D], by rw [← List.append_assoc, ← hR], fun b hb => ?_⟩, rfl, by have := b2.len; simp; omega, fun i c' h1 h2 => ?_, b2.keep, b2.dom⟩⟩
  · simp at hy; exact hDR (by rw [← hy, ← q]; exact hx)
  · rcases List.mem_append.mp hm with h' | h'
    · exact b1.nz z h h'
    · simp at h'; exact hDZ (h' ▸ h)
  · by_cases hi : i < M1.length
    · rw [List.getElem?_append_left hi] at h1
      have h2 : (g1.R ++ [D])[i]? = some p := h2
      rw [List.getElem?_append_left (by rw [a.len]; exact hi)] at h2
      exact (a.cell i c' p h1 h2).via (fun b _ f => sub b f) (.inr sameR)
    · rw [List.getElem?_append_right (by omega)] at h1
      have h2 : (g1.R ++ [D])[i]? = some p := h2
      rw [List.getElem?_append_right (by rw [a.len]; omega), a.len] at h2
      cases q : i - M1.length with
      | zero =>
        rw [q] at h1 h2
        simp at h1 h2
        subst h1 h2
        exact hc.via (fun b _ f => sub b f) (.inr sameR)
      | succ n => rw [q] at h1; simp at h1
  · rcases List.mem_append.mp hb with h | h
    · exact hX b h
    · simp at h; rw [h]; exact hD
  · rw [List.getElem?_append_left (by have := (List.getElem?_eq_some_iff.mp h1).1; have := b2.len; omega)]
    exact b2.dead i c' h1 h2
end
end PyI
namespace PyI
open PySem PySem.Spec PyProof.Rows L2
section
variable {G : GE} {Γ : Glo} {cu : Option Cu} {Wi : WX} {X : Cx} {g g' g1 g2 : Gh} {M M' M1 M2 : Store} {H H' H1 H2 : Hp} {σ : L2.St} {l : LM} {N : List Str} {sc : Scope} {calm : Bool} {a b c : Expr} {sa sb s_c : Sm} {pos : Pos} {k : Nat} {D : Addr}
/-! ### targets -/
mutual
def tgSl : Tg → List Nat
  | .nm i => [i]
  | .tup ts => tgSls ts
def tgSls : List Tg → List Nat
  | [] => []
  | t :: ts => tgSl t ++ tgSls ts
end
def gOf (G : GE) (t : Tg) : TG := fun v σ H Q => ∃ g M l w l', Abs G g M H ∧ LR G g M H l σ ∧ RW G g M H w v ∧ tgW t w l = some l' ∧ ∀ σ', (∀ j : Nat, j ∉ tgSl t → σ'[j]? = σ[j]?) → LR G g M H l' σ' → Q σ' H
def gOfs (G : GE) (ts : List Tg) : TGs := fun vs σ H Q => ∃ g M l ws l', Abs G g M H ∧ LR G g M H l σ ∧ RWs G g M H ws vs ∧ tgWs ts ws l = some l' ∧ ∀ σ', (∀ j : Nat, j ∉ tgSls ts → σ'[j]? = σ[j]?) → LR G g M H l' σ' → Q σ' H
theorem _root_.L2.PG.imp {e : Expr} {t t' : TG} (h : PG X e t) (k : ∀ v σ H Q, t' v σ H Q → t v σ H Q) : PG X e t' := ⟨fun pins s σ H v u Q I r q => h.run pins s σ H v u Q I r (k _ _ _ _ q)⟩
theorem _root_.L2.PGs.imp {e : List Expr} {t t' : TGs} (h : PGs X e t) (k : ∀ v σ H Q, t' v σ H Q → t v σ H Q) : PGs X e t' := ⟨fun pins s σ H v u Q I r q => h.run pins s σ H v u Q I r (k _ _ _ _ q)⟩
theorem pg_nm {i : Nat} {x : Str} (hN : X.N.Nodup) (hi : X.N[i]? = some x) (hx : Loc X.env.scope x) (hf : X.fn x = true ∨ X.env.scope.names.lookup x = some .local) : PG X (.Name x pos) (gOf G (.nm i)) :=
  (pg_name hN hi hx hf).imp fun v σ H Q ⟨g, M, l, w, l', _, h2, h3, h4, h5⟩ => by
    cases h4
    exact h5 _ (fun j hj => List.getElem?_set_ne (by simp [tgSl] at hj; omega)) (h2.set i h3)
theorem pgs_nil' : PGs X [] (gOfs G []) :=
  pgs_nil.imp fun vs σ H Q ⟨g, M, l, ws, l', _, h2, h3, h4, h5⟩ => by
    cases ws with
    | nil => cases h4; exact ⟨h3, h5 _ (fun _ _ => rfl) h2⟩
    | cons w ws => cases h4
theorem pgs_cons' {e : Expr} {es : List Expr} {t : Tg} {ts : List Tg} (h1 : PG X e (gOf G t)) (h2 : PGs X es (gOfs G ts)) (hs : (assignEach (e :: es) X.env).map (·.2) = assign e X.env :: (assignEach es X.env).map (·.2)) : PGs X (e :: es) (gOfs G (t :: ts)) :=
  (pgs_cons h1 h2 hs).imp fun vs σ H Q ⟨g, M, l, ws, l', k1, k2, k3, k4, k5⟩ => by
    cases ws with
    | nil => cases k4
    | cons w ws =>
      obtain ⟨v, r, e1, r1, r2⟩ := k3
      unfold tgWs at k4
      obtain ⟨l1, h3, h4⟩ := Option.bind_eq_some_iff.mp k4
      refine ⟨v, r, e1, g, M, l, w, l1, k1, k2, r1, h3, fun σ1 f1 lr1 => ⟨g, M, l1, ws, l', k1, lr1, r2, h4, fun σ2 f2 lr2 => k5 σ2 (fun j hj => ?_) lr2⟩⟩
      have hj' : j ∉ tgSl t ++ tgSls ts := hj
      rw [List.mem_append, not_or] at hj'
      rw [f2 j hj'.2, f1 j hj'.1]
theorem tgWs_len : ∀ {ts : List Tg} {ws : List W} {l l' : LM}, tgWs ts ws l = some l' → ws.length = ts.length
  | [], [], _, _, _ => rfl
  | [], _ :: _, _, _, h => by cases h
  | _ :: _, [], _, _, h => by cases h
  | t :: ts, w :: ws, l, l', h => by
    unfold tgWs at h
    obtain ⟨l1, _, h4⟩ := Option.bind_eq_some_iff.mp h
    simp [tgWs_len h4]
theorem pg_tupT {es : List Expr} {kk n : Nat} {ts : List Tg} (hK : X.K = G.K) (hc : X.calm = true) (h : PGs X es (gOfs G ts)) (hl : ts.length = n) (hn : (assignEach es X.env).length = n) (hst : (assignEach es X.env).findIdx? (·.1) = none) : PG X (.Tuple es kk pos) (gOf G (.tup ts)) :=
  (pg_tup hc h hn hst).imp fun v σ H Q ⟨g, M, l, w, l', k1, k2, k3, k4, k5⟩ => by
    cases w <;> first | (cases k4; done) | skip
    rename_i ws
    obtain ⟨p, vs, e, h1, h2⟩ := k3
    exact ⟨p, vs, e, by rw [hK]; exact h1.sq, by rw [← h2.length, ← hl]; exact tgWs_len k4, g, M, l, ws, l', k1, k2, h2, k4, k5⟩

/-! ### what is walked -/
def ISrc (G : GE) (J : It) (k : Itk) (vs : List W) (xs : List V) (items : List W) : Prop :=
  ∀ g M H, Abs G g M H → RWs G g M H vs xs → itemsW k vs M = some items →
    (∀ (i : Nat) w, items[i]? = some w → J.go i H ∧ ∀ x H', J.yld i H x H' → Abs G g M H' ∧ Evo g M H g M H' ∧ RW G g M H' w x) ∧ J.stop items.length H
def iOf (G : GE) (cu : Option Cu) (Wi : WX) (k : Itk) (fs : LM → Store → Res (List W)) : TI := fun σ H R => TOf G cu Wi (RWs G) fs σ H fun xs H1 => ∃ g1 M1 vs items, Abs G g1 M1 H1 ∧ RWs G g1 M1 H1 vs xs ∧ itemsW k vs M1 = some items ∧ ∀ J, ISrc G J k vs xs items → R J H1
theorem _root_.L2.PI.imp {tg e : Expr} {t t' : TI} (h : PI X tg e t) (k : ∀ σ H R, t' σ H R → t σ H R) : PI X tg e t' := ⟨fun pins s σ H R I q => h.run pins s σ H R I (k _ _ _ q)⟩
theorem src_list {a : Addr} {w : W} : (∀ x, w ≠ .str x) → (∀ us, w ≠ .tup us) → (∀ ns, w ≠ .scr ns) → ∀ {items : List W}, ISrc G (Itl G.K a) .seq [w] [.ref a] items := by
  intro hs ht hn items g M H ab r hi
  obtain ⟨v, rv, r1⟩ := r.one_inv
  cases rv
  have hi : vS M w = some items := by
    cases w <;> first | exact hi | exact absurd rfl (hs _)
  have hL : vL M w = some items := by
    cases w <;> first | exact hi | exact absurd rfl (ht _) | exact absurd rfl (hn _)
  obtain ⟨q, xs, e, h1, h2⟩ := vL_ok ab hL r1
  cases e
  have sq : SqL G.K H a xs := .inl h1
  refine ⟨fun i w hw => ?_, ⟨xs, sq, by rw [h2.length]; exact Nat.le_refl _⟩⟩
  obtain ⟨z, hz, rz⟩ := h2.get hw
  refine ⟨⟨xs, z, sq, hz⟩, fun x H' hy => ?_⟩
  obtain ⟨rfl, hx⟩ := hy
  have := hx xs sq
  rw [hz] at this
  cases this
  exact ⟨ab, Evo.refl, rz⟩
theorem src_scr {a : Addr} {ns : List Int} {items : List W} : ISrc G (Itl G.K a) .seq [.scr ns] [.ref a] items := by
  intro g M H ab r hi
  obtain ⟨v, rv, r1⟩ := r.one_inv
  cases rv
  have hi : ns.map W.int = items := Option.some.inj hi
  subst hi
  obtain ⟨q, e, h1⟩ := r1
  cases e
  have h2 := ints_rws (G := G) (g := g) (M := M) (H := H) ns
  have sq := h1.sq
  refine ⟨fun i w hw => ?_, ⟨_, sq, by rw [h2.length]; exact Nat.le_refl _⟩⟩
  obtain ⟨z, hz, rz⟩ := h2.get hw
  refine ⟨⟨_, z, sq, hz⟩, fun x H' hy => ?_⟩
  obtain ⟨rfl, hx⟩ := hy
  have := hx _ sq
  rw [hz] at this
  cases this
  exact ⟨ab, Evo.refl, rz⟩
theorem src_tup {a : Addr} {us items : List W} : ISrc G (Itt G.K a) .seq [.tup us] [.ref a] items := by
  intro g M H ab r hi
  obtain ⟨v, rv, r1⟩ := r.one_inv
  cases rv
  have hi : us = items := Option.some.inj hi
  subst hi
  obtain ⟨q, xs, e, h1, h2⟩ := r1
  cases e
  refine ⟨fun i w hw => ?_, ⟨xs, h1.sq, by rw [h2.length]; exact Nat.le_refl _⟩⟩
  obtain ⟨z, hz, rz⟩ := h2.get hw
  refine ⟨⟨xs, z, h1.sq, hz⟩, fun x H' hy => ?_⟩
  obtain ⟨rfl, hx⟩ := hy
  have := hx xs h1.sq
  rw [hz] at this
  cases this
  exact ⟨ab, Evo.refl, rz⟩
theorem src_str {x : Str} {items : List W} : ISrc G (Its x) .seq [.str x] [.str x] items := by
  intro g M H ab r hi
  have hi : chars x = items := Option.some.inj hi
  subst hi
  have hl : (chars x).length = x.cps.size := by simp [chars]
  refine ⟨fun i w hw => ?_, by rw [hl]; exact Nat.le_refl _⟩
  have hi := (List.getElem?_eq_some_iff.mp hw).1
  refine ⟨by show i < x.cps.size; rw [← hl]; exact hi, fun v H' hy => ?_⟩
  obtain ⟨rfl, c, hc, rfl⟩ := hy
  simp only [chars, List.getElem?_map, Array.getElem?_toList, hc, Option.map_some, Option.some.injEq] at hw
  subst hw
  exact ⟨ab, Evo.refl, rfl⟩
theorem src_range {lo : Int} {n : Nat} {vs : List W} {xs : List V} {items : List W} (hi : items = (List.range n).map fun (i : Nat) => W.int (lo + (i : Int))) : ISrc G (Itr lo n) .range vs xs items := by
  intro g M H ab r _
  subst hi
  refine ⟨fun i w hw => ?_, by simp; exact Nat.le_refl _⟩
  have hi := (List.getElem?_eq_some_iff.mp hw).1
  simp at hi
  refine ⟨hi, fun v H' hy => ?_⟩
  obtain ⟨rfl, rfl⟩ := hy
  rw [List.getElem?_map, List.getElem?_range hi] at hw
  cases hw
  exact ⟨ab, Evo.refl, rfl⟩
theorem one_ta {Q : List V → Hp → Prop} (h : TAof G cu Wi (evEs [sa]) σ H Q) : TEof G cu Wi sa.v σ H (fun v H1 => Q [v] H1) := by
  obtain ⟨g, M, l, a, p⟩ := h
  refine ⟨g, M, l, a, ?_⟩
  have e : evEs [sa] l M = (sa.v l M).bind fun w M1 => .ok [w] M1 := by
    simp only [evEs]
    cases sa.v l M <;> rfl
  rw [e] at p
  refine (Post.bind (rel1 := RW G) a.abs.len p).imp fun v H1 ⟨g1, M1, w, a1, e1, r1, p1⟩ => p1.now a1 (.one r1)
theorem pi_seq {tg : Expr} (hK : X.K = G.K) (ha : PX G cu Wi X a sa) : PI X tg a (iOf G cu Wi .seq (evEs [sa])) := by
  refine ⟨fun pins s σ H R I h => ?_⟩
  refine thn (ha.pe.run pins s σ H _ I (one_ta h)) fun v s1 ⟨x, H1, I1, r1, g1, M1, vs, items, a1, rws, hit, hR⟩ => ?_
  match vs, rws, hit, hR with
  | [], rws, _, _ => cases (show [x] = [] from rws)
  | _ :: _ :: _, rws, _, _ =>
    obtain ⟨_, r, e, _, _, r', e2, _⟩ := rws
    subst e2
    cases e
  | [w], rws, hit, hR =>
    obtain ⟨x', e, rw1⟩ := rws.one_inv
    cases e
    have lists : ∀ {w : W}, (∀ z, w ≠ .str z) → (∀ us, w ≠ .tup us) → (∀ ns, w ≠ .scr ns) → RW G g1 M1 H1 w x → itemsW .seq [w] M1 = some items → (∀ J, ISrc G J .seq [w] [x] items → R J H1) → wpAny (model X.prog X.w) X.A (pyIter v) (PIE X pins σ tg R) X.xe s1 := by
      intro w n1 n2 n3 rw1 hit hR
      have hi : vS M1 w = some items := by cases w <;> first | exact hit | exact absurd rfl (n1 _)
      have hL : vL M1 w = some items := by cases w <;> first | exact hi | exact absurd rfl (n2 _) | exact absurd rfl (n3 _)
      obtain ⟨q, ys, e, h1, h2⟩ := vL_ok a1 hL rw1
      subst e
      cases r1
      obtain ⟨its, rv, p, hz⟩ := I1.list (show SqL X.K H1 q ys from .inl h1)
      refine wpAny_pyIter_list p.isList ?_
      refine ⟨s1.heap.objs.size, [s1.heap.objs.size], _, _, H1, rfl, I1.kept (t' := s1.toks) fun b o e => Heap.get?_push_of_some _ e, turn_list q _, ⟨_, Heap.get?_push_size _ rfl, rfl, rfl⟩, fun b hb => ?_, by rw [hK]; exact hR _ (src_list n1 n2 n3)⟩
      have e : b = s1.heap.objs.size := by simpa using hb
      subst e
      exact I1.fpOk (Nat.le_refl _) (I1.hok.fresh (Nat.le_refl _))
    cases w with
    | str z =>
      have ex : x = .str z := rw1
      subst ex
      obtain ⟨t, rfl⟩ := r1
      have q := hR _ src_str
      cases ha : z.cps.all (· < 128)
      · exact wpAny_pyIter_wide ha (pi_one (tk := s1.toks) I1 _ (turn_str _ z t "str_iterator" (.inr rfl)) ⟨_, Heap.get?_push_size _ rfl, rfl, rfl⟩ q)
      · exact wpAny_pyIter_ascii ha (pi_one (tk := s1.toks) I1 _ (turn_str _ z t "str_ascii_iterator" (.inl rfl)) ⟨_, Heap.get?_push_size _ rfl, rfl, rfl⟩ q)
    | tup us =>
      obtain ⟨q, ys, e, h1, h2⟩ := rw1
      subst e
      cases r1
      obtain ⟨its, rv, p, hz⟩ := I1.tuple (show SqT X.K H1 q ys by rw [hK]; exact h1.sq)
      refine wpAny_pyIter_tuple (show s1.heap.IsTuple q its.toArray from p) ?_
      refine ⟨s1.heap.objs.size, [s1.heap.objs.size], _, _, H1, rfl, I1.kept (t' := s1.toks) fun b o e => Heap.get?_push_of_some _ e, turn_tuple q _, ⟨_, Heap.get?_push_size _ rfl, rfl, rfl⟩, fun b hb => ?_, by rw [hK]; exact hR _ src_tup⟩
      have e : b = s1.heap.objs.size := by simpa using hb
      subst e
      exact I1.fpOk (Nat.le_refl _) (I1.hok.fresh (Nat.le_refl _))
    | scr ns =>
      obtain ⟨q, e, h1⟩ := rw1
      subst e
      cases r1
      obtain ⟨its, rv, p, hz⟩ := I1.list (show SqL X.K H1 q (ns.map V.int) by rw [hK]; exact h1.sq)
      refine wpAny_pyIter_list p.isList ?_
      refine ⟨s1.heap.objs.size, [s1.heap.objs.size], _, _, H1, rfl, I1.kept (t' := s1.toks) fun b o e => Heap.get?_push_of_some _ e, turn_list q _, ⟨_, Heap.get?_push_size _ rfl, rfl, rfl⟩, fun b hb => ?_, by rw [hK]; exact hR _ src_scr⟩
      have e : b = s1.heap.objs.size := by simpa using hb
      subst e
      exact I1.fpOk (Nat.le_refl _) (I1.hok.fresh (Nat.le_refl _))
    | lst us => exact lists (fun _ q => by cases q) (fun _ q => by cases q) (fun _ q => by cases q) rw1 hit hR
    | ref n => exact lists (fun _ q => by cases q) (fun _ q => by cases q) (fun _ q => by cases q) rw1 hit hR
    | _ => cases hit
theorem starEach_one {x : Expr} {env : Env} (h : notStar x = true) : starEach [x] env = [(false, eval x env)] := starEach_cons h
theorem starEach_two {x y : Expr} {env : Env} (h : notStar x = true) (k : notStar y = true) : starEach [x, y] env = [(false, eval x env), (false, eval y env)] := by rw [starEach_cons h, starEach_one k]
theorem evEs_len : ∀ {ss : List Sm} {M : Store} {ws : List W} {M1 : Store}, evEs ss l M = .ok ws M1 → ws.length = ss.length
  | [], M, ws, M1, h => by simp only [evEs] at h; cases h; rfl
  | s :: ss, M, ws, M1, h => by
    simp only [evEs] at h
    cases q : s.v l M with
    | ok w M2 =>
      rw [q] at h
      simp only [Res.bind] at h
      cases q2 : evEs ss l M2 with
      | ok us M3 => rw [q2] at h; cases h; simp [evEs_len q2]
      | exc c ns ws M2 => rw [q2] at h; cases h
      | err => rw [q2] at h; cases h
    | exc c ns ws M2 => rw [q] at h; cases h
    | err => rw [q] at h; cases h
theorem ta_len {ss : List Sm} {Q : List V → Hp → Prop} (h : TAof G cu Wi (evEs ss) σ H Q) : TAof G cu Wi (evEs ss) σ H (fun xs H1 => xs.length = ss.length ∧ Q xs H1) := by
  obtain ⟨g, M, l, a, p⟩ := h
  refine ⟨g, M, l, a, ?_⟩
  cases q : evEs ss l M with
  | ok ws M1 =>
    rw [q] at p
    exact fun g1 xs H1 a1 e1 r1 => ⟨by rw [← r1.length]; exact evEs_len q, p g1 xs H1 a1 e1 r1⟩
  | exc c ns ws M1 => rw [q] at p; exact p
  | err => rw [q] at p; exact p
theorem rng1_inv {w : W} {items : List W} (h : itemsW .range [w] M = some items) : ∃ j, w = .int j ∧ (-(2 ^ 62) ≤ j ∧ j < 2 ^ 62) ∧ items = (List.range j.toNat).map fun (i : Nat) => W.int ((0 : Int) + (i : Int)) := by
  cases w <;> first | (cases h; done) | skip
  rename_i j
  have hit : (if -(2 ^ 62) ≤ j ∧ j < 2 ^ 62 then some ((List.range j.toNat).map fun (i : Nat) => W.int (i : Int)) else none) = some items := h
  split at hit
  · rename_i hb
    cases hit
    exact ⟨j, rfl, hb, by simp⟩
  · cases hit
theorem rng2_inv {w y : W} {items : List W} (h : itemsW .range [w, y] M = some items) : ∃ i j, w = .int i ∧ y = .int j ∧ (-(2 ^ 62) ≤ i ∧ i < 2 ^ 62 ∧ -(2 ^ 62) ≤ j ∧ j < 2 ^ 62) ∧ items = (List.range (j - i).toNat).map fun (n : Nat) => W.int (i + (n : Int)) := by
  cases w <;> first | (cases h; done) | skip
  rename_i i
  cases y <;> first | (cases h; done) | skip
  rename_i j
  have hit : (if -(2 ^ 62) ≤ i ∧ i < 2 ^ 62 ∧ -(2 ^ 62) ≤ j ∧ j < 2 ^ 62 then some ((List.range (j - i).toNat).map fun (n : Nat) => W.int (i + (n : Int))) else none) = some items := h
  split at hit
  · rename_i hb
    cases hit
    exact ⟨i, j, rfl, rfl, hb, rfl⟩
  · cases hit
theorem pi_rng1 {tg : Expr} {p : Pos} (Gd : Good G N sc calm X) (hg : Gl X "range") (ha : PX G cu Wi X a sa) : PI X tg (.Call (.Name "range" p) [a] [] pos) (iOf G cu Wi .range (evEs [sa])) := by
  refine (pi_range1 hg (Gd.blt _ (by decide +kernel)) (PXs.pa (.cons ha .nil)) (starEach_one ha.ns)).imp fun σ H R h => ?_
  refine TOf.imp (ta_len h) fun xs H1 ⟨hl, g1, M1, vs, items, a1, rws, hit, hR⟩ => ?_
  match vs, rws, hit, hR with
  | [], rws, _, _ => rw [← rws.length] at hl; cases hl
  | _ :: _ :: _, rws, _, _ => rw [← rws.length] at hl; simp at hl
  | [w], rws, hit, hR =>
    obtain ⟨v, e1, rv⟩ := rws.one_inv
    obtain ⟨j, rfl, hb, rfl⟩ := rng1_inv hit
    exact ⟨j, by rw [e1, show v = .int j from rv], hb.1, hb.2, hR _ (src_range rfl)⟩
theorem pi_rng2 {tg : Expr} {p : Pos} (Gd : Good G N sc calm X) (hg : Gl X "range") (ha : PX G cu Wi X a sa) (hb : PX G cu Wi X b sb) : PI X tg (.Call (.Name "range" p) [a, b] [] pos) (iOf G cu Wi .range (evEs [sa, sb])) := by
  refine (pi_range2 hg (Gd.blt _ (by decide +kernel)) (PXs.pa (.cons ha (.cons hb .nil))) (starEach_two ha.ns hb.ns) (starEach_one hb.ns)).imp fun σ H R h => ?_
  refine TOf.imp (ta_len h) fun xs H1 ⟨hl, g1, M1, vs, items, a1, rws, hit, hR⟩ => ?_
  match vs, rws, hit, hR with
  | [], rws, _, _ => rw [← rws.length] at hl; cases hl
  | [_], rws, _, _ => rw [← rws.length] at hl; cases hl
  | _ :: _ :: _ :: _, rws, _, _ => rw [← rws.length] at hl; simp at hl
  | [w, y], rws, hit, hR =>
    obtain ⟨v, u, e1, rv, ru⟩ := rws.two_inv
    obtain ⟨i, j, rfl, rfl, hb, rfl⟩ := rng2_inv hit
    exact ⟨i, j, by rw [e1, show v = .int i from rv, show u = .int j from ru], hb, hR _ (src_range rfl)⟩
end
end PyI
namespace PyI
open PySem PySem.Spec PyProof.Rows L2
section
variable {G : GE} {Γ : Glo} {cu : Option Cu} {Wi : WX} {X : Cx} {g g' g1 g2 : Gh} {M M' M1 M2 : Store} {H H' H1 H2 : Hp} {σ : L2.St} {l : LM} {N : List Str} {sc : Scope} {calm : Bool} {a b c : Expr} {sa sb s_c : Sm} {pos : Pos} {k : Nat} {D : Addr}
theorem LR.wipe (h : LR G g M H l σ) : ∀ vs : List Nat, LR G g M H (wipeW l vs) (L2.wipe σ vs)
  | [] => h
  | v :: vs => (LR.wipe h vs).unset v
theorem wipe_congr {σ σ' : L2.St} : ∀ {vs : List Nat}, σ'.length = σ.length → (∀ j : Nat, j ∉ vs → σ'[j]? = σ[j]?) → L2.wipe σ' vs = L2.wipe σ vs := by
  intro vs hl h
  apply List.ext_getElem?
  intro i
  have key : ∀ (σ : L2.St) (vs : List Nat) (i : Nat), (L2.wipe σ vs)[i]? = if i ∈ vs then (if i < σ.length then some none else none) else σ[i]? := by
    intro σ vs
    induction vs with
    | nil => intro i; simp [L2.wipe]
    | cons v vs ih =>
      intro i
      show ((L2.wipe σ vs).set v none)[i]? = _
      by_cases hv : v = i
      · subst hv
        by_cases hi : v < σ.length
        · rw [List.getElem?_set_self (by rw [wipe_length]; exact hi)]
          simp [hi]
        · rw [List.getElem?_eq_none (by simp [wipe_length]; omega)]
          simp [hi]
      · rw [List.getElem?_set_ne hv, ih]
        simp [Ne.symm hv]
  rw [key, key]
  by_cases hi : i ∈ vs
  · rw [if_pos hi, if_pos hi, hl]
  · rw [if_neg hi, if_neg hi, h i hi]
theorem wipe_wipe {σ : L2.St} {vs : List Nat} {σ' : L2.St} (h : σ'.length = σ.length) (k : ∀ j : Nat, j ∉ vs → σ'[j]? = (L2.wipe σ vs)[j]?) : L2.wipe σ' vs = L2.wipe σ vs := by
  have : L2.wipe σ' vs = L2.wipe (L2.wipe σ vs) vs := wipe_congr (by rw [wipe_length]; exact h) k
  rw [this]
  apply wipe_congr (by rw [wipe_length])
  intro j hj
  have key : ∀ (vs : List Nat), j ∉ vs → (L2.wipe σ vs)[j]? = σ[j]? := by
    intro vs
    induction vs with
    | nil => intro _; rfl
    | cons v vs ih =>
      intro h
      simp only [List.mem_cons, not_or] at h
      show ((L2.wipe σ vs).set v none)[j]? = _
      rw [List.getElem?_set_ne (Ne.symm h.1), ih h.2]
  exact key vs hj
theorem LR.len (h : LR G g M H l σ) : l.length = σ.length := h.1
theorem tgW_len : ∀ {t : Tg} {w : W} {l l' : LM}, tgW t w l = some l' → l'.length = l.length := by
  have key : ∀ n, (∀ {t : Tg} {w : W} {l l' : LM}, sizeOf t < n → tgW t w l = some l' → l'.length = l.length) ∧ ∀ {ts : List Tg} {ws : List W} {l l' : LM}, sizeOf ts < n → tgWs ts ws l = some l' → l'.length = l.length := by
    intro n
    induction n with
    | zero => exact ⟨fun h => by omega, fun h => by omega⟩
    | succ n ih =>
      refine ⟨fun {t w l l'} hz h => ?_, fun {ts ws l l'} hz h => ?_⟩
      · cases t with
        | nm i => cases h; simp
        | tup ts =>
          cases w <;> first | (cases h; done) | skip
          exact ih.2 (by simp at hz; omega) h
      · cases ts with
        | nil => cases ws with
          | nil => cases h; rfl
          | cons w ws => cases h
        | cons t ts => cases ws with
          | nil => cases h
          | cons w ws =>
            unfold tgWs at h
            obtain ⟨l1, h1, h2⟩ := Option.bind_eq_some_iff.mp h
            rw [ih.2 (by simp at hz; omega) h2, ih.1 (by simp at hz; omega) h1]
  exact fun {t w l l'} h => (key (sizeOf t + 1)).1 (Nat.lt_succ_self _) h
theorem At.still (h : Abs G g M H) (lr : LR G g M H l σ) : At G none g M H l σ := ⟨h, lr, fun c q => by cases q⟩
abbrev W0 : WX := fun _ _ _ _ => False
open Classical in
theorem lc_ok {kd : Itk} {fz : Bool} {own : List (Str × Nat)} {t : Tg} {ss cond : List Sm} {elt : Sm} {tt : TT} {Q : VK} (htg : ∀ j ∈ tgSl t, j ∈ own.map (·.2)) (htt : ∀ σ H Q, TTof G none W0 (evAndT cond) σ H Q → tt σ H Q)
    (h : TEof G none Wi (evLc fz own kd ss t cond elt) σ H Q) : tLc (iOf G none Wi kd (evEs ss)) (gOf G t) tt (TEof G none W0 elt.v) (own.map (·.2)) σ H Q := by
  obtain ⟨g0, M0, l, at0, p⟩ := h
  refine ⟨g0, M0, l, at0, (Post.bind (rel1 := RWs G) at0.abs.len p).imp fun xs H1 ⟨g1, M1, vs, a1, e1, r1, p1⟩ => ?_⟩
  obtain ⟨items, hit, p1⟩ := Post.need p1
  refine ⟨g1, M1, vs, items, a1, r1, hit, fun J hJ D hD => ?_⟩
  -- the turns' result
  cases hlc : lcW (fun x => tgW t x (wipeW l (own.map (·.2)))) (evAndT cond) elt.v (Still kd vs items) items M1 with
  | err => rw [hlc] at p1; exact p1.elim
  | exc c ns ws M2 => rw [hlc] at p1; exact p1.elim
  | ok ys M2 =>
  rw [hlc] at p1
  have p2 : Post G Wi (RW G) g1 M1 H1 σ (if ys.length ≤ sizeLine then newL fz ys M2 else .err) Q := p1
  split at p2
  · rename_i hys
    have a0 := a1.toOwn (o := .lst []) hD
    refine ⟨fun i m H' => ∃ g' M' acc accW ys', i ≤ items.length ∧ m = items.length - i ∧ Abs G g' M' H' ∧ EvoX D (ownG g1 D) M1 (upd H1 D (.lst [])) g' M' H' ∧ H' D = some (.lst acc) ∧ RWs G g' M' H' accW acc ∧
      lcW (fun x => tgW t x (wipeW l (own.map (·.2)))) (evAndT cond) elt.v (Still kd vs items) (items.drop i) M' = .ok ys' M2 ∧ accW ++ ys' = ys ∧ itemsW kd vs M' = some items, ?_, ?_⟩
    · exact ⟨_, ownG g1 D, M1, [], [], ys, Nat.zero_le _, rfl, a0, Evo.refl.x, upd_same, rfl, hlc, rfl, hit⟩
    · rintro i m H' ⟨g', M', acc, accW, ys', hi, rfl, a', e', hDa, racc, hl', hyy, hit'⟩
      have hDz : D ∈ g'.Z := by rw [e'.zs]; exact List.mem_cons_self ..
      have rsrc : RWs G g' M' H' vs xs := (r1.toOwn a1.len hD).evoX a0.len (List.mem_cons_self ..) e'
      obtain ⟨hgo, hstop⟩ := hJ g' M' H' a' rsrc hit'
      by_cases hlt : i = items.length
      · subst hlt
        left
        refine ⟨hstop, ?_⟩
        rw [List.drop_length] at hl'
        have hl'' : Res.ok ([] : List W) M' = .ok ys' M2 := hl'
        injection hl'' with e3 e4
        subst e3 e4
        rw [List.append_nil] at hyy
        subst hyy
        cases fz with
        | true =>
          obtain ⟨b1, b2, b3, b4⟩ := own_back a1 hD a' e'
          exact p2 _ _ _ b1 b2 ⟨D, acc, rfl, ⟨.inl hDa, b4⟩, racc.via (g' := ⟨g'.R, g1.Z⟩) (fun b _ f => b3 b f) (.inr fun _ _ q => q)⟩
        | false =>
          obtain ⟨b1, b2⟩ := own_cell (c := .lst accW) a1 hD a' e' ⟨acc, hDa, racc⟩
          refine p2 _ _ _ b1 b2 ⟨D, ?_, rfl⟩
          show (g'.R ++ [D])[M'.length]? = some D
          rw [← a'.len]; simp
      · right
        have hi2 : i < items.length := by omega
        obtain ⟨w, hw⟩ : ∃ w, items[i]? = some w := ⟨_, List.getElem?_eq_getElem hi2⟩
        have hdrop : items.drop i = w :: items.drop (i + 1) := by
          have h1 : w = items[i] := by rw [List.getElem?_eq_getElem hi2] at hw; exact (Option.some.inj hw).symm
          rw [h1]; exact List.drop_eq_getElem_cons hi2
        rw [hdrop] at hl'
        obtain ⟨hg, hy⟩ := hgo i w hw
        refine ⟨hg, fun H'' => ∃ m', m' < items.length - i ∧ ∃ g' M' acc accW ys', i + 1 ≤ items.length ∧ m' = items.length - (i + 1) ∧ Abs G g' M' H'' ∧ EvoX D (ownG g1 D) M1 (upd H1 D (.lst [])) g' M' H'' ∧ H'' D = some (.lst acc) ∧ RWs G g' M' H'' accW acc ∧
          lcW (fun x => tgW t x (wipeW l (own.map (·.2)))) (evAndT cond) elt.v (Still kd vs items) (items.drop (i + 1)) M' = .ok ys' M2 ∧ accW ++ ys' = ys ∧ itemsW kd vs M' = some items, fun H'' h => h, fun x H2 hyl => ?_⟩
        obtain ⟨a2, e2, rw2⟩ := hy x H2 hyl
        have eX2 := e'.trans a0.len (e2.x (D := D))
        have hD2 : H2 D = some (.lst acc) := e2.keep D _ hDa fun j c h1 _ => absurd (List.mem_of_getElem? h1) (a'.nz D hDz)
        have racc2 := racc.evo a'.len e2
        -- the turn by its own reading
        unfold lcW at hl'
        cases htw : tgW t w (wipeW l (own.map (·.2))) with
        | none => rw [htw] at hl'; cases hl'
        | some l1 =>
        rw [htw] at hl'
        simp only [need] at hl'
        have lr0 : LR G (ownG g1 D) M1 (upd H1 D (.lst [])) l σ := (at0.lr.evo at0.abs.len e1).toOwn a1.len hD
        have lr2 : LR G g' M' H2 (wipeW l (own.map (·.2))) (L2.wipe σ (own.map (·.2))) := (LR.evoX a0.len (List.mem_cons_self ..) eX2 lr0).wipe _
        refine ⟨g', M', _, w, l1, a2, lr2, rw2, htw, fun σ2 hfr lr3 => ?_⟩
        have hl2 : σ2.length = σ.length := by
          rw [← lr3.1, tgW_len htw, lr2.1, wipe_length]
        refine ⟨wipe_wipe hl2 fun j hj => hfr j fun hm => hj (htg j hm), htt _ _ _ ?_⟩
        refine ⟨g', M', l1, At.still a2 lr3, ?_⟩
        cases hc : evAndT cond l1 M' with
        | err => rw [hc] at hl'; cases hl'
        | exc c ns ws M3 => rw [hc] at hl'; cases hl'
        | ok bb M3 =>
        rw [hc] at hl'
        simp only [Res.bind] at hl'
        intro g3 b' H3 a3 e3 rb
        have eb : bb = b' := rb
        subst eb
        have eX3 := eX2.trans a0.len (e3.x (D := D))
        have hDz3 : D ∈ g3.Z := by rw [e3.zs]; exact hDz
        have hD3 : H3 D = some (.lst acc) := e3.keep D _ hD2 fun j c h1 _ => absurd (List.mem_of_getElem? h1) (a'.nz D hDz)
        have racc3 := racc2.evo a2.len e3
        cases bb with
        | false =>
          simp only [Bool.false_eq_true, if_false] at hl' ⊢
          split at hl'
          · rename_i hst
            exact ⟨_, by omega, g3, M3, acc, accW, ys', by omega, rfl, a3, eX3, hD3, racc3, hl', hyy, hst⟩
          · cases hl'
        | true =>
          simp only [if_true] at hl' ⊢
          refine ⟨g3, M3, l1, At.still a3 (lr3.evo a2.len e3), ?_⟩
          cases he : elt.v l1 M3 with
          | err => rw [he] at hl'; cases hl'
          | exc c ns ws M4 => rw [he] at hl'; cases hl'
          | ok y M4 =>
          rw [he] at hl'
          simp only at hl'
          split at hl'
          · rename_i hst
            cases hr : lcW (fun x => tgW t x (wipeW l (own.map (·.2)))) (evAndT cond) elt.v (Still kd vs items) (items.drop (i + 1)) M4 with
            | err => rw [hr] at hl'; cases hl'
            | exc c ns ws M5 => rw [hr] at hl'; cases hl'
            | ok ys2 M5 =>
            rw [hr] at hl'
            simp only [Res.ok.injEq] at hl'
            obtain ⟨e5, e6⟩ := hl'
            subst e5 e6
            intro g4 yv H4 a4 e4 ry
            have eX4 := eX3.trans a0.len (e4.x (D := D))
            have hDz4 : D ∈ g4.Z := by rw [e4.zs]; exact hDz3
            have hD4 : H4 D = some (.lst acc) := e4.keep D _ hD3 fun j c h1 _ => absurd (List.mem_of_getElem? h1) (a3.nz D hDz3)
            have racc4 := racc3.evo a3.len e4
            have hlen : acc.length < sizeLine := by
              rw [← racc4.length]
              have : (accW ++ y :: ys2).length ≤ sizeLine := by rw [hyy]; exact hys
              simp at this; omega
            obtain ⟨a5, e5⟩ := a4.own hDz4 (o := .lst (acc ++ [yv]))
            refine ⟨acc, hD4, hlen, _, by omega, g4, M4, acc ++ [yv], accW ++ [y], ys2, by omega, rfl, a5, eX4.trans a0.len e5, upd_same, ?_, hr, by rw [List.append_assoc]; exact hyy, hst⟩
            exact (racc4.append (.one ry)).evoX a4.len hDz4 e5
          · cases hl'
  · exact p2.elim
end
end PyI
namespace PyI
open PySem PySem.Spec PyProof.Rows L2
section
variable {G : GE} {Γ : Glo} {cu : Option Cu} {Wi : WX} {X : Cx} {g g' g1 g2 : Gh} {M M' M1 M2 : Store} {H H' H1 H2 : Hp} {σ : L2.St} {l : LM} {N : List Str} {sc : Scope} {calm : Bool} {a b c : Expr} {sa sb s_c : Sm} {pos : Pos} {k : Nat} {D : Addr}
/-! ### dict displays -/
theorem putK_new {kvs : List (Key × V)} {k : Key} {v : V} (h : k ∉ kvs.map (·.1)) : putK kvs k v = kvs ++ [(k, v)] := by
  unfold putK
  rw [if_neg]
  intro q
  rw [List.any_eq_true] at q
  obtain ⟨x, hx, e⟩ := q
  exact h (List.mem_map.mpr ⟨x, hx, by simpa using e⟩)
theorem mergeK_new : ∀ {more kvs : List (Key × V)}, ((kvs ++ more).map (·.1)).Nodup → mergeK kvs more = kvs ++ more
  | [], kvs, _ => by simp [mergeK]
  | p :: more, kvs, h => by
    have h1 : p.1 ∉ kvs.map (·.1) := fun hm => by
      rw [List.map_append, List.map_cons] at h
      exact (List.nodup_append.mp h).2.2 p.1 hm p.1 (by simp) rfl
    show mergeK (putK kvs p.1 p.2) more = _
    rw [putK_new h1]
    have e : ((kvs ++ [(p.1, p.2)]) ++ more) = kvs ++ p :: more := by simp
    rw [mergeK_new (by rw [e]; exact h), e]
def trsOf (G : GE) (cu : Option Cu) (Wi : WX) (ks : List Key) (ss : List Sm) : List (TE × TE) := ks.zipWith (fun k s => (tC (kV k), TEof G cu Wi s.v)) ss
theorem pairs_ok : ∀ {ks : List Key} {ss : List Sm} {g : Gh} {M : Store} {H : Hp} {R : List (V × V) → Hp → Prop}, ks.length = ss.length → At G cu g M H l σ → Post G Wi (RWs G) g M H σ (evEs ss l M) (fun xs H1 => R (ks.zipWith (fun k x => (kV k, x)) xs) H1) → tPairs (trsOf G cu Wi ks ss) σ H R
  | [], [], g, M, H, R, _, a, p => p.now a.abs (show RWs G g M H [] [] from rfl)
  | [], _ :: _, _, _, _, _, e, _, _ => by cases e
  | _ :: _, [], _, _, _, _, e, _, _ => by cases e
  | k :: ks, s :: ss, g, M, H, R, e, a, p => by
    show tC (kV k) σ H fun x H1 => TEof G cu Wi s.v σ H1 fun y H2 => tPairs (trsOf G cu Wi ks ss) σ H2 fun ps H3 => R ((x, y) :: ps) H3
    refine ⟨g, M, l, a, (Post.bind (rel1 := RW G) a.abs.len p).imp fun y H2 ⟨g2, M2, w, a2, e2, r2, p2⟩ => ?_⟩
    refine pairs_ok (by simpa using e) (a.evo a2 e2) ?_
    have p2 : Post G Wi (RWs G) g2 M2 H2 σ ((evEs ss l M2).bind fun ws M3 => .ok (w :: ws) M3) (fun xs H1 => R ((k :: ks).zipWith (fun k x => (kV k, x)) xs) H1) := p2
    exact (Post.bind (rel1 := RWs G) a2.len p2).imp fun xs H3 ⟨g3, M3, ws, a3, e3, r3, p3⟩ => p3.now a3 (show RWs G g3 M3 H3 (w :: ws) (y :: xs) from .cons (r2.evo a2.len e3) r3)
theorem zipK : ∀ {ks : List Key} {xs : List V}, ks.length = xs.length → ks.zipWith (fun k x => (kV k, x)) xs = (ks.zip xs).map fun kv => (kV kv.1, kv.2)
  | [], [], _ => rfl
  | [], _ :: _, e => by cases e
  | _ :: _, [], e => by cases e
  | k :: ks, x :: xs, e => by simp [zipK (ks := ks) (xs := xs) (by simpa using e)]
theorem At.toOwn (a : At G cu g M H l σ) (hD : H D = none) {o : HO} (hc : cu = none) : At G cu (ownG g D) M (upd H D o) l σ := ⟨a.abs.toOwn hD, a.lr.toOwn a.abs.len hD, fun c q => by rw [hc] at q; cases q⟩
theorem px_dsp {keys : List (Option Expr)} {values : List Expr} {ks : List Key} {ss : List Sm} {fz : Bool} (hK : X.K = G.K) (hcu : cu = none) (h : PPs X pos keys values (trsOf G cu Wi ks ss)) (hl : ks.length = ss.length) (hks : keys.length = ks.length) (hvs : values.length = ss.length) (hall : keys.all (·.isSome) = true) (h0 : keys ≠ []) (h15 : keys.length ≤ 15) :
    PX G cu Wi X (.Dict keys values pos) (.of fun l M => (evEs ss l M).bind fun vs M1 => prm (.dsp fz ks) vs M1) := by
  refine PX.of hK ((pe_disp h hall (by omega) h0 h15).imp fun σ H Q ⟨g, M, l, at_, p⟩ => ?_) (fun _ => rfl) rfl
  intro D hD
  cases he : evEs ss l M with
  | err => dsimp only at p; rw [he] at p; exact p.elim
  | exc c ns ws M1 =>
    dsimp only at p
    rw [he] at p
    refine pairs_ok hl (at_.toOwn hD hcu) ?_
    rw [he]
    intro g1 cls d H1 a1 e1 x1
    obtain ⟨b1, b2, b3, _⟩ := own_back at_.abs hD a1 e1.x
    obtain ⟨C, dx, fs, k1, k2, k3, k4, k5, k6, k7⟩ := x1
    exact p ⟨g1.R, g.Z⟩ cls d H1 b1 b2 ⟨C, dx, fs, k1, k2, k3, k4, b3 _ k5, k6, fun f w q => let ⟨v, z1, z2⟩ := k7 f w q; ⟨v, z1, z2.via (g' := ⟨g1.R, g.Z⟩) (fun b _ f => b3 b f) (.inr fun _ _ q => q)⟩⟩
  | ok ws M1 =>
    dsimp only at p
    rw [he] at p
    have p : Post G Wi (RW G) g M H σ (prm (.dsp fz ks) ws M1) Q := p
    simp only [prm] at p
    split at p
    · rename_i hc
      obtain ⟨c1, c2, c3⟩ := hc
      refine pairs_ok hl (at_.toOwn hD hcu) ?_
      rw [he]
      intro g1 xs H1 a1 e1 r1
      have hxl : ks.length = xs.length := by rw [← r1.length]; exact c2
      have hDz : D ∈ g1.Z := by rw [e1.zs]; exact List.mem_cons_self ..
      refine ⟨e1.keep D _ upd_same fun j c h1 _ => absurd (List.mem_of_getElem? h1) (at_.abs.cellNe hD), ks.zip xs, zipK hxl, by rw [List.length_zip]; omega, ?_⟩
      have hm : (ks.zip xs).map (·.1) = ks := List.map_fst_zip (by omega)
      have hm2 : (ks.zip xs).map (·.2) = xs := List.map_snd_zip (by omega)
      rw [mergeK_new (by rw [List.nil_append, hm]; exact c3), List.nil_append]
      obtain ⟨a2, e2⟩ := a1.own hDz (o := .dK (ks.zip xs))
      have eX := (e1.x (D := D)).trans (show (ownG g D).R.length = M.length from at_.abs.len) e2
      have r2 : RWs G g1 M1 (upd H1 D (.dK (ks.zip xs))) ws ((ks.zip xs).map (·.2)) := by rw [hm2]; exact r1.evoX a1.len hDz e2
      unfold newD at p
      cases fz with
      | true =>
        obtain ⟨b1, b2, b3, b4⟩ := own_back at_.abs hD a2 eX
        exact p _ _ _ b1 b2 ⟨D, ks.zip xs, rfl, upd_same, b4, hm, r2.via (g' := ⟨g1.R, g.Z⟩) (fun b _ f => b3 b f) (.inr fun _ _ q => q)⟩
      | false =>
        obtain ⟨b1, b2⟩ := own_cell (c := .dct ks ws) at_.abs hD a2 eX ⟨ks.zip xs, upd_same, hm, r2⟩
        refine p _ _ _ b1 b2 ⟨D, ?_, rfl⟩
        show (g1.R ++ [D])[M1.length]? = some D
        rw [← a2.len]; simp
    · exact p.elim
theorem px_dsp0 {fz : Bool} (hK : X.K = G.K) : PX G cu Wi X (.Dict [] [] pos) (.of fun l M => (evEs [] l M).bind fun vs M1 => prm (.dsp fz []) vs M1) := by
  refine PX.of hK (pe_dnewK.imp fun σ H Q ⟨g, M, l, at_, p⟩ => ?_) (fun _ => rfl) rfl
  have p : Post G Wi (RW G) g M H σ (newD fz [] [] M) Q := p
  exact fun q hq => Post.newD (kvs := []) at_.abs rfl (show RWs G g M H [] [] from rfl) p hq
end
end PyI
namespace PyI
open PySem PySem.Spec PyProof.Rows L2
/-! ### the check: the compact text is the text -/
structure Ck where
  N : List Str
  sc : Scope
  /-- in a comprehension: its scope -/
  fs : Option Scope
  calm : Bool
def dbgB (x : Str) : Bool := !(x == ("__debug__" : Str)) && !(x == ("__classdict__" : Str))
def visB (sc : Scope) (x : Str) : Bool := match sc.names.lookup x with
  | some .local => true
  | some .cell => true
  | some .free => true
  | _ => false
def gloB (sc : Scope) (x : Str) : Bool := decide (sc.names.lookup x = some .globalImplicit)
def stoB (C : Ck) (x : Str) : Bool := match C.sc.names.lookup x with
  | some .local => true
  | some .cell => (match C.fs with
    | none => true
    | some s => decide (s.names.lookup x = some .cell))
  | _ => false
def conB : W → Const → Bool
  | .non, .none => true
  | .bl b, .bool c => decide (b = c)
  | .int i, .int j => decide (i = j)
  | .str x, .str y => decide (x = y)
  | _, _ => false
def keyB : Key → Option Expr → Bool
  | .inl i, some (.Constant (.int j) _ _) => decide (i = j)
  | .inr x, some (.Constant (.str y) _ _) => decide (x = y)
  | _, _ => false
def keysB : List Key → List (Option Expr) → Bool
  | [], [] => true
  | k :: ks, x :: xs => keyB k x && keysB ks xs
  | _, _ => false
def foldB : Expr → Bool
  | .Set _ _ _ => false
  | _ => true
def blkB (N : List Str) (sc scope : Scope) (own : List (Str × Nat)) : Bool :=
  decide (scope.kind = .function) && (scope.names.all fun y => decide (scope.names.lookup y.1 = some y.2)) && (own.all fun p => decide (N[p.2]? = some p.1)) &&
  (scope.names.all fun y => !decide (y.2 = .free) || (decide (sc.names.lookup y.1 = some .cell) || decide (sc.names.lookup y.1 = some .free))) &&
  (scope.names.all fun y => !(decide (y.2 = .local) || decide (y.2 = .cell)) || (decide (y.1 ∈ own.map (·.1)) || decide (y.1 ∉ N)))
mutual
def okTg (C : Ck) : Tg → Expr → Bool
  | .nm i, x => match x with
    | .Name y _ => decide (C.N[i]? = some y) && stoB C y
    | _ => false
  | .tup ts, x => match x with
    | .Tuple xs _ _ => okTgs C ts xs
    | _ => false
def okTgs (C : Ck) : List Tg → List Expr → Bool
  | [], [] => true
  | t :: ts, x :: xs => notStar x && okTg C t x && okTgs C ts xs
  | _, _ => false
end
section
variable (Γ : Glo)
mutual
def okE : E → Ck → Expr → Bool
  | .var i, C, x => match x with
    | .Name y _ => decide (C.N[i]? = some y) && visB C.sc y && dbgB y
    | _ => false
  | .con w, _, x => match x with
    | .Constant c _ _ => conB w c
    | _ => false
  | .glo y, C, x => match x with
    | .Name z _ => decide (y = z) && gloB C.sc y && (Γ.con y).isSome && dbgB y
    | _ => false
  | .prm p as, C, x => match p, x with
    | .bin op _, .BinOp a op' b _ => decide (op = op') && okEs as C [a, b]
    | .cmp op, .Compare a [op'] [b] _ => decide (op = op') && !(behindInMarks op b) && okEs as C [a, b]
    | .neg, .UnaryOp .USub a _ => okEs as C [a]
    | .idx, .Subscript a b _ => plainIxB b && okEs as C [a, b]
    | .slc lo hi _, .Subscript a (.Slice x y none _) _ => (match lo, hi, x, y with
      | false, false, none, none => okEs as C [a]
      | true, false, some b, none => okEs as C [a, b]
      | false, true, none, some b => okEs as C [a, b]
      | _, _, _, _ => false)
    | .tup, .Tuple xs _ _ => okEs as C xs
    | .lst _, .List xs _ => okEs as C xs
    | .dsp _ ks, .Dict keys values _ => C.calm && keysB ks keys && decide (keys.length ≤ 15) && decide (values.length = keys.length) && okEs as C values
    | .blt b _, .Call (.Name f _) xs [] _ => decide (f = b.name) && gloB C.sc f && (!b.calm || C.calm) && !xs.isEmpty && okEs as C xs
    | _, _ => false
  | .mth m _ o as, C, x => match x with
    | .Call (.Attribute y f apos) xs [] pos => m.ok && decide (f = m.name) && baseB y && (apos.endLine == pos.line) && decide (xs.length < 28) && okE o C y && okEs as C xs
    | _ => false
  | .not a, C, x => match x with
    | .UnaryOp .Not y _ => okE a C y
    | _ => false
  | .and as, C, x => match x with
    | .BoolOp .And xs _ => !xs.isEmpty && okEs as C xs
    | _ => false
  | .or as, C, x => match x with
    | .BoolOp .Or xs _ => !xs.isEmpty && okEs as C xs
    | _ => false
  | .slc3 _ a b c, C, x => match x with
    | .Subscript y (.Slice (some z) (some w) none _) _ => okE a C y && okE b C z && okE c C w
    | _ => false
  | .isi single cs a, C, x => match x with
    | .Call (.Name f _) [y, z] [] _ => decide (f = "isinstance") && gloB C.sc f && okE a C y && (match single, cs, z with
      | true, [q], .Name n _ => decide (n = q.1) && gloB C.sc n && dbgB n && (if q.2 then Γ.pl q.1 else (askTys.lookup q.1).isSome)
      | _, _, _ => false)
    | _ => false
  | .ife c a b, C, x => match x with
    | .IfExp y z w _ => okE c C y && okE a C z && okE b C w
    | _ => false
  | .chain op1 op2 a b c, C, x => match x with
    | .Compare y [o1, o2] [z, w] _ => decide (op1 = o1) && decide (op2 = o2) && !(lastMarks [o1, o2] [z, w]) && okE a C y && okE b C z && okE c C w
    | _ => false
  | .call f _ as ks, C, x => match x with
    | .Call (.Name g _) xs kws _ => C.calm && decide (f = g) && gloB C.sc f && dbgB f && (match Γ.fn f with
      | some fi => fitB fi (xs.length + kws.length) ks
      | none => false) && decide (kws.map (·.arg) = ks.map some) && okEs as C (xs ++ kws.map (·.value))
    | _ => false
  | .lc _ own k src t cond elt, C, x => match x with
    | .ListComp y [⟨tg, iter, ifs, 0⟩] scope _ => C.calm && blkB C.N C.sc scope own && ((tgSl t).all fun j => decide (j ∈ own.map (·.2))) && foldB iter && decide (ifs.length ≤ 1) &&
        okTg ⟨C.N, relS scope C.sc, some scope, C.calm⟩ t tg && okEs cond ⟨C.N, relS scope C.sc, some scope, C.calm⟩ ifs && okE elt ⟨C.N, relS scope C.sc, some scope, C.calm⟩ y &&
        (match k, iter with
        | .seq, z => okEs src C [z]
        | .range, .Call (.Name f _) [z] [] _ => decide (f = "range") && gloB C.sc f && okEs src C [z]
        | .range, .Call (.Name f _) [z, w] [] _ => decide (f = "range") && gloB C.sc f && okEs src C [z, w]
        | _, _ => false)
    | _ => false
  | _, _, _ => false
def okEs : List E → Ck → List Expr → Bool
  | [], _, [] => true
  | e :: es, C, x :: xs => okE e C x && okEs es C xs
  | _, _, _ => false
end
end
end PyI
namespace PyI
open PySem PySem.Spec PyProof.Rows L2
structure GC (G : GE) (Γ : Glo) (k : Nat) (cur : Option Cur) (C : Ck) (cu : Option Cu) (Wi : WX) (X : Cx) : Prop where
  g : Good G C.N C.sc C.calm X
  top : Tops G Γ X.prog X.w X.mg X.base k
  room : C.calm = true → RoomG k X.A
  fn : ∀ x, (match C.fs with | none => True | some s => s.names.lookup x = some .cell) → X.fn x = true
  tk : Takes X Wi
  cuN : C.calm = true → cu = none
  cur : cu.map (·.cur) = cur
section
variable {G : GE} {Γ : Glo} {k : Nat} {cur : Option Cur} {C : Ck} {cu : Option Cu} {Wi : WX} {X : Cx} {x : Expr}
theorem vis_of {sc : Scope} {x : Str} (h : visB sc x = true) : Vis sc x := by
  unfold visB at h
  unfold Vis
  split at h <;> first | (rename_i q; simp [q]; done) | cases h
theorem dbg_of {x : Str} (h : dbgB x = true) : (x == ("__debug__" : Str)) = false ∧ (x == ("__classdict__" : Str)) = false := by
  unfold dbgB at h
  simp only [Bool.and_eq_true, Bool.not_eq_true'] at h
  exact h
theorem sto_of {y : Str} (g : GC G Γ k cur C cu Wi X) (h : stoB C y = true) : Loc X.env.scope y ∧ (X.fn y = true ∨ X.env.scope.names.lookup y = some .local) := by
  rw [g.g.sc]
  unfold stoB at h
  split at h
  · rename_i q
    exact ⟨.inl q, .inr q⟩
  · rename_i q
    refine ⟨.inr q, .inl (g.fn y ?_)⟩
    cases hf : C.fs with
    | none => trivial
    | some s =>
      rw [hf] at h
      simpa using h
  · cases h
theorem assignEach_cons {t : Expr} {ts : List Expr} {env : Env} (h : notStar t = true) : assignEach (t :: ts) env = (false, assign t env) :: assignEach ts env := by
  cases t <;> first | rfl | cases h
theorem okTgs_each {env : Env} : ∀ {ts : List Tg} {xs : List Expr}, okTgs C ts xs = true → (assignEach xs env).length = ts.length ∧ (assignEach xs env).findIdx? (·.1) = none
  | [], [], _ => ⟨rfl, rfl⟩
  | [], _ :: _, h => by simp [okTgs] at h
  | _ :: _, [], h => by simp [okTgs] at h
  | t :: ts, x :: xs, h => by
    simp only [okTgs, Bool.and_eq_true] at h
    obtain ⟨h1, h2⟩ := okTgs_each (env := env) h.2
    rw [assignEach_cons h.1.1]
    exact ⟨by simp [h1], by rw [List.findIdx?_cons, h2]; rfl⟩
mutual
theorem okTg_ok (g : GC G Γ k cur C cu Wi X) (hc : C.calm = true) : ∀ {t : Tg} {x : Expr}, okTg C t x = true → PG X x (gOf G t)
  | .nm i, x, h => by
    simp only [okTg] at h
    split at h
    · simp only [Bool.and_eq_true, decide_eq_true_eq] at h
      obtain ⟨s1, s2⟩ := sto_of g h.2
      exact pg_nm (by rw [g.g.xN]; exact g.g.nd) (by rw [g.g.xN]; exact h.1) s1 s2
    · cases h
  | .tup ts, x, h => by
    simp only [okTg] at h
    split at h
    · rename_i xs n p
      obtain ⟨e1, e2⟩ := okTgs_each (env := X.env) h
      exact pg_tupT g.g.K (g.g.calm hc) (okTgs_ok g hc h) rfl e1 e2
    · cases h
theorem okTgs_ok (g : GC G Γ k cur C cu Wi X) (hc : C.calm = true) : ∀ {ts : List Tg} {xs : List Expr}, okTgs C ts xs = true → PGs X xs (gOfs G ts)
  | [], [], _ => pgs_nil'
  | [], _ :: _, h => by simp [okTgs] at h
  | _ :: _, [], h => by simp [okTgs] at h
  | t :: ts, x :: xs, h => by
    simp only [okTgs, Bool.and_eq_true] at h
    refine pgs_cons' (okTg_ok g hc h.1.2) (okTgs_ok g hc h.2) ?_
    rw [assignEach_cons h.1.1]; rfl
end
theorem blk_of {N : List Str} {sc scope : Scope} {own : List (Str × Nat)} (h : blkB N sc scope own = true) : BlkOk N sc scope own := by
  simp only [blkB, Bool.and_eq_true, List.all_eq_true, decide_eq_true_eq, Bool.or_eq_true, Bool.not_eq_true', decide_eq_false_iff_not] at h
  obtain ⟨⟨⟨⟨h1, h2⟩, h3⟩, h4⟩, h5⟩ := h
  refine ⟨h1, h2, h3, fun y hy e => (h4 y hy).resolve_left fun q => q e, fun y hy e => ?_⟩
  rcases h5 y hy with q | q
  · simp only [Bool.or_eq_false_iff, decide_eq_false_iff_not] at q
    rcases e with e | e
    · exact absurd e q.1
    · exact absurd e q.2
  · exact q
theorem fold_of {e : Expr} {env : Env} (h : foldB e = true) : ∀ x, foldedSetIterable e env x = pure x := by
  intro x
  cases e <;> first | rfl | cases h
/-- the block's context -/
theorem GC.blk (g : GC G Γ k cur C cu Wi X) (hc : C.calm = true) {scope : Scope} {s : Shared} {H : Hp} {C' : Addr} {cl : List (Str × Addr)} {fp : List Addr} : GC G Γ k none ⟨C.N, relS scope C.sc, some scope, C.calm⟩ none W0 (X.blk s H scope (compEnvC scope cl C' X.env) fp) := by
  refine ⟨⟨g.g.K, g.g.xN, g.g.nd, ?_, g.g.blt, g.g.gd, g.g.un, g.g.calm⟩, g.top, g.room, fun x h => ?_, ?_, fun _ => rfl, rfl⟩
  · show relabel scope X.env = relS scope C.sc
    rw [← g.g.sc]; rfl
  · show (scope.names.lookup x == some .cell) = true
    rw [h]; rfl
  · intro u s' ⟨_, _, _, _, _, _, _, _, _, _, _, _, _, _, _, _, h⟩
    exact h.elim
theorem pts_of {Y : Cx} {ifs : List Expr} {ss : List Sm} (hl : ifs.length ≤ 1) (h : PXs G none W0 Y ifs ss) : ∃ tt, PTs Y ifs tt ∧ ∀ σ H Q, TTof G none W0 (evAndT ss) σ H Q → tt σ H Q := by
  cases h with
  | nil =>
    exact ⟨tYes, pts_nil, fun σ H Q ⟨g, M, l, a, p⟩ => p.now a.abs rfl⟩
  | @cons x xs s ss h1 h2 =>
    cases h2 with
    | nil => exact ⟨_, pts_one h1.pt, fun σ H Q q => by rw [evAndT_one] at q; exact q⟩
    | cons _ _ => simp at hl
def ttOf (G : GE) (ss : List Sm) : TT := match ss with
  | [] => tYes
  | s :: _ => TTof G none W0 s.t
theorem pts_of' {Y : Cx} {ifs : List Expr} {ss : List Sm} (hl : ifs.length ≤ 1) (h : PXs G none W0 Y ifs ss) : PTs Y ifs (ttOf G ss) := by
  cases h with
  | nil => exact pts_nil
  | @cons x xs s ss h1 h2 =>
    cases h2 with
    | nil => exact pts_one h1.pt
    | cons _ _ => simp at hl
theorem tt_of {ss : List Sm} (hl : ss.length ≤ 1) : ∀ σ H Q, TTof G none W0 (evAndT ss) σ H Q → ttOf G ss σ H Q := by
  intro σ H Q q
  cases ss with
  | nil => obtain ⟨g, M, l, a, p⟩ := q; exact p.now a.abs rfl
  | cons s ss => cases ss with
    | nil => rw [evAndT_one] at q; exact q
    | cons _ _ => simp at hl
theorem PXs.inv1 {ss : List Sm} {x : Expr} (h : PXs G cu Wi X [x] ss) : ∃ s, ss = [s] ∧ PX G cu Wi X x s := by
  cases h with
  | cons h1 h2 => cases h2; exact ⟨_, rfl, h1⟩
theorem PXs.inv2 {ss : List Sm} {x y : Expr} (h : PXs G cu Wi X [x, y] ss) : ∃ s t, ss = [s, t] ∧ PX G cu Wi X x s ∧ PX G cu Wi X y t := by
  cases h with
  | cons h1 h2 => obtain ⟨t, rfl, h3⟩ := h2.inv1; exact ⟨_, t, rfl, h1, h3⟩
theorem PXs.app_inv {xs ys : List Expr} {ss : List Sm} (h : PXs G cu Wi X (xs ++ ys) ss) : ∃ s t, ss = s ++ t ∧ PXs G cu Wi X xs s ∧ PXs G cu Wi X ys t := by
  induction xs generalizing ss with
  | nil => exact ⟨[], ss, rfl, .nil, h⟩
  | cons x xs ih =>
    cases h with
    | cons h1 h2 => obtain ⟨s, t, rfl, h3, h4⟩ := ih h2; exact ⟨_ :: s, t, rfl, .cons h1 h3, h4⟩
theorem keys_pps {ks : List Key} {keys : List (Option Expr)} {values : List Expr} {ss : List Sm} {pos : Pos} : keysB ks keys = true → values.length = keys.length → PXs G cu Wi X values ss → PPs X pos keys values (trsOf G cu Wi ks ss) ∧ keys.length = ks.length ∧ keys.all (·.isSome) = true := by
  intro h hl hx
  induction ks generalizing keys values ss with
  | nil =>
    cases keys with
    | nil =>
      cases values with
      | nil => cases hx; exact ⟨pps_nil, rfl, rfl⟩
      | cons _ _ => cases hl
    | cons _ _ => simp [keysB] at h
  | cons q ks ih =>
    cases keys with
    | nil => simp [keysB] at h
    | cons y keys =>
      cases values with
      | nil => cases hl
      | cons v values =>
        cases hx with
        | cons h1 h2 =>
          simp only [keysB, Bool.and_eq_true] at h
          obtain ⟨i1, i2, i3⟩ := ih h.2 (by simpa using hl) h2
          have : ∃ e, y = some e ∧ PE X e (tC (kV q)) := by
            have hk := h.1
            unfold keyB at hk
            split at hk
            · simp only [decide_eq_true_eq] at hk; subst hk; exact ⟨_, rfl, pe_int⟩
            · simp only [decide_eq_true_eq] at hk; subst hk; exact ⟨_, rfl, pe_str⟩
            · cases hk
          obtain ⟨e, rfl, he⟩ := this
          exact ⟨pps_cons he h1.pe i1, by simp [i2], by simp [i3]⟩
end
end PyI
namespace PyI
open PySem PySem.Spec PyProof.Rows L2
section
variable {G : GE} {Γ : Glo} {k : Nat}
theorem glo_of {sc : Scope} {X : Cx} {x : Str} (e : X.env.scope = sc) (h : gloB sc x = true) : Gl X x := by
  show X.env.scope.names.lookup x = some .globalImplicit
  rw [e]; simpa [gloB] using h
theorem evL_length {Γ : Glo} {cur : Option Cur} : ∀ es : List E, (evL Γ cur es).length = es.length
  | [] => by simp only [evL]; rfl
  | e :: es => by simp only [evL, List.length_cons, evL_length es]
theorem okEs_len {Γ : Glo} : ∀ {es : List E} {C : Ck} {xs : List Expr}, okEs Γ es C xs = true → es.length = xs.length
  | [], _, [], _ => rfl
  | [], _, _ :: _, h => by simp [okEs] at h
  | _ :: _, _, [], h => by simp [okEs] at h
  | e :: es, C, x :: xs, h => by
    simp only [okEs, Bool.and_eq_true] at h
    simp [okEs_len h.2]
mutual
theorem okE_ok : ∀ (e : E) {C : Ck} {cur : Option Cur} {cu : Option Cu} {Wi : WX} {X : Cx} {x : Expr}, GC G Γ k cur C cu Wi X → okE Γ e C x = true → PX G cu Wi X x (ev Γ cur e)
  | .var i, C, cur, cu, Wi, X, x, g, h => by
    simp only [okE] at h
    split at h
    · simp only [Bool.and_eq_true, decide_eq_true_eq] at h
      obtain ⟨⟨h1, h2⟩, h3⟩ := h
      simp only [ev]
      exact px_var g.g.K (by rw [g.g.xN]; exact h1) (by rw [g.g.sc]; exact vis_of h2) (dbg_of h3).1 (dbg_of h3).2
    · cases h
  | .con w, C, cur, cu, Wi, X, x, g, h => by
    simp only [okE] at h
    simp only [ev]
    split at h
    · unfold conB at h
      split at h
      · exact px_const g.g.K pe_non (fun _ _ _ => rfl) (fun _ => rfl) rfl
      · simp only [decide_eq_true_eq] at h; subst h; exact px_const g.g.K pe_bl (fun _ _ _ => rfl) (fun _ => rfl) rfl
      · simp only [decide_eq_true_eq] at h; subst h; exact px_const g.g.K pe_int (fun _ _ _ => rfl) (fun _ => rfl) rfl
      · simp only [decide_eq_true_eq] at h; subst h; exact px_const g.g.K pe_str (fun _ _ _ => rfl) (fun _ => rfl) rfl
      · cases h
    · cases h
  | .glo y, C, cur, cu, Wi, X, x, g, h => by
    simp only [okE] at h
    simp only [ev]
    split at h
    · simp only [Bool.and_eq_true, decide_eq_true_eq] at h
      obtain ⟨⟨⟨rfl, h2⟩, h3⟩, h4⟩ := h
      exact px_glo g.g.K g.top (glo_of g.g.sc h2) h3 (dbg_of h4).1
    · cases h
  | .prm p as, C, cur, cu, Wi, X, x, g, h => by
    simp only [okE] at h
    simp only [ev]
    split at h
    · -- bin
      simp only [Bool.and_eq_true, decide_eq_true_eq] at h
      obtain ⟨rfl, h2⟩ := h
      obtain ⟨s, t, e, h3, h4⟩ := (okEs_ok as g h2).inv2
      rw [e]
      exact px_bin g.g.K h3 h4
    · simp only [Bool.and_eq_true, decide_eq_true_eq, Bool.not_eq_true'] at h
      obtain ⟨⟨rfl, hm⟩, h2⟩ := h
      obtain ⟨s, t, e, h3, h4⟩ := (okEs_ok as g h2).inv2
      rw [e]
      exact px_cmp g.g.K g.g.un h3 h4 hm
    · obtain ⟨s, e, h3⟩ := (okEs_ok as g h).inv1
      rw [e]
      exact px_neg g.g.K h3
    · simp only [Bool.and_eq_true] at h
      obtain ⟨s, t, e, h3, h4⟩ := (okEs_ok as g h.2).inv2
      rw [e]
      exact px_idx g.g.K g.g.un h3 h4 h.1
    · split at h
      · obtain ⟨s, e, h3⟩ := (okEs_ok as g h).inv1
        rw [e]
        exact px_slc0 g.g.K h3
      · obtain ⟨s, t, e, h3, h4⟩ := (okEs_ok as g h).inv2
        rw [e]
        exact px_slcL g.g.K h3 h4
      · obtain ⟨s, t, e, h3, h4⟩ := (okEs_ok as g h).inv2
        rw [e]
        exact px_slcH g.g.K h3 h4
      · cases h
    · exact px_tup g.g.K (okEs_ok as g h)
    · exact px_lst g.g.K (okEs_ok as g h)
    · rename_i fz ks keys values pos
      simp only [Bool.and_eq_true, decide_eq_true_eq] at h
      obtain ⟨⟨⟨⟨h1, h2⟩, h3⟩, h4⟩, h5⟩ := h
      have hx := okEs_ok as g h5
      obtain ⟨k1, k2, k3⟩ := keys_pps (pos := pos) h2 h4 hx
      have hl := hx.length
      cases keys with
      | nil =>
        have e1 : values = [] := List.eq_nil_of_length_eq_zero h4
        have e2 : ks = [] := List.eq_nil_of_length_eq_zero k2.symm
        subst e1 e2
        have e3 : evL Γ cur as = [] := List.eq_nil_of_length_eq_zero hl.symm
        rw [e3]
        exact px_dsp0 g.g.K
      | cons y keys => exact px_dsp g.g.K (g.cuN h1) k1 (by rw [← k2, ← hl, h4]) k2 hl k3 (by simp) h3
    · rename_i b fz f p xs pos
      simp only [Bool.and_eq_true, decide_eq_true_eq] at h
      obtain ⟨⟨⟨⟨rfl, h2⟩, h3⟩, h4⟩, h5⟩ := h
      have hx := okEs_ok as g h5
      generalize evL Γ cur as = ss at hx ⊢
      cases hx with
      | nil => simp at h4
      | cons k1 k2 =>
        exact px_blt g.g (fun hb => g.g.calm (by simpa [hb] using h3)) (glo_of g.g.sc h2) k1 k2
    · cases h
  | .mth m fz o as, C, cur, cu, Wi, X, x, g, h => by
    simp only [okE] at h
    simp only [ev]
    split at h
    · simp only [Bool.and_eq_true, decide_eq_true_eq] at h
      obtain ⟨⟨⟨⟨⟨⟨h1, rfl⟩, h3⟩, h4⟩, h5⟩, h6⟩, h7⟩ := h
      exact px_mth g.g.K h1 h3 h4 h5 (okE_ok o g h6) (okEs_ok as g h7)
    · cases h
  | .not a, C, cur, cu, Wi, X, x, g, h => by
    simp only [okE] at h
    simp only [ev]
    split at h
    · exact px_not g.g.K (okE_ok a g h)
    · cases h
  | .and as, C, cur, cu, Wi, X, x, g, h => by
    simp only [okE] at h
    simp only [ev]
    split at h
    · simp only [Bool.and_eq_true] at h
      have hx := okEs_ok as g h.2
      generalize evL Γ cur as = ss at hx ⊢
      cases hx with
      | nil => simp at h
      | cons k1 k2 =>
        obtain ⟨z1, z2⟩ := px_and g.g.K k1 k2
        exact ⟨z1, z2.pt, rfl⟩
    · cases h
  | .or as, C, cur, cu, Wi, X, x, g, h => by
    simp only [okE] at h
    simp only [ev]
    split at h
    · simp only [Bool.and_eq_true] at h
      have hx := okEs_ok as g h.2
      generalize evL Γ cur as = ss at hx ⊢
      cases hx with
      | nil => simp at h
      | cons k1 k2 =>
        obtain ⟨z1, z2⟩ := px_or g.g.K k1 k2
        exact ⟨z1, z2.pt, rfl⟩
    · cases h
  | .slc3 fz a b c, C, cur, cu, Wi, X, x, g, h => by
    simp only [okE] at h
    simp only [ev]
    split at h
    · simp only [Bool.and_eq_true] at h
      exact px_slcB g.g.K (okE_ok a g h.1.1) (okE_ok b g h.1.2) (okE_ok c g h.2)
    · cases h
  | .isi single cs a, C, cur, cu, Wi, X, x, g, h => by
    simp only [okE] at h
    simp only [ev]
    split at h
    · simp only [Bool.and_eq_true, decide_eq_true_eq] at h
      obtain ⟨⟨⟨rfl, h2⟩, h3⟩, h4⟩ := h
      split at h4
      · simp only [Bool.and_eq_true, decide_eq_true_eq] at h4
        obtain ⟨⟨⟨rfl, h5⟩, h6⟩, h7⟩ := h4
        exact px_isi1 g.g g.top (okE_ok a g h3) (glo_of g.g.sc h2) (glo_of g.g.sc h5) (dbg_of h6).1 h7
      · cases h4
    · cases h
  | .ife c a b, C, cur, cu, Wi, X, x, g, h => by
    simp only [okE] at h
    simp only [ev]
    split at h
    · simp only [Bool.and_eq_true] at h
      exact px_ife (okE_ok c g h.1.1) (okE_ok a g h.1.2) (okE_ok b g h.2)
    · cases h
  | .chain op1 op2 a b c, C, cur, cu, Wi, X, x, g, h => by
    simp only [okE] at h
    simp only [ev]
    split at h
    · simp only [Bool.and_eq_true, decide_eq_true_eq, Bool.not_eq_true'] at h
      obtain ⟨⟨⟨⟨⟨rfl, rfl⟩, h3⟩, h4⟩, h5⟩, h6⟩ := h
      exact px_chain g.g.K g.g.un (okE_ok a g h4) (okE_ok b g h5) (okE_ok c g h6) h3
    · cases h
  | .call f fz as ks, C, cur, cu, Wi, X, x, g, h => by
    simp only [okE] at h
    simp only [ev]
    split at h
    · rename_i g' p xs kws pos
      simp only [Bool.and_eq_true, decide_eq_true_eq] at h
      obtain ⟨⟨⟨⟨⟨⟨h1, rfl⟩, h3⟩, h4⟩, h5⟩, h6⟩, h7⟩ := h
      split at h5
      · rename_i fi hfi
        obtain ⟨s, t, e, h8, h9⟩ := (okEs_ok as g h7).app_inv
        rw [e]
        refine px_call g.g.K g.top (g.room h1) g.tk hfi (glo_of g.g.sc h3) (dbg_of h4).1 h8 h9 h6 ?_
        rw [List.length_append, ← h8.length, ← h9.length, List.length_map]
        exact h5
      · cases h5
    · cases h
  | .lc fz own kd src t cond elt, C, cur, cu, Wi, X, x, g, h => by
    simp only [okE] at h
    simp only [ev]
    split at h
    · rename_i y tg iter ifs scope pos
      simp only [Bool.and_eq_true, decide_eq_true_eq, List.all_eq_true] at h
      obtain ⟨⟨⟨⟨⟨⟨⟨⟨h1, h2⟩, h3⟩, h4⟩, h5⟩, h6⟩, h7⟩, h8⟩, h9⟩ := h
      have hcu := g.cuN h1
      subst hcu
      have hcur : cur = none := by rw [← g.cur]; rfl
      subst hcur
      have hb : ∀ (s : Shared) (H : Hp) (C' : Addr) (cl : List (Str × Addr)) (fp : List Addr), GC G Γ k none ⟨C.N, relS scope C.sc, some scope, C.calm⟩ none W0 (X.blk s H scope (compEnvC scope cl C' X.env) fp) := fun s H C' cl fp => g.blk h1
      have hcl : (evL Γ none cond).length ≤ 1 := by
        rw [evL_length, okEs_len h7]; exact h5
      have hi : PI X tg iter (iOf G none Wi kd (evEs (evL Γ none src))) := by
        split at h9
        · obtain ⟨s, e, z⟩ := (okEs_ok src g h9).inv1
          rw [e]; exact pi_seq g.g.K z
        · simp only [Bool.and_eq_true, decide_eq_true_eq] at h9
          obtain ⟨⟨rfl, z2⟩, z3⟩ := h9
          obtain ⟨s, e, z⟩ := (okEs_ok src g z3).inv1
          rw [e]; exact pi_rng1 g.g (glo_of g.g.sc z2) z
        · simp only [Bool.and_eq_true, decide_eq_true_eq] at h9
          obtain ⟨⟨rfl, z2⟩, z3⟩ := h9
          obtain ⟨s, s2, e, z, z'⟩ := (okEs_ok src g z3).inv2
          rw [e]; exact pi_rng2 g.g (glo_of g.g.sc z2) z z'
        · cases h9
      refine PX.of g.g.K ((pe_lc (own := own) (te := TEof G none W0 (ev Γ none elt).v) (tt := ttOf G (evL Γ none cond)) (g.g.calm h1) (by rw [g.g.xN]; exact g.g.nd) hi (by rw [g.g.xN, g.g.sc]; exact blk_of h2)
        (fun s H C' cl fp => okTg_ok (hb s H C' cl fp) h1 h6) (fun s H C' cl fp => pts_of' h5 (okEs_ok cond (hb s H C' cl fp) h7)) (fun s H C' cl fp => (okE_ok elt (hb s H C' cl fp) h8).pe) (fold_of h4)).imp fun σ H Q q => lc_ok h3 (tt_of hcl) q) (fun _ => rfl) rfl
    · cases h
  | .make _ _ _ _, _, _, _, _, _, _, _, h => by simp [okE] at h
  | .meth _ _ _ _ _ _, _, _, _, _, _, _, _, h => by simp [okE] at h
  | .dc _ _ _ _ _ _ _ _, _, _, _, _, _, _, _, h => by simp [okE] at h
  | .att _ _, _, _, _, _, _, _, _, h => by simp [okE] at h
  | .prop _ _ _, _, _, _, _, _, _, _, h => by simp [okE] at h
  | .lenU _ _, _, _, _, _, _, _, _, h => by simp [okE] at h
  | .reprU _ _, _, _, _, _, _, _, _, h => by simp [okE] at h
  | .eqU _ _ _, _, _, _, _, _, _, _, h => by simp [okE] at h
  | .exAtt _, _, _, _, _, _, _, _, h => by simp [okE] at h
  | .exIs _, _, _, _, _, _, _, _, h => by simp [okE] at h
theorem okEs_ok : ∀ (es : List E) {C : Ck} {cur : Option Cur} {cu : Option Cu} {Wi : WX} {X : Cx} {xs : List Expr}, GC G Γ k cur C cu Wi X → okEs Γ es C xs = true → PXs G cu Wi X xs (evL Γ cur es)
  | [], C, cur, cu, Wi, X, [], g, h => by simp only [evL]; exact .nil
  | [], C, cur, cu, Wi, X, _ :: _, g, h => by simp [okEs] at h
  | e :: es, C, cur, cu, Wi, X, [], g, h => by simp [okEs] at h
  | e :: es, C, cur, cu, Wi, X, x :: xs, g, h => by
    simp only [okEs, Bool.and_eq_true] at h
    simp only [evL]
    exact .cons (okE_ok e g h.1) (okEs_ok es g h.2)
end
end
end PyI
namespace PyI
open PySem PySem.Spec PyProof.Rows L2
/-! ### what a statement promises -/
def PostS (G : GE) (cu : Option Cu) (Wi : WX) (g : Gh) (M : Store) (H : Hp) (r : SR) (D : Ends) : Prop :=
  match r with
  | .nx l' M' => ∀ g' σ' H', At G cu g' M' H' l' σ' → Evo g M H g' M' H' → D.nx σ' H'
  | .rt w M' => ∀ g' v H', Abs G g' M' H' → Evo g M H g' M' H' → RW G g' M' H' w v → D.rt v H'
  | .bk l' M' => ∀ g' σ' H', At G cu g' M' H' l' σ' → Evo g M H g' M' H' → D.bk σ' H'
  | .ct l' M' => ∀ g' σ' H', At G cu g' M' H' l' σ' → Evo g M H g' M' H' → D.ct σ' H'
  | .exc c ns ws l' M' => ∀ g' σ' cls d H', At G cu g' M' H' l' σ' → Evo g M H g' M' H' → XR G g' M' H' c ns ws cls d → Wi cls d σ' H'
  | .err => False
def TSof (G : GE) (cu : Option Cu) (Wi : WX) (f : LM → Store → SR) : TS := fun D σ H => ∃ g M l, At G cu g M H l σ ∧ PostS G cu Wi g M H (f l M) D
section
variable {G : GE} {Γ : Glo} {cu : Option Cu} {cur : Option Cur} {C : Ck} {Wi : WX} {X : Cx} {g g' g1 g2 : Gh} {M M' M1 M2 : Store} {H H' H1 H2 : Hp} {σ : L2.St} {l : LM} {pos : Pos} {k : Nat} {α β : Type}
theorem PostS.evo {r : SR} {D : Ends} (hl : g.R.length = M.length) (e : Evo g M H g1 M1 H1) (h : PostS G cu Wi g M H r D) : PostS G cu Wi g1 M1 H1 r D := by
  cases r with
  | nx l' M' => exact fun g' σ' H' a e' => h g' σ' H' a (e.trans hl e')
  | rt w M' => exact fun g' v H' a e' => h g' v H' a (e.trans hl e')
  | bk l' M' => exact fun g' σ' H' a e' => h g' σ' H' a (e.trans hl e')
  | ct l' M' => exact fun g' σ' H' a e' => h g' σ' H' a (e.trans hl e')
  | exc c ns ws l' M' => exact fun g' σ' cls d H' a e' => h g' σ' cls d H' a (e.trans hl e')
  | err => exact h
theorem PostS.then {r : Res α} {f : α → Store → SR} {rel : Rel α β} {D : Ends} (a : At G cu g M H l σ) (h : PostS G cu Wi g M H (r.thenS l f) D) :
    Post G Wi rel g M H σ r (fun b H1 => ∃ g1 M1 x, At G cu g1 M1 H1 l σ ∧ Evo g M H g1 M1 H1 ∧ rel g1 M1 H1 x b ∧ PostS G cu Wi g1 M1 H1 (f x M1) D) := by
  cases r with
  | ok w M' => exact fun g' v H' a' e q => ⟨g', M', w, a.evo a' e, e, q, PostS.evo a.abs.len e h⟩
  | exc c ns ws M' => exact fun g' cls d H' a' e x => h g' σ cls d H' (a.evo a' e) e x
  | err => exact h
theorem PostS.need {o : Option α} {f : α → SR} {D : Ends} (h : PostS G cu Wi g M H (needS o f) D) : ∃ a, o = some a ∧ PostS G cu Wi g M H (f a) D := by
  cases o with
  | none => exact h.elim
  | some a => exact ⟨a, rfl, h⟩
/-- the first part by its own reading -/
theorem TSof.bind {rel : Rel α β} {fa : LM → Store → Res α} {f : LM → α → Store → SR} {D : Ends} (h : TSof G cu Wi (fun l M => (fa l M).thenS l (f l)) D σ H) :
    TOf G cu Wi rel fa σ H (fun b H1 => ∃ g1 M1 l x, At G cu g1 M1 H1 l σ ∧ rel g1 M1 H1 x b ∧ PostS G cu Wi g1 M1 H1 (f l x M1) D) := by
  obtain ⟨g, M, l, a, p⟩ := h
  exact ⟨g, M, l, a, (PostS.then (rel := rel) a p).imp fun b H1 ⟨g1, M1, x, a1, _, r1, p1⟩ => ⟨g1, M1, l, x, a1, r1, p1⟩⟩
/-- a statement-level context -/
structure GS (G : GE) (Γ : Glo) (k : Nat) (cur : Option Cur) (C : Ck) (cu : Option Cu) (Wi : WX) (X : Cx) : Prop where
  e : GC G Γ k cur C cu Wi X
  fnl : C.fs = none
  knd : C.sc.kind = .function
  po : C.calm = true → PassesOwn (model X.prog X.w) X.A X.env X.xe

/-! ### swapped stores -/
def isStar : Expr → Bool
  | .Starred _ _ => true
  | _ => false
/-- what swappedStores tells, in a function of that scope (outer none: it is not told) -/
def swp (sc : Scope) (tg e : Expr) : Option (Option (List Str)) :=
  match tg, e with
  | .Tuple ts _ _, .Tuple vs _ _ =>
    if !(ts.length == 2 || ts.length == 3) || vs.length != ts.length then some none
    else if vs.any isStar then some none
    else
      let line := (ts.head?.map (·.pos.line)).getD 0
      let names := ts.filterMap fun
        | .Name id pos => if sc.names.lookup id == some .local && pos.line == line then some id else none
        | _ => none
      if names.length != ts.length || names.eraseDups.length != names.length then some none
      else if vs.all (foldedForSure 8) then some none
      else if vs.all (constantsAlone 8) then none
      else some (some names)
  | .List _ _, _ => none
  | _, _ => some none
theorem swp_ok {env : Env} {tg e : Expr} {r : Option (List Str)} (hk : env.scope.kind = .function) (h : swp env.scope tg e = some r) : swappedStores [tg] e env = pure r := by
  have hb : env.blockKind = .function := by unfold Env.blockKind; rw [hk]; rfl
  have hb2 : (env.blockKind != .function) = false := by rw [hb]; rfl
  unfold swp at h
  split at h
  · rename_i ts x p vs y q
    unfold swappedStores
    dsimp only
    rw [hb2, Bool.or_false]
    split at h
    · rename_i h1
      cases h
      exact if_pos h1
    · rename_i h1
      refine (if_neg h1).trans ?_
      split at h
      · rename_i h2
        cases h
        exact if_pos h2
      · rename_i h2
        refine (if_neg h2).trans ?_
        dsimp only at h
        split at h
        · rename_i h3
          cases h
          exact if_pos h3
        · rename_i h3
          refine (if_neg h3).trans ?_
          split at h
          · rename_i h4
            cases h
            exact if_pos h4
          · rename_i h4
            refine (if_neg h4).trans ?_
            split at h
            · cases h
            · rename_i h5
              cases h
              exact if_neg h5
  · cases h
  · rename_i n1 n2
    cases h
    unfold swappedStores
    split
    · rename_i heq
      split at heq
      · rename_i _ _ _ _ _ _ _ _ _ _ _ e1
        exact (n2 _ _ _ _ _ _ (List.head_eq_of_cons_eq e1) rfl).elim
      · rename_i _ _ _ _ _ _ _ _ _ _ e1
        exact (n1 _ _ (List.head_eq_of_cons_eq e1)).elim
      · cases heq
    · rfl
end
end PyI
namespace PyI
open PySem PySem.Spec PyProof.Rows L2
section
variable {G : GE} {Γ : Glo} {cu : Option Cu} {cur : Option Cur} {C : Ck} {Wi : WX} {X : Cx} {g g' g1 g2 : Gh} {M M' M1 M2 : Store} {H H' H1 H2 : Hp} {σ : L2.St} {l : LM} {pos : Pos} {k : Nat} {α β : Type} {a b c : Expr} {sa sb s_c : Sm}
/-! ### o[i] = v -/
def rSet2 : TSet := fun o i v H Q => rSetL o i v H Q ∨ rSetD o i v H Q
theorem set_2 (hu : X.A.units + 1 < cLine) : PSet X rSet2 := by
  intro pins s σ H o i v ov iv u Q I ro ri rv h
  rcases h with h | h
  · exact set_list pins s σ H o i v ov iv u Q I ro ri rv h
  · exact set_dict hu pins s σ H o i v ov iv u Q I ro ri rv h
theorem putK_rws {q : Key} {v : W} {u : V} (rv : RW G g M H v u) : ∀ {kvs : List (Key × V)} {ws : List W}, RWs G g M H ws (kvs.map (·.2)) →
    RWs G g M H ((kvs.map (·.1)).zipWith (fun a w => if a = q then v else w) ws) ((kvs.map fun kv => if kv.1 = q then (kv.1, u) else kv).map (·.2)) ∧ (kvs.map fun kv => if kv.1 = q then (kv.1, u) else kv).map (·.1) = kvs.map (·.1)
  | [], [], r => ⟨r, rfl⟩
  | [], _ :: _, r => by obtain ⟨_, _, e, _⟩ := r; cases e
  | _ :: _, [], r => by cases (show _ :: _ = ([] : List V) from r)
  | (a, x) :: kvs, w :: ws, r => by
    obtain ⟨x', r', e, h1, h2⟩ := r
    cases e
    obtain ⟨i1, i2⟩ := putK_rws rv h2
    simp only [List.map_cons, List.zipWith_cons_cons]
    by_cases ha : a = q
    · simp only [ha, if_true]
      exact ⟨.cons rv i1, by rw [i2]⟩
    · simp only [ha, if_false]
      exact ⟨.cons h1 i1, by rw [i2]⟩
theorem putW_ok {q : Key} {v : W} {u : V} {kvs : List (Key × V)} {ws : List W} (rv : RW G g M H v u) (r : RWs G g M H ws (kvs.map (·.2))) :
    ∃ ks' ws', putW q v (kvs.map (·.1)) ws = .dct ks' ws' ∧ (putK kvs q u).map (·.1) = ks' ∧ RWs G g M H ws' ((putK kvs q u).map (·.2)) := by
  unfold putW putK
  have e0 : ((kvs.map (·.1)).any fun a => decide (a = q)) = (kvs.any fun kv => decide (kv.1 = q)) := by rw [List.any_map]; rfl
  rw [e0]
  by_cases hk : (kvs.any fun kv => decide (kv.1 = q)) = true
  · rw [if_pos hk, if_pos hk]
    obtain ⟨i1, i2⟩ := putK_rws (q := q) rv r
    exact ⟨_, _, rfl, i2, i1⟩
  · rw [if_neg hk, if_neg hk]
    exact ⟨_, _, rfl, by simp, by rw [List.map_append]; exact r.append (.one rv)⟩
/-- a store into a live list or dict -/
theorem setSub_ok {o i v : W} {ov iv u : V} {Q : Hp → Prop} (ab : Abs G g M H) (ro : RW G g M H o ov) (ri : RW G g M H i iv) (rv : RW G g M H v u) (h : setSubW o i v M = some M') (hQ : ∀ H', Abs G g M' H' → Evo g M H g M' H' → Q H') : rSet2 ov iv u H Q := by
  unfold setSubW at h
  split at h
  · rename_i n
    obtain ⟨p, hp, rfl⟩ := ro
    split at h
    · rename_i ws hc
      obtain ⟨q, hq, h⟩ := Option.bind_eq_some_iff.mp h
      obtain ⟨j, hj, h⟩ := Option.map_eq_some_iff.mp h
      subst h
      obtain ⟨xs, h1, h2⟩ := ab.cell n _ p hc hp
      refine .inl ⟨p, xs, q, j, rfl, intOf_ok hq ri, h1, by rw [← h2.length]; exact hj, ?_⟩
      have e := ab.putE (c1 := .lst (ws.set j v)) (o := .lst (xs.set j u)) hp hc
      obtain ⟨a1, e1⟩ := ab.put (c1 := .lst (ws.set j v)) (o := .lst (xs.set j u)) hp hc ⟨_, upd_same, (h2.set j rv).evo ab.len e⟩
      exact hQ _ a1 e1
    · rename_i ks ws hc
      obtain ⟨q, hq, h⟩ := Option.bind_eq_some_iff.mp h
      split at h
      · rename_i hz
        cases h
        obtain ⟨kvs, h1, rfl, h3⟩ := ab.cell n _ p hc hp
        have hi : iv = kV q := by
          unfold keyOf at hq
          split at hq
          · cases hq; exact ri
          · cases hq; exact ri
          · cases hq
        obtain ⟨ks', ws', e0, e1, r1⟩ := putW_ok (q := q) rv h3
        rw [e0] at hQ
        refine .inr ⟨p, _, rfl, .inl ⟨kvs, q, h1, hi, by simpa using hz.1, rfl⟩, ?_⟩
        have e := ab.putE (c1 := .dct ks' ws') (o := .dK (putK kvs q u)) hp hc
        obtain ⟨a1, e2⟩ := ab.put (c1 := .dct ks' ws') (o := .dK (putK kvs q u)) hp hc ⟨_, upd_same, e1, r1.evo ab.len e⟩
        exact hQ _ a1 e2
      · cases h
    · cases h
  · cases h

/-! ### assignments -/
def compB : Expr → Bool
  | .ListComp _ _ _ _ => true
  | .SetComp _ _ _ _ => true
  | .DictComp _ _ _ _ _ => true
  | _ => false
theorem sw_not {e : Expr} {tg : Option Expr} {n : Nat} {env : Env} (h : compB e = false) : swapsWith e tg n env = pure false := by
  cases e <;> first | rfl | cases h
/-- no swap with the target -/
def swFB (sc : Scope) (tg e : Expr) : Bool := !compB e || (match tg with
  | .Name t _ => !decide (sc.names.lookup t = some .local)
  | _ => true)
theorem sw_F {e tg : Expr} {n : Nat} {env : Env} (h : swFB env.scope tg e = true) : swapsWith e (some tg) n env = pure false := by
  unfold swFB at h
  rw [Bool.or_eq_true] at h
  rcases h with h | h
  · exact sw_not (by simpa using h)
  · split at h
    · rename_i t p
      have hl : (env.kindOf t == some .local) = false := by
        have : ¬ env.scope.names.lookup t = some .local := by simpa using h
        show (env.scope.names.lookup t == some .local) = false
        simpa using this
      cases e <;> first | rfl | (unfold swapsWith; simp only [hl, Bool.and_false, Bool.false_and]; done) | (unfold swapsWith; simp only [hl, Bool.and_false, Bool.false_and]; rfl)
    · rename_i hn
      cases e <;> first | rfl | skip
      all_goals
        cases tg <;> first | rfl | exact absurd rfl (hn _ _)
theorem sw_FS {e tg : Expr} {n : Nat} {env : Env} (h : swFB env.scope tg e = true) : swapsWithSole [tg] e n env = pure false := sw_F h
theorem assign_sub {a b : Expr} {env : Env} {v : Value} (h : plainIxB b = true) : assign (.Subscript a b pos) env v = (do
      let ov ← holding [v] (eval a env)
      let iv ← holding [v, ov] (eval b env)
      standAt pos
      holding [v, ov, iv] (setItem ov iv v)
      release [v, ov, iv] []) := by
  cases b <;> first | rfl | cases h
theorem At.setL (at_ : At G none g M H l σ) {l' : LM} {σ' : L2.St} (lr : LR G g M H l' σ') : At G none g M H l' σ' := ⟨at_.abs, lr, fun c q => by cases q⟩
/-- target = value -/
theorem ps_asgT {tg e : Expr} {t : Tg} (he : PX G none Wi X e sa) (hg : PG X tg (gOf G t)) (hs : swFB X.env.scope tg e = true) (hw : swappedStores [tg] e X.env = pure none) (hn : notStar tg = true) :
    PS X (.Assign [tg] e pos) (TSof G none Wi fun l M => (sa.v l M).thenS l fun w M1 => needS (tgW t w l) fun l1 => .nx l1 M1) := by
  refine (ps_asg he.pe hg (sw_FS hs) hw (by rw [assignEach_cons hn]; rfl)).imp fun D σ H q => ?_
  refine (TSof.bind (fa := sa.v) (f := fun l w M1 => needS (tgW t w l) fun l1 => .nx l1 M1) (rel := RW G) q).imp fun v H1 ⟨g1, M1, l, w, a1, r1, p⟩ => ?_
  obtain ⟨l1, hl, p⟩ := PostS.need p
  exact ⟨g1, M1, l, w, l1, a1.abs, a1.lr, r1, hl, fun σ' _ lr => p g1 σ' H1 (a1.setL lr) Evo.refl⟩
/-- a, b = x, y -/
theorem ps_par2 {i j : Nat} {x y : Str} {px py pt : Pos} {kt k2 : Nat} {pt2 : Pos} (gs : GS G Γ k cur C none Wi X) (hc : C.calm = true) (hi : C.N[i]? = some x) (hj : C.N[j]? = some y) (hij : i ≠ j) (hx : C.sc.names.lookup x = some .local) (hy : C.sc.names.lookup y = some .local)
    (ha : PX G none Wi X a sa) (hb : PX G none Wi X b sb) (hw : swp C.sc (.Tuple [.Name x px, .Name y py] kt pt) (.Tuple [a, b] k2 pt2) = some (some [x, y])) :
    PS X (.Assign [.Tuple [.Name x px, .Name y py] kt pt] (.Tuple [a, b] k2 pt2) pos) (TSof G none Wi fun l M => (evEs [sa, sb] l M).thenS l fun ws M1 => needS (tgWs [.nm i, .nm j] ws l) fun l1 => .nx l1 M1) := by
  have hN := gs.e.g.xN
  refine (ps_par (gs.e.g.calm hc) (by rw [hN]; exact gs.e.g.nd) (by rw [hN]; exact hi) (by rw [hN]; exact hj) hij (by rw [gs.e.g.sc]; exact hx) (by rw [gs.e.g.sc]; exact hy) (PXs.pa (.cons ha (.cons hb .nil))) (swp_ok (by rw [gs.e.g.sc]; exact gs.knd) (by rw [gs.e.g.sc]; exact hw)) rfl).imp fun D σ H q => ?_
  refine (TSof.bind (fa := evEs [sa, sb]) (f := fun l ws M1 => needS (tgWs [.nm i, .nm j] ws l) fun l1 => .nx l1 M1) (rel := RWs G) q).imp fun vs H1 ⟨g1, M1, l, ws, a1, r1, p⟩ => ?_
  obtain ⟨l1, hl, p⟩ := PostS.need p
  match ws, r1, hl with
  | [], _, hl => cases hl
  | [_], _, hl => simp [tgWs, tgW] at hl
  | _ :: _ :: _ :: _, _, hl => simp [tgWs, tgW] at hl
  | [w1, w2], r1, hl =>
    simp [tgWs, tgW] at hl
    obtain ⟨v, u, e, h1, h2⟩ := r1.two_inv
    subst hl
    exact ⟨v, u, e, p g1 _ H1 (a1.setL ((a1.lr.set i h1).set j h2)) Evo.refl⟩
theorem ps_par3' {i j m : Nat} {x y z : Str} {px py pz pt : Pos} {kt k2 : Nat} {pt2 : Pos} (gs : GS G Γ k cur C none Wi X) (hc : C.calm = true) (hi : C.N[i]? = some x) (hj : C.N[j]? = some y) (hm : C.N[m]? = some z) (hij : i ≠ j) (him : i ≠ m) (hjm : j ≠ m) (hx : C.sc.names.lookup x = some .local) (hy : C.sc.names.lookup y = some .local) (hz : C.sc.names.lookup z = some .local)
    (ha : PX G none Wi X a sa) (hb : PX G none Wi X b sb) (hd : PX G none Wi X c s_c) (hw : swp C.sc (.Tuple [.Name x px, .Name y py, .Name z pz] kt pt) (.Tuple [a, b, c] k2 pt2) = some (some [x, y, z])) :
    PS X (.Assign [.Tuple [.Name x px, .Name y py, .Name z pz] kt pt] (.Tuple [a, b, c] k2 pt2) pos) (TSof G none Wi fun l M => (evEs [sa, sb, s_c] l M).thenS l fun ws M1 => needS (tgWs [.nm i, .nm j, .nm m] ws l) fun l1 => .nx l1 M1) := by
  have hN := gs.e.g.xN
  refine (ps_par3 (gs.e.g.calm hc) (by rw [hN]; exact gs.e.g.nd) (by rw [hN]; exact hi) (by rw [hN]; exact hj) (by rw [hN]; exact hm) hij him hjm (by rw [gs.e.g.sc]; exact hx) (by rw [gs.e.g.sc]; exact hy) (by rw [gs.e.g.sc]; exact hz) (PXs.pa (.cons ha (.cons hb (.cons hd .nil)))) (swp_ok (by rw [gs.e.g.sc]; exact gs.knd) (by rw [gs.e.g.sc]; exact hw)) rfl).imp fun D σ H q => ?_
  refine (TSof.bind (fa := evEs [sa, sb, s_c]) (f := fun l ws M1 => needS (tgWs [.nm i, .nm j, .nm m] ws l) fun l1 => .nx l1 M1) (rel := RWs G) q).imp fun vs H1 ⟨g1, M1, l, ws, a1, r1, p⟩ => ?_
  obtain ⟨l1, hl, p⟩ := PostS.need p
  match ws, r1, hl with
  | [], _, hl => cases hl
  | [_], _, hl => simp [tgWs, tgW] at hl
  | [_, _], _, hl => simp [tgWs, tgW] at hl
  | _ :: _ :: _ :: _ :: _, _, hl => simp [tgWs, tgW] at hl
  | [w1, w2, w3], r1, hl =>
    simp [tgWs, tgW] at hl
    obtain ⟨v, u, z, e, h1, h2, h3⟩ := r1.three_inv
    subst hl
    exact ⟨v, u, z, e, p g1 _ H1 (a1.setL (((a1.lr.set i h1).set j h2).set m h3)) Evo.refl⟩
/-- o[i] = e -/
theorem ps_sub' {tpos : Pos} (hu : X.A.units + 200 < cLine) (ho : PX G none Wi X a sa) (hi : PX G none Wi X b sb) (he : PX G none Wi X c s_c) (hp : plainIxB b = true) :
    PS X (.Assign [.Subscript a b tpos] c pos) (TSof G none Wi fun l M => (s_c.v l M).thenS l fun w M1 => (sa.v l M1).thenS l fun x M2 => (sb.v l M2).thenS l fun y M3 => needS (setSubW x y w M3) fun M4 => .nx l M4) := by
  refine (ps_asg he.pe (pg_sub ho.pe hi.pe (set_2 (by omega)) (fun v => assign_sub hp)) (sw_FS (by simp [swFB])) rfl rfl).imp fun D σ H q => ?_
  refine (TSof.bind (fa := s_c.v) (f := fun l w M1 => (sa.v l M1).thenS l fun x M2 => (sb.v l M2).thenS l fun y M3 => needS (setSubW x y w M3) fun M4 => .nx l M4) (rel := RW G) q).imp fun v H1 ⟨g1, M1, l, w, a1, r1, p⟩ => ?_
  refine ⟨g1, M1, l, a1, (PostS.then (rel := RW G) a1 p).imp fun x H2 ⟨g2, M2, wx, a2, e2, r2, p2⟩ => ?_⟩
  refine ⟨g2, M2, l, a2, (PostS.then (rel := RW G) a2 p2).imp fun y H3 ⟨g3, M3, wy, a3, e3, r3, p3⟩ => ?_⟩
  obtain ⟨M4, hM, p4⟩ := PostS.need p3
  exact setSub_ok a3.abs (r2.evo a2.abs.len e3) r3 ((r1.evo a1.abs.len e2).evo a2.abs.len e3) hM fun H' a4 e4 => p4 g3 σ H' (a3.evo a4 e4) e4
/-- o[i], j = e -/
theorem ps_subNm {j : Nat} {y : Str} {tpos npos tp : Pos} {kt : Nat} (gs : GS G Γ k cur C none Wi X) (hc : C.calm = true) (hj : C.N[j]? = some y) (hst : stoB C y = true) (ho : PX G none Wi X a sa) (hi : PX G none Wi X b sb) (he : PX G none Wi X c s_c) (hp : plainIxB b = true) (hcp : swp C.sc (.Tuple [.Subscript a b tpos, .Name y npos] kt tp) c = some none) :
    PS X (.Assign [.Tuple [.Subscript a b tpos, .Name y npos] kt tp] c pos) (TSof G none Wi fun l M => (s_c.v l M).thenS l fun w M1 => match w with
    | .tup [u, v] => (sa.v l M1).thenS l fun x M2 => (sb.v l M2).thenS l fun y M3 => needS (setSubW x y u M3) fun M4 => .nx (l.set j (some v)) M4
    | _ => .err) := by
  obtain ⟨s1, s2⟩ := sto_of gs.e hst
  have hK := gs.e.g.K
  refine (ps_asg he.pe (pg_tup (n := 2) (gs.e.g.calm hc) (pgs_cons (pg_sub ho.pe hi.pe (set_2 (by have := gs.e.g.un; omega)) (fun v => assign_sub hp)) (pgs_cons (pg_name (by rw [gs.e.g.xN]; exact gs.e.g.nd) (by rw [gs.e.g.xN]; exact hj) s1 s2) pgs_nil rfl) rfl) rfl rfl) (sw_FS (by simp [swFB])) (swp_ok (by rw [gs.e.g.sc]; exact gs.knd) (by rw [gs.e.g.sc]; exact hcp)) rfl).imp fun D σ H q => ?_
  refine (TSof.bind (fa := s_c.v) (f := fun l w M1 => match w with
    | .tup [u, v] => (sa.v l M1).thenS l fun x M2 => (sb.v l M2).thenS l fun y M3 => needS (setSubW x y u M3) fun M4 => .nx (l.set j (some v)) M4
    | _ => .err) (rel := RW G) q).imp fun v H1 ⟨g1, M1, l, w, a1, r1, p⟩ => ?_
  split at p
  · rename_i w1 w2
    obtain ⟨q, vs, rfl, h1, h2⟩ := r1
    obtain ⟨v1, v2, rfl, k1, k2⟩ := h2.two_inv
    refine ⟨q, [v1, v2], rfl, by rw [hK]; exact h1.sq, rfl, v1, [v2], rfl, ?_⟩
    refine ⟨g1, M1, l, a1, (PostS.then (rel := RW G) a1 p).imp fun x H2 ⟨g2, M2, wx, a2, e2, r2, p2⟩ => ?_⟩
    refine ⟨g2, M2, l, a2, (PostS.then (rel := RW G) a2 p2).imp fun y H3 ⟨g3, M3, wy, a3, e3, r3, p3⟩ => ?_⟩
    obtain ⟨M4, hM, p4⟩ := PostS.need p3
    refine setSub_ok a3.abs (r2.evo a2.abs.len e3) r3 ((k1.evo a1.abs.len e2).evo a2.abs.len e3) hM fun H' a4 e4 => ⟨v2, [], rfl, rfl, ?_⟩
    have a5 := a3.evo a4 e4
    exact p4 g3 _ H' (a5.setL (a5.lr.set j (((k2.evo a1.abs.len e2).evo a2.abs.len e3).evo a3.abs.len e4))) e4
  · exact p.elim
/-- x op= e -/
theorem ps_aug' {i : Nat} {x : Str} {op : Operator} {pos' : Pos} (gs : GS G Γ k cur C none Wi X) (hop : op = .Add ∨ op = .Sub) (hi : C.N[i]? = some x) (hst : stoB C x = true) (he : PX G none Wi X a sa) :
    PS X (.AugAssign (.Name x pos') op a pos) (TSof G none Wi fun l M => match l[i]? with
      | some (some w) => (sa.v l M).thenS l fun v M1 => (augW op w v M1).thenS l fun r M2 => .nx (l.set i (some r)) M2
      | _ => .err) := by
  obtain ⟨s1, s2⟩ := sto_of gs.e hst
  have N1 : X.N.Nodup := by rw [gs.e.g.xN]; exact gs.e.g.nd
  have N2 : X.N[i]? = some x := by rw [gs.e.g.xN]; exact hi
  have key : ∀ {f : Int → Int → Int}, PIp X op (ipI f) → (∀ p q M, augW op (.int p) (.int q) M = .ok (.int (f p q)) M) → (∀ w v M, (∃ p q, w = .int p ∧ v = .int q) ∨ augW op w v M = .err) →
      PS X (.AugAssign (.Name x pos') op a pos) (TSof G none Wi fun l M => match l[i]? with
      | some (some w) => (sa.v l M).thenS l fun v M1 => (augW op w v M1).thenS l fun r M2 => .nx (l.set i (some r)) M2
      | _ => .err) := by
    intro f hp hf hf2
    refine (ps_aug N1 N2 s1 he.pe hp s2).imp fun D σ H ⟨g, M, l, a, p⟩ => ?_
    dsimp only at p
    split at p
    · rename_i w hw
      obtain ⟨v, hv, rv⟩ := a.lr.2 i w hw
      refine ⟨v, hv, g, M, l, a, (PostS.then (rel := RW G) a p).imp fun y H1 ⟨g1, M1, w1, a1, e1, r1, p1⟩ => ?_⟩
      rcases hf2 w w1 M1 with ⟨i1, i2, rfl, rfl⟩ | he
      · rw [hf] at p1
        exact ⟨i1, i2, rv, r1, p1 g1 _ H1 (a1.setL (a1.lr.set i rfl)) Evo.refl⟩
      · rw [he] at p1
        exact p1.elim
    · exact p.elim
  rcases hop with rfl | rfl
  · exact key ip_add (fun _ _ _ => rfl) fun w v M => by cases w <;> cases v <;> first | exact .inl ⟨_, _, rfl, rfl⟩ | exact .inr rfl
  · exact key ip_sub (fun _ _ _ => rfl) fun w v M => by cases w <;> cases v <;> first | exact .inl ⟨_, _, rfl, rfl⟩ | exact .inr rfl
end
end PyI
namespace PyI
open PySem PySem.Spec PyProof.Rows L2
section
variable {G : GE} {Γ : Glo} {cu : Option Cu} {cur : Option Cur} {C : Ck} {Wi : WX} {X : Cx} {g g' g1 g2 : Gh} {M M' M1 M2 : Store} {H H' H1 H2 : Hp} {σ : L2.St} {l : LM} {pos : Pos} {k : Nat} {α β : Type} {a b c : Expr} {sa sb s_c : Sm}
/-! ### loops -/
theorem LR.length_eq (h : LR G g M H l σ) : l.length = σ.length := h.1
open Classical in
theorem for_ok {kd : Itk} {t : Tg} {ss : List Sm} {body : LM → Store → SR} {D : Ends}
    (h : TSof G none Wi (fun l M => (evEs ss l M).thenS l fun vs M1 => needS (itemsW kd vs M1) fun items => forW (tgW t) body (Still kd vs items) items l M1) D σ H) :
    tFor (iOf G none Wi kd (evEs ss)) (gOf G t) (TSof G none Wi body) D σ H := by
  refine (TSof.bind (fa := evEs ss) (f := fun l vs M1 => needS (itemsW kd vs M1) fun items => forW (tgW t) body (Still kd vs items) items l M1) (rel := RWs G) h).imp fun xs H1 ⟨g1, M1, l1, vs, a1, r1, p1⟩ => ?_
  obtain ⟨items, hit, p1⟩ := PostS.need p1
  refine ⟨g1, M1, vs, items, a1.abs, r1, hit, fun J hJ => ?_⟩
  refine ⟨fun i m σ H => ∃ g M l, i ≤ items.length ∧ m = items.length - i ∧ At G none g M H l σ ∧ RWs G g M H vs xs ∧ PostS G none Wi g M H (forW (tgW t) body (Still kd vs items) (items.drop i) l M) D ∧ itemsW kd vs M = some items, ?_, ?_⟩
  · exact ⟨_, g1, M1, l1, Nat.zero_le _, rfl, a1, r1, p1, hit⟩
  · rintro i m σ H ⟨g, M, l, hi, rfl, at_, rs, p, hit'⟩
    obtain ⟨hgo, hstop⟩ := hJ g M H at_.abs rs hit'
    by_cases hlt : i = items.length
    · subst hlt
      left
      refine ⟨hstop, ?_⟩
      rw [List.drop_length] at p
      exact p g σ H at_ Evo.refl
    · right
      have hi2 : i < items.length := by omega
      obtain ⟨w, hw⟩ : ∃ w, items[i]? = some w := ⟨_, List.getElem?_eq_getElem hi2⟩
      have hdrop : items.drop i = w :: items.drop (i + 1) := by
        have h1 : w = items[i] := by rw [List.getElem?_eq_getElem hi2] at hw; exact (Option.some.inj hw).symm
        rw [h1]; exact List.drop_eq_getElem_cons hi2
      rw [hdrop] at p
      obtain ⟨hg, hy⟩ := hgo i w hw
      refine ⟨hg, fun σ' H' => ∃ m', m' < items.length - i ∧ ∃ g M l, i + 1 ≤ items.length ∧ m' = items.length - (i + 1) ∧ At G none g M H' l σ' ∧ RWs G g M H' vs xs ∧ PostS G none Wi g M H' (forW (tgW t) body (Still kd vs items) (items.drop (i + 1)) l M) D ∧ itemsW kd vs M = some items, fun σ' H' h => h, fun x H2 hyl => ?_⟩
      obtain ⟨a2, e2, rw2⟩ := hy x H2 hyl
      unfold forW at p
      obtain ⟨l2, htw, p⟩ := PostS.need p
      refine ⟨g, M, l, w, l2, a2, at_.lr.evo at_.abs.len e2, rw2, htw, fun σ2 _ lr2 => ?_⟩
      have at2 : At G none g M H2 l2 σ2 := ⟨a2, lr2, fun c q => by cases q⟩
      have rs2 := rs.evo at_.abs.len e2
      have p2 := PostS.evo at_.abs.len e2 p
      refine ⟨g, M, l2, at2, ?_⟩
      cases hb : body l2 M with
      | nx l3 M3 =>
        rw [hb] at p2
        simp only at p2
        split at p2
        · rename_i hst
          exact fun g3 σ3 H3 a3 e3 => ⟨_, by omega, g3, M3, l3, by omega, rfl, a3, rs2.evo a2.len e3, PostS.evo a2.len e3 p2, hst⟩
        · exact p2.elim
      | ct l3 M3 =>
        rw [hb] at p2
        simp only at p2
        split at p2
        · rename_i hst
          exact fun g3 σ3 H3 a3 e3 => ⟨_, by omega, g3, M3, l3, by omega, rfl, a3, rs2.evo a2.len e3, PostS.evo a2.len e3 p2, hst⟩
        · exact p2.elim
      | bk l3 M3 =>
        rw [hb] at p2
        exact fun g3 σ3 H3 a3 e3 => p2 g3 σ3 H3 a3 e3
      | rt v M3 => rw [hb] at p2; exact p2
      | exc cc ns ws l3 M3 => rw [hb] at p2; exact p2
      | err => rw [hb] at p2; exact p2
theorem while_ok {cond : Sm} {body : LM → Store → SR} {D : Ends} (h : TSof G none Wi (whlW cond.t body) D σ H) : tWhile (TTof G none Wi cond.t) (TSof G none Wi body) D σ H := by
  obtain ⟨g, M, l, at_, p⟩ := h
  have p : PostS G none Wi g M H (whlW cond.t body l M) D := p
  unfold whlW at p
  split at p
  · rename_i hex
    refine ⟨fun m σ H => ∃ g M l, At G none g M H l σ ∧ PostS G none Wi g M H (whlN cond.t body m l M) D, ⟨_, g, M, l, at_, p⟩, ?_⟩
    rintro m σ H ⟨g, M, l, a, p⟩
    cases m with
    | zero => exact p.elim
    | succ n =>
      have p : PostS G none Wi g M H ((cond.t l M).thenS l fun b M1 => if b then (match body l M1 with
        | .nx l2 M2 => whlN cond.t body n l2 M2
        | .ct l2 M2 => whlN cond.t body n l2 M2
        | .bk l2 M2 => .nx l2 M2
        | r => r) else .nx l M1) D := p
      refine ⟨g, M, l, a, (PostS.then (rel := relB) a p).imp fun b H1 ⟨g1, M1, b', a1, e1, r1, p1⟩ => ?_⟩
      have eb : b' = b := r1
      subst eb
      cases b' with
      | false => exact p1 g1 σ H1 a1 Evo.refl
      | true =>
        refine ⟨fun σ' H' => ∃ g M l, At G none g M H' l σ' ∧ PostS G none Wi g M H' (whlN cond.t body n l M) D, fun σ' H' h => ⟨n, Nat.lt_succ_self n, h⟩, g1, M1, l, a1, ?_⟩
        simp only [if_true] at p1
        cases hb : body l M1 with
        | nx l3 M3 =>
          rw [hb] at p1
          exact fun g3 σ3 H3 a3 e3 => ⟨g3, M3, l3, a3, PostS.evo a1.abs.len e3 p1⟩
        | ct l3 M3 =>
          rw [hb] at p1
          exact fun g3 σ3 H3 a3 e3 => ⟨g3, M3, l3, a3, PostS.evo a1.abs.len e3 p1⟩
        | bk l3 M3 => rw [hb] at p1; exact fun g3 σ3 H3 a3 e3 => p1 g3 σ3 H3 a3 e3
        | rt v M3 => rw [hb] at p1; exact p1
        | exc cc ns ws l3 M3 => rw [hb] at p1; exact p1
        | err => rw [hb] at p1; exact p1
  · exact p.elim
end

/-! ### the check of statements -/
section
variable (Γ : Glo)
/-- x = [..], the swapped way -/
def swTB (sc : Scope) (tg e : Expr) : Bool := match tg, e with
  | .Name t p, .ListComp _ _ s p2 => decide (sc.names.lookup t = some .local) && (p.line == p2.line) && !(s.names.any fun (n, k) => n == t && (k == .local || k == .cell))
  | _, _ => false
mutual
def okS : S → Ck → Stmt → Bool
  | .expr e, C, x => match x with
    | .Expr y _ => (match e, y with
      | .con _, .Constant (.str _) _ _ => okE Γ e C y
      | _, _ => !compB y && okE Γ e C y)
    | _ => false
  | .asg t e, C, x => match x with
    | .Assign [tg] y _ => C.calm && notStar tg && okTg C t tg && okE Γ e C y && (swTB C.sc tg y || (swFB C.sc tg y && decide (swp C.sc tg y = some none)))
    | _ => false
  | .par is es, C, x => match is, x with
    | [i, j], .Assign [.Tuple [.Name x px, .Name y py] kt pt] (.Tuple [a, b] k2 pt2) _ => C.calm && decide (C.N[i]? = some x) && decide (C.N[j]? = some y) && decide (i ≠ j) && decide (C.sc.names.lookup x = some .local) && decide (C.sc.names.lookup y = some .local) &&
        decide (swp C.sc (.Tuple [.Name x px, .Name y py] kt pt) (.Tuple [a, b] k2 pt2) = some (some [x, y])) && okEs Γ es C [a, b]
    | [i, j, m], .Assign [.Tuple [.Name x px, .Name y py, .Name z pz] kt pt] (.Tuple [a, b, c] k2 pt2) _ => C.calm && decide (C.N[i]? = some x) && decide (C.N[j]? = some y) && decide (C.N[m]? = some z) && decide (i ≠ j) && decide (i ≠ m) && decide (j ≠ m) &&
        decide (C.sc.names.lookup x = some .local) && decide (C.sc.names.lookup y = some .local) && decide (C.sc.names.lookup z = some .local) &&
        decide (swp C.sc (.Tuple [.Name x px, .Name y py, .Name z pz] kt pt) (.Tuple [a, b, c] k2 pt2) = some (some [x, y, z])) && okEs Γ es C [a, b, c]
    | _, _ => false
  | .setSub o i e, C, x => match x with
    | .Assign [.Subscript a b _] c _ => C.calm && plainIxB b && okE Γ o C a && okE Γ i C b && okE Γ e C c
    | _ => false
  | .subNm o i j e, C, x => match x with
    | .Assign [.Tuple [.Subscript a b tp, .Name y np] kt pt] c _ => C.calm && plainIxB b && decide (C.N[j]? = some y) && stoB C y && decide (swp C.sc (.Tuple [.Subscript a b tp, .Name y np] kt pt) c = some none) && okE Γ o C a && okE Γ i C b && okE Γ e C c
    | _ => false
  | .aug i op e, C, x => match x with
    | .AugAssign (.Name y _) op' a _ => C.calm && decide (op = op') && (decide (op = .Add) || decide (op = .Sub)) && decide (C.N[i]? = some y) && stoB C y && okE Γ e C a
    | _ => false
  | .ife c a b, C, x => match x with
    | .If y u v _ => okE Γ c C y && okSs a C u && okSs b C v
    | _ => false
  | .for kd src t body, C, x => match x with
    | .For tg iter bd [] _ => C.calm && foldB iter && okTg C t tg && okSs body C bd && (match kd, iter with
      | .seq, z => okEs Γ src C [z]
      | .range, .Call (.Name f _) [z] [] _ => decide (f = "range") && gloB C.sc f && okEs Γ src C [z]
      | .range, .Call (.Name f _) [z, w] [] _ => decide (f = "range") && gloB C.sc f && okEs Γ src C [z, w]
      | _, _ => false)
    | _ => false
  | .whl c body, C, x => match x with
    | .While y bd [] _ => C.calm && okE Γ c C y && okSs body C bd
    | _ => false
  | .ret e, C, x => match x with
    | .Return (some y) _ => okE Γ e C y
    | _ => false
  | .retN, _, x => match x with
    | .Return none _ => true
    | _ => false
  | .pass, _, x => match x with
    | .Pass _ => true
    | _ => false
  | .brk, _, x => match x with
    | .Break _ => true
    | _ => false
  | .cont, _, x => match x with
    | .Continue _ => true
    | _ => false
  | _, _, _ => false
def okSs : List S → Ck → List Stmt → Bool
  | [], _, [] => true
  | s :: ss, C, x :: xs => okS s C x && okSs ss C xs
  | _, _, _ => false
end
end
end PyI
namespace PyI
open PySem PySem.Spec PyProof.Rows L2
section
variable {G : GE} {Γ : Glo} {k : Nat} {cur : Option Cur} {C : Ck} {cu : Option Cu} {Wi : WX} {X : Cx}
theorem GC.cu0 (g : GC G Γ k cur C cu Wi X) (hc : C.calm = true) : cu = none ∧ cur = none := by
  have h := g.cuN hc
  exact ⟨h, by rw [← g.cur, h]; rfl⟩
/-- x = [..], stored the swapped way -/
theorem lc_stmt {fz : Bool} {own : List (Str × Nat)} {kd : Itk} {src cond : List E} {t : Tg} {elt : E} {i : Nat} {x : Str} {px spos pos : Pos} {y tg iter : Expr} {ifs : List Expr} {scope : Scope} (g : GC G Γ k none C none Wi X)
    (h : okE Γ (.lc fz own kd src t cond elt) C (.ListComp y [⟨tg, iter, ifs, 0⟩] scope pos) = true) (hi : C.N[i]? = some x) (hl : C.sc.names.lookup x = some .local) (hline : (px.line == pos.line) = true) (hk : C.sc.kind = .function)
    (ha : (scope.names.any fun (n, k) => n == x && (k == .local || k == .cell)) = false) :
    PS X (.Assign [.Name x px] (.ListComp y [⟨tg, iter, ifs, 0⟩] scope pos) spos) (TSof G none Wi fun l M => ((ev Γ none (.lc fz own kd src t cond elt)).v l M).thenS l fun w M1 => needS (tgW (.nm i) w l) fun l1 => .nx l1 M1) := by
  simp only [okE] at h
  simp only [ev]
  simp only [Bool.and_eq_true, decide_eq_true_eq, List.all_eq_true] at h
  obtain ⟨⟨⟨⟨⟨⟨⟨⟨h1, h2⟩, h3⟩, h4⟩, h5⟩, h6⟩, h7⟩, h8⟩, h9⟩ := h
  have hb : ∀ (s : Shared) (H : Hp) (C' : Addr) (cl : List (Str × Addr)) (fp : List Addr), GC G Γ k none ⟨C.N, relS scope C.sc, some scope, C.calm⟩ none W0 (X.blk s H scope (compEnvC scope cl C' X.env) fp) := fun s H C' cl fp => g.blk h1
  have hcl : (evL Γ none cond).length ≤ 1 := by rw [evL_length, okEs_len h7]; exact h5
  have hit : PI X tg iter (iOf G none Wi kd (evEs (evL Γ none src))) := by
    split at h9
    · obtain ⟨s, e, z⟩ := (okEs_ok src g h9).inv1
      rw [e]; exact pi_seq g.g.K z
    · simp only [Bool.and_eq_true, decide_eq_true_eq] at h9
      obtain ⟨⟨rfl, z2⟩, z3⟩ := h9
      obtain ⟨s, e, z⟩ := (okEs_ok src g z3).inv1
      rw [e]; exact pi_rng1 g.g (glo_of g.g.sc z2) z
    · simp only [Bool.and_eq_true, decide_eq_true_eq] at h9
      obtain ⟨⟨rfl, z2⟩, z3⟩ := h9
      obtain ⟨s, s2, e, z, z'⟩ := (okEs_ok src g z3).inv2
      rw [e]; exact pi_rng2 g.g (glo_of g.g.sc z2) z z'
    · cases h9
  refine (ps_setLc (own := own) (te := TEof G none W0 (ev Γ none elt).v) (tt := ttOf G (evL Γ none cond)) (g.g.calm h1) (by rw [g.g.xN]; exact g.g.nd) (by rw [g.g.xN]; exact hi) (by rw [g.g.sc]; exact hl)
    (sw_true (by rw [g.g.sc]; exact hk) (by rw [g.g.sc]; exact hl) hline ha) hit (by rw [g.g.xN, g.g.sc]; exact blk_of h2)
    (fun s H C' cl fp => okTg_ok (hb s H C' cl fp) h1 h6) (fun s H C' cl fp => pts_of' h5 (okEs_ok cond (hb s H C' cl fp) h7)) (fun s H C' cl fp => (okE_ok elt (hb s H C' cl fp) h8).pe) (fold_of h4)).imp fun D σ H q => ?_
  refine lc_ok h3 (tt_of hcl) ((TSof.bind (fa := evLc fz own kd (evL Γ none src) t (evL Γ none cond) (ev Γ none elt)) (f := fun l w M1 => needS (tgW (.nm i) w l) fun l1 => .nx l1 M1) (rel := RW G) q).imp fun v H1 ⟨g1, M1, l, w, a1, r1, p⟩ => ?_)
  obtain ⟨l1, hl1, p⟩ := PostS.need p
  cases hl1
  exact p g1 _ H1 (a1.setL (a1.lr.set i r1)) Evo.refl
theorem comp_is {e : E} {y : Expr} {gs : List Comprehension} {scope : Scope} {pos : Pos} (h : okE Γ e C (.ListComp y gs scope pos) = true) : ∃ fz own kd src t cond elt tg iter ifs, e = .lc fz own kd src t cond elt ∧ gs = [⟨tg, iter, ifs, 0⟩] := by
  cases e with
  | lc fz own kd src t cond elt =>
    simp only [okE] at h
    split at h
    · rename_i heq
      cases heq
      exact ⟨_, _, _, _, _, _, _, _, _, _, rfl, rfl⟩
    · cases h
  | prm p as => cases p <;> simp [okE] at h
  | _ => simp [okE] at h
mutual
theorem okS_ok : ∀ (s : S) {C : Ck} {cur : Option Cur} {cu : Option Cu} {Wi : WX} {X : Cx} {x : Stmt}, GS G Γ k cur C cu Wi X → okS Γ s C x = true → PS X x (TSof G cu Wi (evS Γ s cur))
  | .expr e, C, cur, cu, Wi, X, x, gs, h => by
    simp only [okS] at h
    split at h
    · rename_i y pos
      have fin : ∀ {y : Expr}, compB y = false → okE Γ e C y = true → PS X (.Expr y pos) (TSof G cu Wi (evS Γ (.expr e) cur)) := fun {y} h1 h2 => by
        refine (ps_expr (okE_ok e gs.e h2).pe (sw_not h1)).imp fun D σ H q => ?_
        simp only [evS] at q
        exact (TSof.bind (fa := (ev Γ cur e).v) (f := fun l _ M1 => .nx l M1) (rel := RW G) q).imp fun v H1 ⟨g1, M1, l, w, a1, r1, p⟩ => p g1 σ H1 a1 Evo.refl
      split at h
      · exact fin rfl h
      · simp only [Bool.and_eq_true, Bool.not_eq_true'] at h
        exact fin h.1 h.2
    · cases h
  | .asg t e, C, cur, cu, Wi, X, x, gs, h => by
    simp only [okS] at h
    split at h
    · rename_i tg y pos
      simp only [Bool.and_eq_true, Bool.or_eq_true, decide_eq_true_eq] at h
      obtain ⟨⟨⟨⟨h1, h2⟩, h3⟩, h4⟩, h5⟩ := h
      obtain ⟨rfl, rfl⟩ := gs.e.cu0 h1
      simp only [evS]
      rcases h5 with h5 | ⟨h5, h6⟩
      · unfold swTB at h5
        split at h5
        · rename_i n p y' gens s p2
          simp only [Bool.and_eq_true, decide_eq_true_eq, Bool.not_eq_true'] at h5
          obtain ⟨⟨k1, k2⟩, k3⟩ := h5
          obtain ⟨fz, own, kd, src, t', cond, elt, tg', iter, ifs, rfl, rfl⟩ := comp_is h4
          cases t with
          | tup ts => simp [okTg] at h3
          | nm i =>
            simp only [okTg, Bool.and_eq_true, decide_eq_true_eq] at h3
            exact lc_stmt gs.e h4 h3.1 k1 k2 gs.knd k3
        · cases h5
      · exact ps_asgT (okE_ok e gs.e h4) (okTg_ok gs.e h1 h3) (by rw [gs.e.g.sc]; exact h5) (swp_ok (by rw [gs.e.g.sc]; exact gs.knd) (by rw [gs.e.g.sc]; exact h6)) h2
    · cases h
  | .par is es, C, cur, cu, Wi, X, x, gs, h => by
    simp only [okS] at h
    split at h
    · simp only [Bool.and_eq_true, decide_eq_true_eq] at h
      obtain ⟨⟨⟨⟨⟨⟨⟨h1, h2⟩, h3⟩, h4⟩, h5⟩, h6⟩, h7⟩, h8⟩ := h
      obtain ⟨rfl, rfl⟩ := gs.e.cu0 h1
      obtain ⟨s, t, e, z1, z2⟩ := (okEs_ok es gs.e h8).inv2
      simp only [evS]
      rw [e]
      exact ps_par2 gs h1 h2 h3 h4 h5 h6 z1 z2 h7
    · simp only [Bool.and_eq_true, decide_eq_true_eq] at h
      obtain ⟨⟨⟨⟨⟨⟨⟨⟨⟨⟨⟨h1, h2⟩, h3⟩, h4⟩, h5⟩, h6⟩, h7⟩, h8⟩, h9⟩, h10⟩, h11⟩, h12⟩ := h
      obtain ⟨rfl, rfl⟩ := gs.e.cu0 h1
      have hx := okEs_ok es gs.e h12
      simp only [evS]
      generalize evL Γ none es = ss at hx ⊢
      cases hx with
      | cons z1 hx =>
        obtain ⟨s, t, e, z2, z3⟩ := hx.inv2
        subst e
        exact ps_par3' gs h1 h2 h3 h4 h5 h6 h7 h8 h9 h10 z1 z2 z3 h11
    · cases h
  | .setSub o i e, C, cur, cu, Wi, X, x, gs, h => by
    simp only [okS] at h
    split at h
    · simp only [Bool.and_eq_true] at h
      obtain ⟨⟨⟨⟨h1, h2⟩, h3⟩, h4⟩, h5⟩ := h
      obtain ⟨rfl, rfl⟩ := gs.e.cu0 h1
      simp only [evS]
      exact ps_sub' gs.e.g.un (okE_ok o gs.e h3) (okE_ok i gs.e h4) (okE_ok e gs.e h5) h2
    · cases h
  | .subNm o i j e, C, cur, cu, Wi, X, x, gs, h => by
    simp only [okS] at h
    split at h
    · simp only [Bool.and_eq_true, decide_eq_true_eq] at h
      obtain ⟨⟨⟨⟨⟨⟨⟨h1, h2⟩, h3⟩, h4⟩, h5⟩, h6⟩, h7⟩, h8⟩ := h
      obtain ⟨rfl, rfl⟩ := gs.e.cu0 h1
      simp only [evS]
      exact ps_subNm gs h1 h3 h4 (okE_ok o gs.e h6) (okE_ok i gs.e h7) (okE_ok e gs.e h8) h2 h5
    · cases h
  | .aug i op e, C, cur, cu, Wi, X, x, gs, h => by
    simp only [okS] at h
    split at h
    · simp only [Bool.and_eq_true, decide_eq_true_eq, Bool.or_eq_true] at h
      obtain ⟨⟨⟨⟨⟨h1, rfl⟩, h3⟩, h4⟩, h5⟩, h6⟩ := h
      obtain ⟨rfl, rfl⟩ := gs.e.cu0 h1
      simp only [evS]
      exact ps_aug' gs h3 h4 h5 (okE_ok e gs.e h6)
    · cases h
  | .ife c a b, C, cur, cu, Wi, X, x, gs, h => by
    simp only [okS] at h
    split at h
    · simp only [Bool.and_eq_true] at h
      refine (ps_if (okE_ok c gs.e h.1.1).pt (okSs_ok a gs h.1.2) (okSs_ok b gs h.2)).imp fun D σ H q => ?_
      simp only [evS] at q
      refine (TSof.bind (fa := (ev Γ cur c).t) (f := fun l k M1 => if k then evSs Γ a cur l M1 else evSs Γ b cur l M1) (rel := relB) q).imp fun kk H1 ⟨g1, M1, l, k', a1, r1, p⟩ => ?_
      have e : k' = kk := r1
      subst e
      cases k' with
      | true => exact ⟨g1, M1, l, a1, p⟩
      | false => exact ⟨g1, M1, l, a1, p⟩
    · cases h
  | .for kd src t body, C, cur, cu, Wi, X, x, gs, h => by
    simp only [okS] at h
    split at h
    · rename_i tg iter bd pos
      simp only [Bool.and_eq_true] at h
      obtain ⟨⟨⟨⟨h1, h2⟩, h3⟩, h4⟩, h5⟩ := h
      obtain ⟨rfl, rfl⟩ := gs.e.cu0 h1
      have hit : PI X tg iter (iOf G none Wi kd (evEs (evL Γ none src))) := by
        split at h5
        · obtain ⟨s, e, z⟩ := (okEs_ok src gs.e h5).inv1
          rw [e]; exact pi_seq gs.e.g.K z
        · simp only [Bool.and_eq_true, decide_eq_true_eq] at h5
          obtain ⟨⟨rfl, z2⟩, z3⟩ := h5
          obtain ⟨s, e, z⟩ := (okEs_ok src gs.e z3).inv1
          rw [e]; exact pi_rng1 gs.e.g (glo_of gs.e.g.sc z2) z
        · simp only [Bool.and_eq_true, decide_eq_true_eq] at h5
          obtain ⟨⟨rfl, z2⟩, z3⟩ := h5
          obtain ⟨s, s2, e, z, z'⟩ := (okEs_ok src gs.e z3).inv2
          rw [e]; exact pi_rng2 gs.e.g (glo_of gs.e.g.sc z2) z z'
        · cases h5
      refine (ps_for (gs.po h1) (gs.e.g.calm h1) hit (okTg_ok gs.e h1 h3) (okSs_ok body gs h4) (fold_of h2)).imp fun D σ H q => ?_
      simp only [evS] at q
      exact for_ok q
    · cases h
  | .whl c body, C, cur, cu, Wi, X, x, gs, h => by
    simp only [okS] at h
    split at h
    · simp only [Bool.and_eq_true] at h
      obtain ⟨⟨h1, h2⟩, h3⟩ := h
      obtain ⟨rfl, rfl⟩ := gs.e.cu0 h1
      refine (ps_while (gs.po h1) (okE_ok c gs.e h2).pt (okSs_ok body gs h3)).imp fun D σ H q => ?_
      simp only [evS] at q
      exact while_ok q
    · cases h
  | .ret e, C, cur, cu, Wi, X, x, gs, h => by
    simp only [okS] at h
    split at h
    · refine (ps_ret (okE_ok e gs.e h).pe).imp fun D σ H q => ?_
      simp only [evS] at q
      exact (TSof.bind (fa := (ev Γ cur e).v) (f := fun l w M1 => .rt w M1) (rel := RW G) q).imp fun v H1 ⟨g1, M1, l, w, a1, r1, p⟩ => p g1 v H1 a1.abs Evo.refl r1
    · cases h
  | .retN, C, cur, cu, Wi, X, x, gs, h => by
    simp only [okS] at h
    split at h
    · refine ps_retN.imp fun D σ H ⟨g, M, l, a, p⟩ => ?_
      simp only [evS] at p
      exact p g .non H a.abs Evo.refl rfl
    · cases h
  | .pass, C, cur, cu, Wi, X, x, gs, h => by
    simp only [okS] at h
    split at h
    · refine ps_pass.imp fun D σ H ⟨g, M, l, a, p⟩ => ?_
      simp only [evS] at p
      exact p g σ H a Evo.refl
    · cases h
  | .brk, C, cur, cu, Wi, X, x, gs, h => by
    simp only [okS] at h
    split at h
    · refine ps_break.imp fun D σ H ⟨g, M, l, a, p⟩ => ?_
      simp only [evS] at p
      exact p g σ H a Evo.refl
    · cases h
  | .cont, C, cur, cu, Wi, X, x, gs, h => by
    simp only [okS] at h
    split at h
    · refine ps_continue.imp fun D σ H ⟨g, M, l, a, p⟩ => ?_
      simp only [evS] at p
      exact p g σ H a Evo.refl
    · cases h
  | .setAtt _ _ _, _, _, _, _, _, _, _, h => by simp [okS] at h
  | .raise _ _, _, _, _, _, _, _, _, h => by simp [okS] at h
  | .raiseIn _ _, _, _, _, _, _, _, _, h => by simp [okS] at h
  | .tri _ _, _, _, _, _, _, _, _, h => by simp [okS] at h
theorem okSs_ok : ∀ (ss : List S) {C : Ck} {cur : Option Cur} {cu : Option Cu} {Wi : WX} {X : Cx} {xs : List Stmt}, GS G Γ k cur C cu Wi X → okSs Γ ss C xs = true → PSs X xs (TSof G cu Wi (evSs Γ ss cur))
  | [], C, cur, cu, Wi, X, [], gs, h => by
    refine pss_nil.imp fun D σ H ⟨g, M, l, a, p⟩ => ?_
    simp only [evSs] at p
    exact p g σ H a Evo.refl
  | [], C, cur, cu, Wi, X, _ :: _, gs, h => by simp [okSs] at h
  | s :: ss, C, cur, cu, Wi, X, [], gs, h => by simp [okSs] at h
  | s :: ss, C, cur, cu, Wi, X, x :: xs, gs, h => by
    simp only [okSs, Bool.and_eq_true] at h
    refine (pss_cons (okS_ok s gs h.1) (okSs_ok ss gs h.2)).imp fun D σ H ⟨g, M, l, a, p⟩ => ?_
    simp only [evSs] at p
    refine ⟨g, M, l, a, ?_⟩
    cases hr : evS Γ s cur l M with
    | nx l1 M1 =>
      rw [hr] at p
      exact fun g1 σ1 H1 a1 e1 => ⟨g1, M1, l1, a1, PostS.evo a.abs.len e1 p⟩
    | rt w M1 => rw [hr] at p; exact p
    | bk l1 M1 => rw [hr] at p; exact p
    | ct l1 M1 => rw [hr] at p; exact p
    | exc c ns ws l1 M1 => rw [hr] at p; exact p
    | err => rw [hr] at p; exact p
end
end
end PyI
namespace PyI
open PySem PySem.Spec PyProof.Rows L2
/-! ### a def keeps its promise -/
/-- FnScope, as a check -/
def scopeB (N P : List Str) (sc : Scope) : Bool := decide (sc.kind = .function) && !sc.isCoroutine && !sc.isGenerator && decide N.Nodup && decide (N.take P.length = P) &&
  (P.all fun x => decide (sc.names.lookup x = some .local) || decide (sc.names.lookup x = some .cell)) && (sc.names.all fun y => !decide (y.2 = .free))
theorem scope_of {N P : List Str} {sc : Scope} (h : scopeB N P sc = true) : FnScope N P sc := by
  simp only [scopeB, Bool.and_eq_true, decide_eq_true_eq, List.all_eq_true, Bool.or_eq_true, Bool.not_eq_true', decide_eq_false_iff_not] at h
  obtain ⟨⟨⟨⟨⟨⟨h1, h2⟩, h3⟩, h4⟩, h5⟩, h6⟩, h7⟩ := h
  exact ⟨h1, h2, h3, h4, h5, h6, h7⟩
theorem FnScope.len {N P : List Str} {sc : Scope} (S : FnScope N P sc) : P.length ≤ N.length := by
  have := congrArg List.length S.pre
  rw [List.length_take] at this
  omega
section
variable {G : GE} {Γ : Glo} {P : Program} {w : World} {mg : Str → Option Value} {base : Heap} {k : Nat}
theorem start_lr {g : Gh} {M : Store} {H : Hp} {N : List Str} {ws : List W} {vs : List V} (r : RWs G g M H ws vs) : LR G g M H (ws.map some ++ List.replicate (N.length - ws.length) none) (L2.start N vs) := by
  have hl := r.length
  refine ⟨by simp [L2.start, hl], fun i x q => ?_⟩
  by_cases hi : i < ws.length
  · rw [List.getElem?_append_left (by simpa using hi), List.getElem?_map] at q
    obtain ⟨y, hy, e⟩ := Option.map_eq_some_iff.mp q
    cases e
    obtain ⟨v, h1, h2⟩ := r.get hy
    refine ⟨v, ?_, h2⟩
    unfold L2.start
    rw [List.getElem?_append_left (by simp; omega), List.getElem?_map, h1]; rfl
  · rw [List.getElem?_append_right (by simp; omega)] at q
    rw [List.getElem?_replicate] at q
    split at q <;> cases q
/-- what the check of a def asks -/
def defB (Γ : Glo) (D : Df) (np : Nat) (params : Arguments) (body : List Stmt) (scope : Scope) : Bool :=
  plainP params && decide (parNames params = D.ps) && decide (params.args.length = np) && scopeB D.N D.ps scope && okSs Γ D.body ⟨D.N, scope, none, true⟩ body
theorem def_ok {x qual : Str} {params : Arguments} {body : List Stmt} {scope : Scope} {kws : List (Str × V)} {f : Addr} {fd : FuncData} {D : Df} {np : Nat} (F : FunD G.K x qual params body scope [] kws f fd)
    (T : Tops G Γ P w mg base k) (hb : ∀ x ∈ bltNames, mg x = none) (h : defB Γ D np params body scope = true) : FnP G P w mg base (k + 1) f ⟨D.ps, np, runW Γ D⟩ := by
  simp only [defB, Bool.and_eq_true, decide_eq_true_eq] at h
  obtain ⟨⟨⟨⟨h1, h2⟩, h3⟩, h4⟩, h5⟩ := h
  have S := scope_of h4
  refine ⟨⟨fd, fnG_of F S fun cdv A outer s H vs Q E hr hl hsp => ?_, fun s us ws ks hk hkl hn => ?_⟩, F.kp⟩
  · obtain ⟨g, M, ws, a, r, hlen, p⟩ := hsp
    have gs : GS G Γ k none ⟨D.N, scope, none, true⟩ none (fun cls d _ H => E cls d H) (cxOf (CX P w) P w G.K mg base D.N qual scope f cdv A outer s H E) := by
      refine ⟨⟨⟨rfl, rfl, S.nd, rfl, hb, hr.gd, ?_, fun _ => rfl⟩, T, fun _ => hr, fun x _ => rfl, takes_of rfl rfl rfl rfl, fun _ => rfl, rfl⟩, rfl, S.kind, fun _ => passes_of rfl⟩
      have := hr.room.un
      show (A.deeper _).units + 200 < cLine
      omega
    refine ⟨_, okSs_ok D.body gs h5, g, M, ws.map some ++ List.replicate (D.N.length - ws.length) none, ⟨a, start_lr r, fun c q => by cases q⟩, ?_⟩
    have p : PostF G g M H (runW Γ D ws M) Q E := p
    unfold runW at p
    rw [if_pos hlen] at p
    cases hr : evSs Γ D.body none (ws.map some ++ List.replicate (D.N.length - ws.length) none) M with
    | nx l1 M1 => rw [hr] at p; exact fun g' σ' H' a' e' => p g' .non H' a'.abs e' rfl
    | rt v M1 => rw [hr] at p; exact fun g' v H' a' e' rv => p g' v H' a' e' rv
    | bk l1 M1 => rw [hr] at p; exact p.elim
    | ct l1 M1 => rw [hr] at p; exact p.elim
    | exc c ns us l1 M1 => rw [hr] at p; exact fun g' σ' cls d H' a' e' x => p g' cls d H' a'.abs e' x
    | err => rw [hr] at p; exact p.elim
  · obtain ⟨oc, od, dV, kV, doc, pm, an, cdv, ct, osl, rfl, lk, hcd, hD, hK⟩ := F.ex
    have hd : dV = .none := by
      rcases hD with ⟨_, e⟩ | ⟨e, _⟩
      · exact e
      · exact absurd rfl e
    subst hd
    rw [← h2, ← h3] at hk
    rw [← h2] at hn
    have := bind_zip (fd := PySem.W.fnOf x qual params body scope .none kV doc pm an cdv ct) h1 rfl hk hkl hn
    rw [h2] at this
    exact BindsTo.of_eq this
end

/-! ### the law -/
theorem law_callG {P : Program} {w : World} {G : GE} {mg mb : Str → Option Value} {k : Nat} {fa a : Addr} {fi : FnI} {x : Str} {s₁ : Shared} {vs : List Value} {ns : List Int} {M' : Store}
    (KX : G.K.In s₁.heap) (hns : s₁.heap.Ns mainGlobals mg) (hb : s₁.heap.Ns builtinsNs mb) (hbb : ∀ x : Str, x ≠ "__name__" → mb x = bootBuiltins x) (hlim : s₁.heap.NoLimit) (hg : s₁.gens = #[])
    (ha : s₁.heap.get? a = some { cls := .type "list", data := .seq vs.toArray }) (hi : IntsAre vs ns) (hl : ns.length ≤ sizeLine) (hr : Room k callerA)
    (F : ∀ base : Heap, G.K.In base → base.Ns mainGlobals mg → FnP G P w mg base k fa fi) (hps : fi.ps = [x]) (hnp : fi.np = 1) (hsem : fi.sem [.scr ns] [] = .ok (.bl true) M') :
    codeAny (model P w) callerA (.call (.ref fa) ⟨[.ref a], []⟩) (fun r s' => r = .ok (.ret (.bool true)) ∧ OldK s₁.heap s'.heap ∧ s'.os = s₁.os ∧ AllBare s'.gens) s₁ := by
  have rv := vals_ints hi
  have lenV := hi.length
  have core : ∀ H : Hp, Only H → SqL G.K H a (ns.map V.int) → HOk P w H s₁.heap → (∀ b, H b ≠ none → b = a) → (H a ≠ none → G.K.lookup a = none) →
      codeAny (model P w) callerA (.call (.ref fa) ⟨[.ref a], []⟩) (fun r s' => r = .ok (.ret (.bool true)) ∧ OldK s₁.heap s'.heap ∧ s'.os = s₁.os ∧ AllBare s'.gens) s₁ := by
    intro H hO hS hok hA hK
    have base_of : ∀ {b : Addr} {o : Obj}, s₁.heap.get? b = some o → H b = none → (hidT s₁.heap H).get? b = some o := fun e n => hidT_get e n
    have noA : ∀ {b : Addr} {o : Obj} {es : Array DictEntry} {ep : Nat}, s₁.heap.get? b = some o → o.data = .dict es ep → H b = none := fun {b o es ep} e d => by
      cases q : H b with
      | none => rfl
      | some u =>
        have e' : b = a := hA b (by rw [q]; simp)
        subst e'
        rw [ha] at e; cases e
        have d' : Data.seq vs.toArray _ = Data.dict es ep := d
        cases d'
    have nsK : ∀ {b : Addr} {m : Str → Option Value}, s₁.heap.Ns b m → (hidT s₁.heap H).Ns b m := fun {b m} ⟨o, es, ep, e, d, r⟩ => ⟨o, es, ep, base_of e (noA e d), d, r⟩
    have hKb : G.K.In (hidT s₁.heap H) := fun b o e => base_of (KX b o e) (by
      cases q : H b with
      | none => rfl
      | some u =>
        have e' : b = a := hA b (by rw [q]; simp)
        subst e'
        rw [hK (by rw [q]; simp)] at e; cases e)
    have hM : Mod G.K mg (hidT s₁.heap H) := ⟨hKb, nsK hns, ⟨mb, nsK hb, hbb⟩, let ⟨mc, h1, h2⟩ := hlim; ⟨mc, nsK h1, h2⟩⟩
    have e0 : Env0 P w G.K mg (hidT s₁.heap H) callerA [] s₁ H := ⟨rfl, hM, fun b o e => of_hidT e, Nat.le_of_eq (hidT_size _ _), trivial, fun b hb => absurd (show b ∈ ([] : List Addr) from hb) (by simp), hok, .of_eq hg⟩
    obtain ⟨fd, F1, F2⟩ := (F _ hKb (nsK hns)).ex
    have hps1 : fi.ps.length = 1 := by rw [hps]; rfl
    have bnd : BindsTo s₁ fd ⟨[.ref a], []⟩ (fi.ps.zip [.ref a]) := by
      have := F2 s₁ [.ref a] [] [] (kwFit_nil (by rw [hps, hnp]; exact Nat.le_refl _) (by rw [hps]; simp) (by rw [hps1]; rfl)) rfl (by rw [hps1]; rfl)
      exact this
    have hsp : spOf G fi.ps.length fi.sem [.ref a] H (fun v _ => v = .bl true) (fun _ _ _ => False) := by
      refine ⟨⟨[], []⟩, [], [.scr ns], ⟨rfl, by simp, by simp, by simp, by simp⟩, ⟨.ref a, [], rfl, ⟨a, rfl, ?_⟩, rfl⟩, by rw [hps1]; rfl, ?_⟩
      · rcases hS with h | h
        · exact .inl ⟨h, by simp, fun i c h1 => by simp at h1⟩
        · exact .inr h
      · rw [hsem]
        exact fun g' v H' _ _ rv => rv
    refine codeAny_mono (F1.run callerA [] s₁ H ⟨[.ref a], []⟩ [.ref a] [.ref a] _ _ ⟨hr, rfl⟩ e0 (by rw [hps1]; rfl) bnd (.cons rfl .nil) hsp) fun r s' h => ?_
    cases r with
    | error e =>
      obtain ⟨_, _, _, _, _, _, _, _, _, _, _, _, h⟩ := h
      exact h.elim
    | ok fl =>
      cases fl with
      | next => exact False.elim h
      | brk => exact False.elim h
      | cont => exact False.elim h
      | ret u =>
        obtain ⟨v, H', os, bare, un, hok', r', q⟩ := h
        have q' : v = .bl true := q
        subst q'
        obtain rfl : u = Value.bool true := r'
        refine ⟨rfl, OldK.of_keep fun b o e => ?_, os, bare⟩
        cases q : H b with
        | none => exact un.keep b o e q (by intro z; exact absurd (show b ∈ ([] : List Addr) from z) (by simp)) (by simp)
        | some u =>
          rcases hO b with z | ⟨ob, xs, z⟩
          · rw [q] at z; cases z
          · have z2 := un.frzs b ob _ z
            obtain ⟨e1, _⟩ := hok b _ z
            obtain ⟨e2, _⟩ := hok' b _ z2
            rw [e] at e1; cases e1
            exact e2
  cases hk : G.K.lookup a with
  | some o =>
    have e := KX a o hk
    rw [ha] at e
    cases e
    refine core (fun _ => none) (fun _ => .inl rfl) (.inr ⟨_, vs.toArray, _, hk, rfl, rfl, rfl, by rw [List.size_toArray, lenV]; exact hl, by simpa using rv⟩) (fun b u z => by have z' : (none : Option HO) = some u := z; cases z') (fun b z => absurd rfl z) fun z => absurd rfl z
  | none =>
    refine core (fun b => if b = a then some (.frz { cls := .type "list", data := .seq vs.toArray } (.lst (ns.map V.int))) else none) (fun b => ?_) (.inl (.inr ⟨{ cls := .type "list", data := .seq vs.toArray }, if_pos rfl⟩)) (fun b u z => ?_) (fun b z => ?_) fun _ => hk
    · by_cases hb : b = a
      · exact .inr ⟨_, _, if_pos hb⟩
      · exact .inl (if_neg hb)
    · by_cases hb : b = a
      · have z' := (if_pos hb).symm.trans z
        cases z'
        subst hb
        exact ⟨ha, by rw [List.length_map]; exact hl, vs, _, rv, ha⟩
      · have z' := (if_neg hb).symm.trans z
        cases z'
    · by_cases hb : b = a
      · exact hb
      · exact absurd (if_neg hb) z
theorem walk_G {l : PySem.W.OpenLaw} {n k : Nat} {q : Program} {loose : List Str} {XP : (Str → Option Value) → Heap → Prop} {YP : World → Heap → Prop} {d : DefRec} {x : Str}
    (hn : l.most = some n) (hn2 : n ≤ sizeLine) (hdf : d.params.defaults = []) (hr : Room k callerA)
    (F : ∀ (w : World) (mg : Str → Option Value) (fa : Addr) (h : Heap), YP w h → h.Ns mainGlobals mg → mg d.name = some (.ref fa) →
      ∃ (G : GE) (fi : FnI), G.K.In h ∧ fi.ps = [x] ∧ fi.np = 1 ∧ (∀ ns : List Int, ns.length ≤ n → ∃ M', fi.sem [.scr ns] [] = .ok (.bl true) M') ∧
        ∀ base : Heap, G.K.In base → base.Ns mainGlobals mg → FnP G l.prog w mg base k fa fi) :
    PySem.W.WalkO q loose XP YP l.row.toRowW d [] (fun f vs => PySem.call f vs) := by
  refine Att.attach_call hn hdf fun w s₀ s₁ mg mb fa o pm cd doc a vs ns Gt Y ho hd hcd hmg hobj hints hlen hg => ?_
  obtain ⟨G, fi, KX, hps, hnp, hsem, hF⟩ := F w mg fa _ Y Gt.T.g hmg
  obtain ⟨M', hM⟩ := hsem ns hlen
  exact law_callG KX Gt.T.g Gt.T.b Gt.T.builtins Gt.T.nolimit hg hobj hints (Nat.le_trans hlen hn2) hr hF hps hnp hM
end PyI
namespace PyI
open PySem PySem.Spec PyProof.Rows L2
/-- a text's global names: its defs, its constants -/
def mkGlo (fns : List (Str × FnI)) (cons : List (Str × W)) : Glo where
  fn := fun x => fns.lookup x
  mt := fun _ _ => none
  con := fun x => cons.lookup x
  pl := fun _ => false
  att := fun _ _ => none
  exc := fun _ => none
  kin := fun _ _ => false
theorem mem_of_lookup {α : Type} {x : Str} {y : α} : ∀ {l : List (Str × α)}, l.lookup x = some y → (x, y) ∈ l
  | [], h => by cases h
  | q :: l, h => by
    rw [List.lookup_cons] at h
    split at h
    · rename_i e
      have : x = q.1 := by simpa using e
      cases h
      rw [this]; exact List.mem_cons_self ..
    · exact List.mem_cons_of_mem _ (mem_of_lookup h)
section
variable {G : GE} {P : Program} {w : World} {mg : Str → Option Value} {base : Heap} {k : Nat}
/-- one def's promise, by name -/
def FnAt (G : GE) (P : Program) (w : World) (mg : Str → Option Value) (base : Heap) (k : Nat) (q : Str × FnI) : Prop := ∃ f, mg q.1 = some (.ref f) ∧ FnP G P w mg base k f q.2
def ConAt (mg : Str → Option Value) (q : Str × W) : Prop := match q.2 with
  | .int i => ∃ t, mg q.1 = some (.int i t)
  | .str x => ∃ t, mg q.1 = some (.str x t)
  | _ => False
theorem tops_mk {fns : List (Str × FnI)} {cons : List (Str × W)} (hf : ∀ q ∈ fns, FnAt G P w mg base k q) (hc : ∀ q ∈ cons, ConAt mg q) : Tops G (mkGlo fns cons) P w mg base k := by
  refine ⟨fun x c h => ?_, fun x fi h => hf _ (mem_of_lookup h), fun c fi h => (by cases h), fun c h => (by cases h), fun c m fi h => (by cases h)⟩
  have := hc _ (mem_of_lookup h)
  unfold ConAt at this
  dsimp only at this
  split at this
  · obtain ⟨t, e⟩ := this
    exact ⟨_, .int _, e, ⟨t, rfl⟩, fun _ _ _ => rfl⟩
  · obtain ⟨t, e⟩ := this
    exact ⟨_, .str _, e, ⟨t, rfl⟩, fun _ _ _ => rfl⟩
  · exact this.elim
theorem FnAt.mono {j : Nat} {q : Str × FnI} (h : FnAt G P w mg base j q) (hj : j ≤ k) : FnAt G P w mg base k q := let ⟨f, a, b⟩ := h; ⟨f, a, b.mono hj⟩
/-- a def of the top -/
theorem at_ok {x : Str} {params : Arguments} {body : List Stmt} {scope : Scope} {kws : List (Str × V)} {f : Addr} {D : Df} {np : Nat} {fns : List (Str × FnI)} {cons : List (Str × W)} (hF : ∃ fd, FunD G.K x x params body scope [] kws f fd)
    (hm : mg x = some (.ref f)) (hf : ∀ q ∈ fns, FnAt G P w mg base k q) (hc : ∀ q ∈ cons, ConAt mg q) (hb : ∀ x ∈ bltNames, mg x = none) (h : defB (mkGlo fns cons) D np params body scope = true) : FnAt G P w mg base (k + 1) (x, ⟨D.ps, np, runW (mkGlo fns cons) D⟩) :=
  let ⟨_, F⟩ := hF
  ⟨f, hm, def_ok F (tops_mk hf hc) hb h⟩
end
/-! ### the row's text -/
def topOf (p : Program) (i : Nat) : Stmt := p.main.body.getD i (.Pass ⟨0, 0, 0, 0⟩)
def dOf (p : Program) (x : Str) (i : Nat) : He.DefD := ⟨(x, none), x, x, C8.fnArgs (topOf p i), C8.fnBody (topOf p i), C8.fnScope (topOf p i), [], []⟩
end PyI
namespace PyI
open PySem PySem.Spec PyProof.Rows L2
/-! ### reading the evaluator: calls, loops -/
/-- values without references -/
def flatW (vs : List W) : Bool := vs.all fun v => pureW v
theorem flat_refs : ∀ {vs : List W}, flatW vs = true → refsOf vs = [] ∧ (∀ k, renum k vs = vs) ∧ (vs.all fun v => isRef v || pureW v) = true
  | [], _ => ⟨rfl, fun _ => rfl, rfl⟩
  | v :: vs, h => by
    simp only [flatW, List.all_cons, Bool.and_eq_true] at h
    obtain ⟨h1, h2, h3⟩ := flat_refs (vs := vs) h.2
    have hr : isRef v = false := by cases v <;> first | rfl | (exact absurd h.1 (by simp [pureW]))
    refine ⟨?_, fun k => ?_, by rw [List.all_cons, h3, h.1]; simp⟩
    · cases v <;> first | exact h1 | cases hr
    · cases v <;> first | (cases hr; done) | (show _ :: renum k vs = _; rw [h2])
/-- a call without references, that makes no cell -/
theorem call_flat {f : List W → Store → Res W} {fz : Bool} {vs : List W} {w : W} (M : Store) {Mx : Store} (h : flatW vs = true) (hw : pureW w = true) (hf : f vs [] = .ok w Mx) : callW f fz vs M = .ok w M := by
  obtain ⟨h1, h2, h3⟩ := flat_refs h
  unfold callW
  simp only [h1, h2, List.mapM_nil, Option.pure_def, need, hf]
  rw [if_pos ⟨by simp, by simp, h3⟩]
  simp only [List.length_nil, List.take_zero, List.all_nil, Nat.zero_le, and_self, if_true]
  unfold takeW
  rw [if_pos hw]
  rfl
/-- a call without references, its answer a new cell -/
theorem call_new {f : List W → Store → Res W} {vs : List W} (M : Store) {Mx : Store} {j : Nat} {c : Cell} (h : flatW vs = true) (hf : f vs [] = .ok (.ref j) Mx) (hj : Mx[j]? = some c) (hc : pureC c = true) : callW f false vs M = .ok (.ref M.length) (M ++ [c]) := by
  obtain ⟨h1, h2, h3⟩ := flat_refs h
  unfold callW
  simp only [h1, h2, List.mapM_nil, Option.pure_def, need, hf]
  rw [if_pos ⟨by simp, by simp, h3⟩]
  simp only [List.length_nil, List.take_zero, List.all_nil, Nat.zero_le, and_self, if_true]
  unfold takeW
  rw [if_neg (by simp [pureW])]
  simp only [Bool.false_eq_true, if_false, List.getElem?_nil, hj, need, hc, if_true, putBack]
/-- a call on one cell -/
theorem call_ref {f : List W → Store → Res W} {fz : Bool} {n : Nat} {vs : List W} {w : W} {M : Store} {c c' : Cell} {Mx : Store} (h : flatW vs = true) (hn : M[n]? = some c) (hc : pureC c = true) (hc' : pureC c' = true) (hw : pureW w = true) (hf : f (.ref 0 :: vs) [c] = .ok w (c' :: Mx)) :
    callW f fz (.ref n :: vs) M = .ok w (M.set n c') := by
  obtain ⟨h1, h2, h3⟩ := flat_refs h
  unfold callW
  simp only [refsOf, renum, h1, h2, List.mapM_cons, List.mapM_nil, Option.pure_def, Option.bind_eq_bind, hn, Option.bind_some, need, hf]
  rw [if_pos ⟨by simp, by simp [hc], by rw [List.all_cons, h3]; rfl⟩]
  simp only [List.length_cons, List.length_nil, Nat.zero_add, List.take_succ_cons, List.take_zero, List.all_cons, hc', List.all_nil, Bool.and_true, Nat.le_add_left, and_self, if_true]
  unfold takeW
  rw [if_pos hw]
  rfl
open Classical in
theorem lcW_nil {tg : W → Option LM} {cond : LM → Store → Res Bool} {elt : LM → Store → Res W} {still : Store → Prop} {M : Store} : lcW tg cond elt still [] M = .ok [] M := rfl
open Classical in
/-- turns that keep the store -/
theorem lcW_map {tg : W → Option LM} {cond : LM → Store → Res Bool} {elt : LM → Store → Res W} {still : Store → Prop} {M : Store} {f : W → W} (hs : still M) : ∀ {items : List W}, (∀ x ∈ items, ∃ l, tg x = some l ∧ cond l M = .ok true M ∧ elt l M = .ok (f x) M) → lcW tg cond elt still items M = .ok (items.map f) M
  | [], _ => rfl
  | x :: xs, h => by
    obtain ⟨l, h1, h2, h3⟩ := h x (by simp)
    unfold lcW
    have ih := lcW_map (items := xs) hs fun y hy => h y (List.mem_cons_of_mem _ hy)
    simp only [h1, need, h2, Res.bind, if_true, h3, if_pos hs, ih, List.map_cons]
open Classical in
/-- turns by an invariant of the store -/
theorem lcW_inv {tg : W → Option LM} {cond : LM → Store → Res Bool} {elt : LM → Store → Res W} {still : Store → Prop} (P : Store → Prop) (R : W → Prop) : ∀ {items : List W} {M : Store}, P M → (∀ x ∈ items, ∀ M, P M → ∃ l y M', tg x = some l ∧ cond l M = .ok true M ∧ elt l M = .ok y M' ∧ P M' ∧ still M' ∧ R y) →
    ∃ ys M', lcW tg cond elt still items M = .ok ys M' ∧ P M' ∧ ys.length = items.length ∧ ∀ y ∈ ys, R y
  | [], M, hP, _ => ⟨[], M, rfl, hP, rfl, by simp⟩
  | x :: xs, M, hP, h => by
    obtain ⟨l, y, M', h1, h2, h3, h4, h5, h6⟩ := h x (by simp) M hP
    obtain ⟨ys, M2, k1, k2, k3, k4⟩ := lcW_inv P R (items := xs) h4 fun z hz => h z (by simp [hz])
    refine ⟨y :: ys, M2, ?_, k2, by simp [k3], fun z hz => ?_⟩
    · unfold lcW
      simp only [h1, need, h2, Res.bind, if_true, h3, if_pos h5, k1]
    · rcases List.mem_cons.mp hz with e | e
      · rw [e]; exact h6
      · exact k4 z e
open Classical in
/-- a loop by an invariant: no turn leaves it -/
theorem forW_inv {tg : W → LM → Option LM} {body : LM → Store → SR} {still : Store → Prop} (P : LM → Store → Prop) : ∀ {items : List W} {l : LM} {M : Store}, P l M → (∀ x ∈ items, ∀ l M, P l M → ∃ l1 l2 M2, tg x l = some l1 ∧ body l1 M = .nx l2 M2 ∧ P l2 M2 ∧ still M2) →
    ∃ l' M', forW tg body still items l M = .nx l' M' ∧ P l' M'
  | [], l, M, hP, _ => ⟨l, M, rfl, hP⟩
  | x :: xs, l, M, hP, h => by
    obtain ⟨l1, l2, M2, h1, h2, h3, h4⟩ := h x (by simp) l M hP
    obtain ⟨l', M', k1, k2⟩ := forW_inv P (items := xs) h3 fun z hz => h z (by simp [hz])
    refine ⟨l', M', ?_, k2⟩
    unfold forW
    simp only [h1, needS, h2, if_pos h4, k1]
open Classical in
theorem evLc_map {fz : Bool} {own : List (Str × Nat)} {k : Itk} {src : List Sm} {t : Tg} {cond : List Sm} {elt : Sm} {l : LM} {M : Store} {vs items : List W} (f : W → W) (h1 : evEs src l M = .ok vs M) (h2 : itemsW k vs M = some items) (hl : items.length ≤ sizeLine)
    (h : ∀ x ∈ items, ∃ l', tgW t x (wipeW l (own.map (·.2))) = some l' ∧ evAndT cond l' M = .ok true M ∧ elt.v l' M = .ok (f x) M) : evLc fz own k src t cond elt l M = newL fz (items.map f) M := by
  have e := lcW_map (tg := fun x => tgW t x (wipeW l (own.map (·.2)))) (cond := evAndT cond) (elt := elt.v) (still := Still k vs items) (M := M) (f := f) h2 h
  unfold evLc
  simp only [h1, Res.bind, h2, need, e, Res.calm, List.length_map, if_pos hl]
open Classical in
theorem evLc_inv {fz : Bool} {own : List (Str × Nat)} {k : Itk} {src : List Sm} {t : Tg} {cond : List Sm} {elt : Sm} {l : LM} {M M1 : Store} {vs items : List W} (P : Store → Prop) (R : W → Prop) (h1 : evEs src l M = .ok vs M1) (h2 : itemsW k vs M1 = some items) (hl : items.length ≤ sizeLine) (hP : P M1)
    (h : ∀ x ∈ items, ∀ M, P M → ∃ l' y M', tgW t x (wipeW l (own.map (·.2))) = some l' ∧ evAndT cond l' M = .ok true M ∧ elt.v l' M = .ok y M' ∧ P M' ∧ itemsW k vs M' = some items ∧ R y) :
    ∃ ys M', evLc fz own k src t cond elt l M = newL fz ys M' ∧ P M' ∧ ys.length = items.length ∧ ∀ y ∈ ys, R y := by
  obtain ⟨ys, M', e1, e2, e3, e4⟩ := lcW_inv (tg := fun x => tgW t x (wipeW l (own.map (·.2)))) (cond := evAndT cond) (elt := elt.v) (still := Still k vs items) P R hP h
  refine ⟨ys, M', ?_, e2, e3, e4⟩
  unfold evLc
  simp only [h1, Res.bind, h2, need, e1, Res.calm]
  rw [if_pos (by rw [e3]; exact hl)]
theorem sm_v {v : LM → Store → Res W} : (Sm.of v).v = v := rfl
theorem sm_t {v : LM → Store → Res W} : (Sm.of v).t = dflT v := rfl
theorem ask_str : List.lookup ("str" : Str) askTys = some "str" := by rfl
theorem ask_int : List.lookup ("int" : Str) askTys = some "int" := by rfl
theorem ask_tuple : List.lookup ("tuple" : Str) askTys = some "tuple" := by rfl
theorem ask_list : List.lookup ("list" : Str) askTys = some "list" := by rfl
theorem ask_dict : List.lookup ("dict" : Str) askTys = some "dict" := by rfl
theorem ask_bool : List.lookup ("bool" : Str) askTys = some "bool" := by rfl
theorem evlc_v {Γ : Glo} {cur : Option Cur} {fz : Bool} {own : List (Str × Nat)} {k : Itk} {src cond : List E} {t : Tg} {elt : E} {l : LM} {M : Store} : (ev Γ cur (.lc fz own k src t cond elt)).v l M = evLc fz own k (evL Γ cur src) t (evL Γ cur cond) (ev Γ cur elt) l M := by
  simp only [ev]; rfl
theorem evlc_t {Γ : Glo} {cur : Option Cur} {fz : Bool} {own : List (Str × Nat)} {k : Itk} {src cond : List E} {t : Tg} {elt : E} {l : LM} {M : Store} : (ev Γ cur (.lc fz own k src t cond elt)).t l M = dflT (evLc fz own k (evL Γ cur src) t (evL Γ cur cond) (ev Γ cur elt)) l M := by
  simp only [ev]; rfl
/-- an item by a place from the front -/
theorem atI_nat {α : Type} {xs : List α} {i : Int} (h0 : 0 ≤ i) (h1 : i < xs.length) : ∃ x, x ∈ xs ∧ xs[i.toNat]? = some x ∧ atI xs i = some x := by
  have hi : i.toNat < xs.length := by omega
  refine ⟨xs[i.toNat], List.getElem_mem hi, List.getElem?_eq_getElem hi, ?_⟩
  unfold atI ixN
  rw [if_pos h0, if_pos h1]
  exact List.getElem?_eq_getElem hi
open Classical in
theorem evS_for {Γ : Glo} {cur : Option Cur} {k : Itk} {src : List E} {t : Tg} {body : List S} {l : LM} {M M1 : Store} {vs items : List W} (P : LM → Store → Prop) (h1 : evEs (evL Γ cur src) l M = .ok vs M1) (h2 : itemsW k vs M1 = some items) (hP : P l M1)
    (h : ∀ x ∈ items, ∀ l M, P l M → ∃ l1 l2 M2, tgW t x l = some l1 ∧ evSs Γ body cur l1 M = .nx l2 M2 ∧ P l2 M2 ∧ itemsW k vs M2 = some items) : ∃ l' M', evS Γ (.for k src t body) cur l M = .nx l' M' ∧ P l' M' := by
  obtain ⟨l', M', e1, e2⟩ := forW_inv (tg := tgW t) (body := evSs Γ body cur) (still := Still k vs items) P hP h
  refine ⟨l', M', ?_, e2⟩
  simp only [evS, h1, Res.thenS, h2, needS]
  exact e1
theorem evSs_cons {Γ : Glo} {cur : Option Cur} {s : S} {ss : List S} {l l1 : LM} {M M1 : Store} (h : evS Γ s cur l M = .nx l1 M1) : evSs Γ (s :: ss) cur l M = evSs Γ ss cur l1 M1 := by
  simp only [evSs, h]
theorem rng_items {j : Int} {M : Store} (h0 : 0 ≤ j) (h : j ≤ 1000000) : itemsW .range [.int j] M = some ((List.range j.toNat).map fun (i : Nat) => W.int (i : Int)) := by
  show (if _ then _ else _) = _
  rw [if_pos (by omega)]
theorem bindW_nil {α : Type} {ps : List Str} {as : List α} : bindW ps [] as = as := rfl
/-- texts compared -/
def eqS (a b : Str) : Option Bool := if SeqAt.shaped (.str a) && SeqAt.shaped (.str b) then some (PyData.eqv (.str a) (.str b)) else none
theorem eqW_str {M : Store} {a b : Str} : eqW M (.str a) (.str b) = eqS a b := rfl
end PyI
/-! ### the law's text -/
namespace PyL
open PySem PySem.Spec PyProof.Rows L2 PyI
/-- is_name -/
def e1_is_name : E := .prm (.cmp .In) [.var 1, .glo "LETTERS"]
def L2_is_name : E := .lc true [("letter", 1)] .seq [.var 0] (.nm 1) [] e1_is_name
def B_is_name : List S := [
  .ife (.or [.not (.isi true [("str", false)] (.var 0)), .not (.chain .LtE .LtE (.con (.int 1)) (.prm (.blt .len true) [.var 0]) (.glo "MOST_LETTERS"))]) [
    .ret (.con (.bl false))] [],
  .ret (.prm (.blt .all true) [L2_is_name])]
def D_is_name : Df := ⟨["thing"], ["thing", "letter"], B_is_name⟩
noncomputable def Y_is_name : Glo := mkGlo [] [("MOST_LETTERS", .int 8), ("LETTERS", .str "abcdefghijklmnopqrstuvwxyz")]
noncomputable def F_is_name : FnI := ⟨["thing"], 1, runW Y_is_name D_is_name⟩
/-- _law_pot -/
def B_law_pot : List S := [
  .asg (.nm 2) (.ife (.prm (.cmp .Lt) [.var 1, .prm (.blt .len true) [.var 0]]) (.prm .idx [.var 0, .var 1]) (.con (.int 0))),
  .ret (.prm (.lst false) [.prm (.blt .max true) [.con (.int 0), .prm (.bin .Sub true) [.prm (.blt .abs true) [.var 2], .prm (.bin .Pow true) [.con (.int 10), .con (.int 18)]]], .prm (.bin .Mod true) [.prm (.bin .Add true) [.prm (.bin .Add true) [.prm (.bin .Mult true) [.prm (.bin .Mod true) [.prm (.blt .abs true) [.var 2], .con (.int 2147483587)], .con (.int 48271)], .prm (.bin .Mult true) [.con (.int 60013), .var 1]], .con (.int 29)], .con (.int 2147483647)]])]
def D_law_pot : Df := ⟨["_law_script", "_law_k"], ["_law_script", "_law_k", "_law_digits"], B_law_pot⟩
noncomputable def Y_law_pot : Glo := mkGlo [] []
noncomputable def F_law_pot : FnI := ⟨["_law_script", "_law_k"], 2, runW Y_law_pot D_law_pot⟩
/-- _law_draw -/
def B_law_draw : List S := [
  .ife (.prm (.cmp .Gt) [.prm .idx [.var 0, .con (.int 0)], .con (.int 0)]) [
    .subNm (.var 0) (.con (.int 0)) 2 (.prm (.blt .divmod true) [.prm .idx [.var 0, .con (.int 0)], .var 1]),
    .ret (.var 2)] [],
  .setSub (.var 0) (.con (.int 1)) (.prm (.bin .Mod true) [.prm (.bin .Add true) [.prm (.bin .Mult true) [.prm .idx [.var 0, .con (.int 1)], .con (.int 39373)], .con (.int 12227)], .con (.int 2147483629)]),
  .ret (.prm (.bin .Mod true) [.prm (.bin .FloorDiv true) [.prm (.bin .Mod true) [.prm (.bin .Mult true) [.prm .idx [.var 0, .con (.int 1)], .prm .idx [.var 0, .con (.int 1)]], .con (.int 2147483563)], .con (.int 13)], .var 1])]
def D_law_draw : Df := ⟨["_law_pot_here", "_law_many"], ["_law_pot_here", "_law_many", "_law_digit"], B_law_draw⟩
noncomputable def Y_law_draw : Glo := mkGlo [] []
noncomputable def F_law_draw : FnI := ⟨["_law_pot_here", "_law_many"], 2, runW Y_law_draw D_law_draw⟩
/-- _law_any_thing -/
def B_law_any_thing : List S := [
  .asg (.nm 1) (.prm (.bin .Add true) [.prm (.bin .Pow true) [.con (.int 10), .con (.int 20)], .call "_law_draw" true [.var 0, .prm (.bin .Pow true) [.con (.int 10), .con (.int 9)]] []]),
  .asg (.nm 2) (.prm (.lst true) [.con .non, .con (.bl true), .con (.bl false), .prm .neg [.con (.int 1)], .con (.int 0), .con (.int 1), .var 1, .prm .neg [.var 1], .con (.str ""), .con (.str "A"), .con (.str "a b"), .con (.str "ninesigns"), .prm .tup [], .prm (.lst true) [], .prm (.dsp true []) [], .prm (.lst true) [.con (.int 0)], .prm .tup [.con (.int 1)], .prm (.dsp true [.inl 1]) [.con (.int 2)], .prm .tup [.con (.str "a")]]),
  .ret (.prm .idx [.var 2, .call "_law_draw" true [.var 0, .prm (.blt .len true) [.var 2]] []])]
def D_law_any_thing : Df := ⟨["_law_pot_here"], ["_law_pot_here", "_law_far", "_law_some"], B_law_any_thing⟩
noncomputable def Y_law_any_thing : Glo := mkGlo [("_law_draw", F_law_draw)] []
noncomputable def F_law_any_thing : FnI := ⟨["_law_pot_here"], 1, runW Y_law_any_thing D_law_any_thing⟩
/-- _law_is_word -/
def e1_law_is_word : E := .prm (.cmp .In) [.var 1, .con (.str "abcdefghijklmnopqrstuvwxyz")]
def L2_law_is_word : E := .lc true [("_law_sign", 1)] .seq [.var 0] (.nm 1) [] e1_law_is_word
def B_law_is_word : List S := [
  .ife (.or [.not (.isi true [("str", false)] (.var 0)), .not (.chain .LtE .LtE (.con (.int 1)) (.prm (.blt .len true) [.var 0]) (.con (.int 8)))]) [
    .ret (.con (.bl false))] [],
  .ret (.prm (.blt .all true) [L2_law_is_word])]
def D_law_is_word : Df := ⟨["_law_item"], ["_law_item", "_law_sign"], B_law_is_word⟩
noncomputable def Y_law_is_word : Glo := mkGlo [] []
noncomputable def F_law_is_word : FnI := ⟨["_law_item"], 1, runW Y_law_is_word D_law_is_word⟩
/-- _law_thing -/
def e1_law_thing : E := .prm .idx [.var 1, .call "_law_draw" true [.var 0, .con (.int 26)] []]
def L2_law_thing : E := .lc true [("_law_k", 5)] .range [.call "_law_draw" true [.var 0, .con (.int 11)] []] (.nm 5) [] e1_law_thing
def B_law_thing : List S := [
  .asg (.nm 1) (.con (.str "abcdefghijklmnopqrstuvwxyz")),
  .asg (.nm 2) (.mth .join true (.con (.str "")) [L2_law_thing]),
  .par [3, 4] [.call "_law_draw" true [.var 0, .prm (.bin .Add true) [.prm (.blt .len true) [.var 2], .con (.int 1)]] [], .prm .idx [.con (.str "AZ09 _-,'\n.:|"), .call "_law_draw" true [.var 0, .con (.int 13)] []]],
  .ret (.prm .idx [.prm (.lst true) [.var 2, .prm (.bin .Add true) [.prm (.bin .Add true) [.prm (.slc false true true) [.var 2, .var 3], .var 4], .prm (.slc true false true) [.var 2, .var 3]], .call "_law_any_thing" true [.var 0] []], .call "_law_draw" true [.var 0, .con (.int 3)] []])]
def D_law_thing : Df := ⟨["_law_pot_here"], ["_law_pot_here", "_law_letters", "_law_word", "_law_at", "_law_odd", "_law_k"], B_law_thing⟩
noncomputable def Y_law_thing : Glo := mkGlo [("_law_draw", F_law_draw), ("_law_any_thing", F_law_any_thing)] []
noncomputable def F_law_thing : FnI := ⟨["_law_pot_here"], 1, runW Y_law_thing D_law_thing⟩
/-- law -/
def X1_law : List S := [
  .asg (.nm 5) (.call "_law_thing" true [.var 3] []),
  .asg (.nm 6) (.call "_law_is_word" true [.var 5] []),
  .ife (.prm (.cmp .NotEq) [.prm (.blt .repr true) [.prm (.lst true) [.call "is_name" true [.var 5] [], .call "is_name" true [.var 5] ["thing"], .call "is_name" true [.prm (.lst true) [.var 5]] []]], .prm (.blt .repr true) [.prm (.lst true) [.var 6, .var 6, .con (.bl false)]]]) [
    .ret (.con (.bl false))] []]
def X2_law : List S := [
  .asg (.nm 3) (.call "_law_pot" false [.var 0, .var 1] []),
  .for .range [.con (.int 8)] (.nm 4) X1_law]
def e3_law : E := .call "is_name" true [.var 7] []
def L4_law : E := .lc true [("_law_word", 7)] .seq [.var 2] (.nm 7) [] e3_law
def B_law : List S := [
  .for .range [.prm (.blt .max true) [.con (.int 1), .prm (.blt .min true) [.con (.int 8), .prm (.blt .len true) [.var 0]]]] (.nm 1) X2_law,
  .asg (.nm 2) (.prm (.lst true) [.con (.str "a"), .con (.str "z"), .con (.str "abcdefgh"), .con (.str "abcdefghi"), .con (.str ""), .con (.str "aA"), .con (.str "a a")]),
  .ret (.prm (.cmp .Eq) [L4_law, .prm (.lst true) [.con (.bl true), .con (.bl true), .con (.bl true), .con (.bl false), .con (.bl false), .con (.bl false), .con (.bl false)]])]
def D_law : Df := ⟨["_law_script"], ["_law_script", "_law_k", "_law_edges", "_law_pot_here", "_law_turn", "_law_item", "_law_due", "_law_word"], B_law⟩
noncomputable def Y_law : Glo := mkGlo [("_law_pot", F_law_pot), ("_law_thing", F_law_thing), ("_law_is_word", F_law_is_word), ("is_name", F_is_name)] []
noncomputable def F_law : FnI := ⟨["_law_script"], 1, runW Y_law D_law⟩

def fnL : List He.DefD := [dOf PySem.Challenge.pw_mergereach_k11_names_of_any_value "is_name" 3, dOf PySem.Challenge.pw_mergereach_k11_names_of_any_value "_law_pot" 5, dOf PySem.Challenge.pw_mergereach_k11_names_of_any_value "_law_draw" 6, dOf PySem.Challenge.pw_mergereach_k11_names_of_any_value "_law_any_thing" 7, dOf PySem.Challenge.pw_mergereach_k11_names_of_any_value "_law_is_word" 8, dOf PySem.Challenge.pw_mergereach_k11_names_of_any_value "_law_thing" 9, dOf PySem.Challenge.pw_mergereach_k11_names_of_any_value "law" 10]
def faL : List He.Fa := [.glo "is_name", .glo "_law_pot", .glo "_law_draw", .glo "_law_any_thing", .glo "_law_is_word", .glo "_law_thing", .glo "law", .int "MOST_LETTERS" 8, .str "LETTERS" "abcdefghijklmnopqrstuvwxyz", .free "len", .free "list", .free "tuple", .free "all", .free "any", .free "max", .free "min", .free "abs", .free "divmod", .free "int", .free "str", .free "repr", .free "sum", .free "range", .free "enumerate", .free "zip", .free "isinstance", .free "sorted", .free "bool", .free "dict", .free "set"]
abbrev RL : PySem.W.OpenRow := PySem.W.OpenLaw.row PySem.Challenge.rw_mergereach_k11_names_of_any_value
abbrev hkL : PySem.W.Hook := He.hookD 4 faL fnL
def obL (s : PySem.W.SharedT) : He.AlD := He.obsDG 4 faL fnL (HandSHeadRun.getT s)
theorem obL_eq (s : PySem.W.SharedT) : obL s = hkL.obs s.abs := He.obsDG_eq (HandSHeadRun.getT_eq s)
theorem runL (w : World) : HandSHeadRun.RunEq RL (PySem.W.view RL.prog [10]) hkL obL 400 ["LETTERS", "MOST_LETTERS", "is_name", "_law_pot", "_law_draw", "_law_any_thing", "_law_is_word", "_law_thing"] w := by
  intro os
  kernel_rfl
theorem chk_is_name : defB Y_is_name D_is_name 1 (C8.fnArgs (topOf PySem.Challenge.pw_mergereach_k11_names_of_any_value 3)) (C8.fnBody (topOf PySem.Challenge.pw_mergereach_k11_names_of_any_value 3)) (C8.fnScope (topOf PySem.Challenge.pw_mergereach_k11_names_of_any_value 3)) = true := by decide +kernel
theorem chk_law_pot : defB Y_law_pot D_law_pot 2 (C8.fnArgs (topOf PySem.Challenge.pw_mergereach_k11_names_of_any_value 5)) (C8.fnBody (topOf PySem.Challenge.pw_mergereach_k11_names_of_any_value 5)) (C8.fnScope (topOf PySem.Challenge.pw_mergereach_k11_names_of_any_value 5)) = true := by decide +kernel
theorem chk_law_draw : defB Y_law_draw D_law_draw 2 (C8.fnArgs (topOf PySem.Challenge.pw_mergereach_k11_names_of_any_value 6)) (C8.fnBody (topOf PySem.Challenge.pw_mergereach_k11_names_of_any_value 6)) (C8.fnScope (topOf PySem.Challenge.pw_mergereach_k11_names_of_any_value 6)) = true := by decide +kernel
theorem chk_law_any_thing : defB Y_law_any_thing D_law_any_thing 1 (C8.fnArgs (topOf PySem.Challenge.pw_mergereach_k11_names_of_any_value 7)) (C8.fnBody (topOf PySem.Challenge.pw_mergereach_k11_names_of_any_value 7)) (C8.fnScope (topOf PySem.Challenge.pw_mergereach_k11_names_of_any_value 7)) = true := by decide +kernel
theorem chk_law_is_word : defB Y_law_is_word D_law_is_word 1 (C8.fnArgs (topOf PySem.Challenge.pw_mergereach_k11_names_of_any_value 8)) (C8.fnBody (topOf PySem.Challenge.pw_mergereach_k11_names_of_any_value 8)) (C8.fnScope (topOf PySem.Challenge.pw_mergereach_k11_names_of_any_value 8)) = true := by decide +kernel
theorem chk_law_thing : defB Y_law_thing D_law_thing 1 (C8.fnArgs (topOf PySem.Challenge.pw_mergereach_k11_names_of_any_value 9)) (C8.fnBody (topOf PySem.Challenge.pw_mergereach_k11_names_of_any_value 9)) (C8.fnScope (topOf PySem.Challenge.pw_mergereach_k11_names_of_any_value 9)) = true := by decide +kernel
theorem chk_law : defB Y_law D_law 1 (C8.fnArgs (topOf PySem.Challenge.pw_mergereach_k11_names_of_any_value 10)) (C8.fnBody (topOf PySem.Challenge.pw_mergereach_k11_names_of_any_value 10)) (C8.fnScope (topOf PySem.Challenge.pw_mergereach_k11_names_of_any_value 10)) = true := by decide +kernel
section
variable {P : Program} {w : World} {K : PySem.W.Frag} {h : Heap} {mg : Str → Option Value}
def GL (K : PySem.W.Frag) : GE := ⟨K, fun _ => none⟩
theorem freeL (X : K.In h) (Gn : h.Ns mainGlobals mg) (c : He.SaysD faL fnL K) : ∀ x ∈ bltNames, mg x = none := by
  intro x hx
  have hm : He.Fa.free x ∈ faL := by
    simp only [bltNames, List.mem_cons, List.not_mem_nil, or_false] at hx
    rcases hx with rfl | rfl | rfl | rfl | rfl | rfl | rfl | rfl | rfl | rfl | rfl | rfl | rfl | rfl | rfl | rfl | rfl | rfl | rfl | rfl | rfl <;> simp [faL]
  exact He.free_ok X Gn (c.facts hm)
theorem at_is_name (X : K.In h) (Gn : h.Ns mainGlobals mg) (c : He.SaysD faL fnL K) (base : Heap) : FnAt (GL K) P w mg base 1 ("is_name", F_is_name) := by
  refine at_ok (D := D_is_name) (kws := []) (c.def_ 0 (d := dOf PySem.Challenge.pw_mergereach_k11_names_of_any_value "is_name" 3) rfl) (He.glo_ok X Gn (c.fact 0 (f := .glo "is_name") rfl)) ?_ ?_ (freeL X Gn c) chk_is_name
  · intro q hq
    cases hq
  · intro q hq
    simp only [List.mem_cons, List.not_mem_nil, or_false] at hq
    rcases hq with rfl | rfl
    · exact He.int_ok X Gn (c.fact 7 (f := .int "MOST_LETTERS" 8) rfl)
    · exact He.str_ok X Gn (c.fact 8 (f := .str "LETTERS" "abcdefghijklmnopqrstuvwxyz") rfl)
theorem at_law_pot (X : K.In h) (Gn : h.Ns mainGlobals mg) (c : He.SaysD faL fnL K) (base : Heap) : FnAt (GL K) P w mg base 1 ("_law_pot", F_law_pot) := by
  refine at_ok (D := D_law_pot) (kws := []) (c.def_ 1 (d := dOf PySem.Challenge.pw_mergereach_k11_names_of_any_value "_law_pot" 5) rfl) (He.glo_ok X Gn (c.fact 1 (f := .glo "_law_pot") rfl)) ?_ ?_ (freeL X Gn c) chk_law_pot
  · intro q hq
    cases hq
  · intro q hq
    cases hq
theorem at_law_draw (X : K.In h) (Gn : h.Ns mainGlobals mg) (c : He.SaysD faL fnL K) (base : Heap) : FnAt (GL K) P w mg base 1 ("_law_draw", F_law_draw) := by
  refine at_ok (D := D_law_draw) (kws := []) (c.def_ 2 (d := dOf PySem.Challenge.pw_mergereach_k11_names_of_any_value "_law_draw" 6) rfl) (He.glo_ok X Gn (c.fact 2 (f := .glo "_law_draw") rfl)) ?_ ?_ (freeL X Gn c) chk_law_draw
  · intro q hq
    cases hq
  · intro q hq
    cases hq
theorem at_law_any_thing (X : K.In h) (Gn : h.Ns mainGlobals mg) (c : He.SaysD faL fnL K) (base : Heap) : FnAt (GL K) P w mg base 2 ("_law_any_thing", F_law_any_thing) := by
  refine at_ok (D := D_law_any_thing) (kws := []) (c.def_ 3 (d := dOf PySem.Challenge.pw_mergereach_k11_names_of_any_value "_law_any_thing" 7) rfl) (He.glo_ok X Gn (c.fact 3 (f := .glo "_law_any_thing") rfl)) ?_ ?_ (freeL X Gn c) chk_law_any_thing
  · intro q hq
    simp only [List.mem_cons, List.not_mem_nil, or_false] at hq
    rcases hq with rfl
    · exact (at_law_draw X Gn c base).mono (by decide)
  · intro q hq
    cases hq
theorem at_law_is_word (X : K.In h) (Gn : h.Ns mainGlobals mg) (c : He.SaysD faL fnL K) (base : Heap) : FnAt (GL K) P w mg base 1 ("_law_is_word", F_law_is_word) := by
  refine at_ok (D := D_law_is_word) (kws := []) (c.def_ 4 (d := dOf PySem.Challenge.pw_mergereach_k11_names_of_any_value "_law_is_word" 8) rfl) (He.glo_ok X Gn (c.fact 4 (f := .glo "_law_is_word") rfl)) ?_ ?_ (freeL X Gn c) chk_law_is_word
  · intro q hq
    cases hq
  · intro q hq
    cases hq
theorem at_law_thing (X : K.In h) (Gn : h.Ns mainGlobals mg) (c : He.SaysD faL fnL K) (base : Heap) : FnAt (GL K) P w mg base 3 ("_law_thing", F_law_thing) := by
  refine at_ok (D := D_law_thing) (kws := []) (c.def_ 5 (d := dOf PySem.Challenge.pw_mergereach_k11_names_of_any_value "_law_thing" 9) rfl) (He.glo_ok X Gn (c.fact 5 (f := .glo "_law_thing") rfl)) ?_ ?_ (freeL X Gn c) chk_law_thing
  · intro q hq
    simp only [List.mem_cons, List.not_mem_nil, or_false] at hq
    rcases hq with rfl | rfl
    · exact (at_law_draw X Gn c base).mono (by decide)
    · exact (at_law_any_thing X Gn c base).mono (by decide)
  · intro q hq
    cases hq
theorem at_law (X : K.In h) (Gn : h.Ns mainGlobals mg) (c : He.SaysD faL fnL K) (base : Heap) : FnAt (GL K) P w mg base 4 ("law", F_law) := by
  refine at_ok (D := D_law) (kws := []) (c.def_ 6 (d := dOf PySem.Challenge.pw_mergereach_k11_names_of_any_value "law" 10) rfl) (He.glo_ok X Gn (c.fact 6 (f := .glo "law") rfl)) ?_ ?_ (freeL X Gn c) chk_law
  · intro q hq
    simp only [List.mem_cons, List.not_mem_nil, or_false] at hq
    rcases hq with rfl | rfl | rfl | rfl
    · exact (at_law_pot X Gn c base).mono (by decide)
    · exact (at_law_thing X Gn c base).mono (by decide)
    · exact (at_law_is_word X Gn c base).mono (by decide)
    · exact (at_is_name X Gn c base).mono (by decide)
  · intro q hq
    cases hq
end

theorem draw_spec (x y m : Int) (hx : 0 ≤ x) (hy : 0 ≤ y) (hy2 : y < 2147483648) (hm : 0 < m) (hm2 : m ≤ 1000000000) : ∃ d x' y', 0 ≤ d ∧ d < m ∧ 0 ≤ x' ∧ 0 ≤ y' ∧ y' < 2147483648 ∧
    F_law_draw.sem [.ref 0, .int m] [⟨true, .lst [.int x, .int y]⟩] = .ok (.int d) [⟨true, .lst [.int x', .int y']⟩] := by
  by_cases h : 0 < x
  · refine ⟨x % m, x / m, y, Int.emod_nonneg _ (by omega), Int.emod_lt_of_pos _ hm, Int.ediv_nonneg hx (by omega), hy, hy2, ?_⟩
    have hc : 0 < m ∧ m < 1073741824 := ⟨hm, by omega⟩
    simp [F_law_draw, runW, D_law_draw, B_law_draw, evSs, evS, ev, evL, evEs, Sm.of, Res.bind, Res.thenS, dflT, prm, two, cmpW, idxW, vD, vS, conL, conD, need, truW, atI, ixN, h, bltW, bl2, needS, setSubW, intOf, hc]
  · have hx0 : x = 0 := by omega
    subst hx0
    have b1 := Int.emod_nonneg (y * 39373 + 12227) (b := 2147483629) (by decide)
    have b2 := Int.emod_lt_of_pos (y * 39373 + 12227) (b := 2147483629) (by decide)
    generalize hz : (y * 39373 + 12227) % 2147483629 = z at b1 b2
    refine ⟨z * z % 2147483563 / 13 % m, 0, z, Int.emod_nonneg _ (by omega), Int.emod_lt_of_pos _ hm, Int.le_refl _, b1, by omega, ?_⟩
    have c1 : CMul y 39373 := .inr (by omega)
    have c2 : CMul z z := .inr (by omega)
    simp [F_law_draw, runW, D_law_draw, B_law_draw, evSs, evS, ev, evL, evEs, Sm.of, Res.bind, Res.thenS, dflT, prm, two, cmpW, idxW, vD, vS, conL, conD, need, truW, atI, ixN, bltW, bl2, needS, setSubW, intOf, binW, c1, c2, hz, hm]
/-- each number of the script gives a pot -/
theorem pot_spec (ns : List Int) (k : Nat) (hk : k < 64) : ∃ x y, 0 ≤ x ∧ 0 ≤ y ∧ y < 2147483648 ∧ F_law_pot.sem [.scr ns, .int k] [] = .ok (.ref 0) [⟨true, .lst [.int x, .int y]⟩] := by
  have fin : ∀ d : Int, ∃ x y, 0 ≤ x ∧ 0 ≤ y ∧ y < 2147483648 ∧ (if 1000000000000000000 < (if d < 0 then -d else d) then (if d < 0 then -d else d) - 1000000000000000000 else 0) = x ∧ ((if d < 0 then -d else d) % 2147483587 * 48271 + 60013 * (k : Int) + 29) % 2147483647 = y := fun d => by
    refine ⟨_, _, ?_, Int.emod_nonneg _ (by decide), ?_, rfl, rfl⟩
    · split <;> omega
    · have := Int.emod_lt_of_pos ((if d < 0 then -d else d) % 2147483587 * 48271 + 60013 * (k : Int) + 29) (b := 2147483647) (by decide)
      omega
  have c2 : CMul 60013 (k : Int) := .inl (by omega)
  have p18 : ∀ d : Int, CMul (d % 2147483587) 48271 := fun d => .inr (by decide)
  by_cases h : k < ns.length
  · obtain ⟨x, y, h1, h2, h3, h4, h5⟩ := fin ns[k]
    refine ⟨x, y, h1, h2, h3, ?_⟩
    simp [F_law_pot, runW, D_law_pot, B_law_pot, evSs, evS, ev, evL, evEs, Sm.of, Res.bind, Res.thenS, dflT, prm, two, cmpW, idxW, vD, vS, conL, conD, need, truW, atI, ixN, bltW, bl1, bl2, lenW, absW, needS, setSubW, intOf, binW, c2, p18, h, tgW, newL, List.getElem?_eq_getElem, sizeLine_eq, h4, h5]
  · obtain ⟨x, y, h1, h2, h3, h4, h5⟩ := fin 0
    refine ⟨x, y, h1, h2, h3, ?_⟩
    simp at h4 h5
    subst h4
    simp [F_law_pot, runW, D_law_pot, B_law_pot, evSs, evS, ev, evL, evEs, Sm.of, Res.bind, Res.thenS, dflT, prm, two, cmpW, idxW, vD, vS, conL, conD, need, truW, atI, ixN, bltW, bl1, bl2, lenW, absW, needS, setSubW, intOf, binW, c2, p18, h, tgW, newL, List.getElem?_eq_getElem, sizeLine_eq, h5, CMul]
/-- a letter a to z -/
def letB (c : W) : Bool := match c with
  | .str x => !(Builtin.Str.occurrences (Str.ofString "abcdefghijklmnopqrstuvwxyz") x 0 (Str.ofString "abcdefghijklmnopqrstuvwxyz").length 1).isEmpty
  | _ => false
def wordB (s : Str) : Bool := decide (1 ≤ s.length ∧ s.length ≤ 8) && (chars s).all letB
theorem chars_str {s : Str} {x : W} (h : x ∈ chars s) : ∃ y, x = .str y := by
  simp only [chars, List.mem_map] at h
  obtain ⟨c, _, rfl⟩ := h
  exact ⟨_, rfl⟩
theorem bls_map : ∀ {xs : List W} {f : W → Bool}, blsOf (xs.map fun x => .bl (f x)) = some (xs.map f)
  | [], _ => rfl
  | x :: xs, f => by simp [blsOf, bls_map (xs := xs)]
theorem chars_len (s : Str) : (chars s).length = s.length := by simp [chars, Str.length]
theorem isname_str (s : Str) (hs : s.length ≤ 1000) : F_is_name.sem [.str s] [] = .ok (.bl (wordB s)) [] := by
  have hz : s.length ≤ sizeLine := by rw [sizeLine_eq]; omega
  have hlc : (ev Y_is_name none L2_is_name).v [some (.str s), none] [] = .ok (.lst ((chars s).map fun x => .bl (letB x))) [] := by
    unfold L2_is_name
    rw [evlc_v]
    exact evLc_map (vs := [.str s]) (items := chars s) (fun x => .bl (letB x))
      (by simp [evL, evEs, ev, sm_v, Res.bind]) rfl (by rw [chars_len]; exact hz) (fun x hx => by
        obtain ⟨y, rfl⟩ := chars_str hx
        refine ⟨_, rfl, rfl, ?_⟩
        have hg : Y_is_name.con "LETTERS" = some (.str "abcdefghijklmnopqrstuvwxyz") := by rfl
        simp [e1_is_name, evL, evEs, ev, sm_v, Res.bind, wipeW, hg, need, prm, two, cmpW, inW, letB])
  have hg2 : Y_is_name.con "MOST_LETTERS" = some (.int 8) := by rfl
  by_cases h : 1 ≤ s.length ∧ s.length ≤ 8
  · have h1 : (1 : Int) ≤ (s.length : Int) := by omega
    have h2 : (s.length : Int) ≤ 8 := by omega
    simp [F_is_name, runW, D_is_name, B_is_name, evSs, evS, evL, evEs, ev, sm_v, sm_t, Res.bind, Res.thenS, dflT, prm, need, truW, tyW, isiAll, isiOne, ask_str, evOrT, evChain, lenW, vD, vS, cmpW, bltW, bl1, hz, hg2, h, h1, h2, hlc, newL, blsW, vL, bls_map, wordB]
  · have h1 : ¬ ((1 : Int) ≤ (s.length : Int)) ∨ ((1 : Int) ≤ (s.length : Int) ∧ ¬ ((s.length : Int) ≤ 8)) := by omega
    rcases h1 with h1 | ⟨h1, h2⟩
    · simp [F_is_name, runW, D_is_name, B_is_name, evSs, evS, evL, evEs, ev, sm_v, sm_t, Res.bind, Res.thenS, dflT, prm, need, truW, tyW, isiAll, isiOne, ask_str, evOrT, evChain, lenW, vD, vS, cmpW, bltW, bl1, hz, hg2, h, h1, newL, blsW, vL, bls_map, wordB]
    · simp [F_is_name, runW, D_is_name, B_is_name, evSs, evS, evL, evEs, ev, sm_v, sm_t, Res.bind, Res.thenS, dflT, prm, need, truW, tyW, isiAll, isiOne, ask_str, evOrT, evChain, lenW, vD, vS, cmpW, bltW, bl1, hz, hg2, h, h1, h2, newL, blsW, vL, bls_map, wordB]

theorem isword_str (s : Str) (hs : s.length ≤ 1000) : F_law_is_word.sem [.str s] [] = .ok (.bl (wordB s)) [] := by
  have hz : s.length ≤ sizeLine := by rw [sizeLine_eq]; omega
  have hlc : (ev Y_law_is_word none L2_law_is_word).v [some (.str s), none] [] = .ok (.lst ((chars s).map fun x => .bl (letB x))) [] := by
    unfold L2_law_is_word
    rw [evlc_v]
    exact evLc_map (vs := [.str s]) (items := chars s) (fun x => .bl (letB x))
      (by simp [evL, evEs, ev, sm_v, Res.bind]) rfl (by rw [chars_len]; exact hz) (fun x hx => by
        obtain ⟨y, rfl⟩ := chars_str hx
        refine ⟨_, rfl, rfl, ?_⟩
        simp [e1_law_is_word, evL, evEs, ev, sm_v, Res.bind, wipeW, need, prm, two, cmpW, inW, letB])
  by_cases h : 1 ≤ s.length ∧ s.length ≤ 8
  · have h1 : (1 : Int) ≤ (s.length : Int) := by omega
    have h2 : (s.length : Int) ≤ 8 := by omega
    simp [F_law_is_word, runW, D_law_is_word, B_law_is_word, evSs, evS, evL, evEs, ev, sm_v, sm_t, Res.bind, Res.thenS, dflT, prm, need, truW, tyW, isiAll, isiOne, ask_str, evOrT, evChain, lenW, vD, vS, cmpW, bltW, bl1, hz, h, h1, h2, hlc, newL, blsW, vL, bls_map, wordB]
  · have h1 : ¬ ((1 : Int) ≤ (s.length : Int)) ∨ ((1 : Int) ≤ (s.length : Int) ∧ ¬ ((s.length : Int) ≤ 8)) := by omega
    rcases h1 with h1 | ⟨h1, h2⟩
    · simp [F_law_is_word, runW, D_law_is_word, B_law_is_word, evSs, evS, evL, evEs, ev, sm_v, sm_t, Res.bind, Res.thenS, dflT, prm, need, truW, tyW, isiAll, isiOne, ask_str, evOrT, evChain, lenW, vD, vS, cmpW, bltW, bl1, hz, h, h1, newL, blsW, vL, bls_map, wordB]
    · simp [F_law_is_word, runW, D_law_is_word, B_law_is_word, evSs, evS, evL, evEs, ev, sm_v, sm_t, Res.bind, Res.thenS, dflT, prm, need, truW, tyW, isiAll, isiOne, ask_str, evOrT, evChain, lenW, vD, vS, cmpW, bltW, bl1, hz, h, h1, h2, newL, blsW, vL, bls_map, wordB]
def NonStr (w : W) : Prop := ∃ a, tyW [] w = some (.inl a) ∧ a ≠ "str"
theorem isname_non {w : W} (h : NonStr w) : F_is_name.sem [w] [] = .ok (.bl false) [] := by
  obtain ⟨a, h1, h2⟩ := h
  have h3 : ("str" : String) ≠ a := Ne.symm h2
  simp [F_is_name, runW, D_is_name, B_is_name, evSs, evS, evL, evEs, ev, sm_v, sm_t, Res.bind, Res.thenS, dflT, prm, need, truW, h1, isiAll, isiOne, ask_str, evOrT, h2]
theorem isword_non {w : W} (h : NonStr w) : F_law_is_word.sem [w] [] = .ok (.bl false) [] := by
  obtain ⟨a, h1, h2⟩ := h
  simp [F_law_is_word, runW, D_law_is_word, B_law_is_word, evSs, evS, evL, evEs, ev, sm_v, sm_t, Res.bind, Res.thenS, dflT, prm, need, truW, h1, isiAll, isiOne, ask_str, evOrT, h2]
/-- the pot alone in its store -/
def Pot (c : Cell) : Prop := ∃ x y : Int, 0 ≤ x ∧ 0 ≤ y ∧ y < 2147483648 ∧ c = ⟨true, .lst [.int x, .int y]⟩
theorem Pot.pure {c : Cell} (h : Pot c) : pureC c = true := by
  obtain ⟨x, y, _, _, _, rfl⟩ := h; rfl
theorem draw_call {n : Nat} {m : Int} {c : Cell} {M : Store} {fz : Bool} (h : Pot c) (hn : M[n]? = some c) (hm : 0 < m) (hm2 : m ≤ 1000000000) : ∃ d c', 0 ≤ d ∧ d < m ∧ Pot c' ∧ callW F_law_draw.sem fz [.ref n, .int m] M = .ok (.int d) (M.set n c') := by
  obtain ⟨x, y, h1, h2, h3, rfl⟩ := h
  obtain ⟨d, x', y', k1, k2, k3, k4, k5, k6⟩ := draw_spec x y m h1 h2 h3 hm hm2
  exact ⟨d, _, k1, k2, ⟨x', y', k3, k4, k5, rfl⟩, call_ref (vs := [.int m]) rfl hn rfl rfl rfl k6⟩
/-- an item of the law -/
def Item (w : W) : Prop := pureW w = true ∧ ((∃ s, w = .str s ∧ s.length ≤ 100) ∨ NonStr w)
theorem any_spec {c : Cell} (h : Pot c) : ∃ w c', Pot c' ∧ Item w ∧ F_law_any_thing.sem [.ref 0] [c] = .ok w [c'] := by
  obtain ⟨d1, c1, a1, a2, p1, e1⟩ := draw_call (n := 0) (m := 1000000000) (M := [c]) (fz := true) h rfl (by decide) (by decide)
  obtain ⟨d2, c2, b1, b2, p2, e2⟩ := draw_call (n := 0) (m := 19) (M := [c1]) (fz := true) p1 rfl (by decide) (by decide)
  have hf : Y_law_any_thing.fn "_law_draw" = some F_law_draw := by rfl
  have hp : F_law_draw.ps.length = 2 := by rfl
  simp at e1 e2
  generalize hL : ([.non, .bl true, .bl false, .int (-1), .int 0, .int 1, .int (100000000000000000000 + d1), .int (-(100000000000000000000 + d1)), .str "", .str "A", .str "a b", .str "ninesigns", .tup [], .lst [], .dct [] [], .lst [.int 0], .tup [.int 1], .dct [.inl 1] [.int 2], .tup [.str "a"]] : List W) = L
  have hlen : L.length = 19 := by rw [← hL]; rfl
  obtain ⟨w, hw, _, hat⟩ := atI_nat (xs := L) (i := d2) b1 (by rw [hlen]; exact b2)
  refine ⟨w, c2, p2, ?_, ?_⟩
  · rw [← hL] at hw
    simp only [List.mem_cons, List.not_mem_nil, or_false] at hw
    have st : ∀ x : Str, x.length ≤ 100 → Item (.str x) := fun x hx => ⟨rfl, .inl ⟨x, rfl, hx⟩⟩
    rcases hw with rfl | rfl | rfl | rfl | rfl | rfl | rfl | rfl | rfl | rfl | rfl | rfl | rfl | rfl | rfl | rfl | rfl | rfl | rfl <;>
      first | exact st _ (by decide) | exact ⟨rfl, .inr ⟨_, rfl, by decide⟩⟩
  · simp [F_law_any_thing, runW, D_law_any_thing, B_law_any_thing, evSs, evS, evL, evEs, ev, sm_v, sm_t, Res.bind, Res.thenS, prm, two, one, negW, intOf, binW, need, hf, hp, fullW, bindW, e1, e2, sizeLine_eq, newL, newD, tgW, needS, bltW, bl1, lenW, vD, vS, hL, idxW, hat, hlen]


def Sgn (y : W) : Prop := ∃ ch, y = .str ⟨#[ch]⟩
theorem strs_of : ∀ {ys : List W}, (∀ y ∈ ys, Sgn y) → ∃ ss, strsOf ys = some ss ∧ (ss.map (·.length)).sum = ys.length ∧ ss.length = ys.length
  | [], _ => ⟨[], rfl, rfl, rfl⟩
  | y :: ys, h => by
    obtain ⟨ch, rfl⟩ := h y (by simp)
    obtain ⟨ss, h1, h2, h3⟩ := strs_of (ys := ys) fun z hz => h z (by simp [hz])
    exact ⟨⟨#[ch]⟩ :: ss, by simp [strsOf, h1], by rw [List.map_cons, List.sum_cons, h2]; show 1 + ys.length = ys.length + 1; omega, by simp [h3]⟩
theorem cutStr_len {s : Str} {lo hi : Option Int} : (cutStr s lo hi).length ≤ s.length := by
  show ((cutW s.cps.toList lo hi).toArray).size ≤ s.cps.size
  unfold cutW
  rw [List.size_toArray, List.length_take, List.length_drop, Array.length_toList]
  omega
theorem app_len (a b : Str) : (a ++ b).length = a.length + b.length := by
  show (a.cps ++ b.cps).size = _
  rw [Array.size_append]; rfl
theorem thing_spec {c : Cell} (h : Pot c) : ∃ w c', Pot c' ∧ Item w ∧ F_law_thing.sem [.ref 0] [c] = .ok w [c'] := by
  have hf : Y_law_thing.fn "_law_draw" = some F_law_draw := by rfl
  have hf2 : Y_law_thing.fn "_law_any_thing" = some F_law_any_thing := by rfl
  have hp : F_law_draw.ps.length = 2 := by rfl
  have hp2 : F_law_any_thing.ps.length = 1 := by rfl
  obtain ⟨d1, c1, a1, a2, p1, e1⟩ := draw_call (n := 0) (m := 11) (M := [c]) (fz := true) h rfl (by decide) (by decide)
  simp at e1
  generalize hAl : (Str.ofString "abcdefghijklmnopqrstuvwxyz") = Al
  have hAlen : Al.length = 26 := by rw [← hAl]; rfl
  -- the letters
  obtain ⟨ys, M', hlc, ⟨c2, p2, rfl⟩, hly, hys⟩ : ∃ ys M', (ev Y_law_thing none L2_law_thing).v [some (.ref 0), some (.str Al), none, none, none, none] [c] = .ok (.lst ys) M' ∧ (∃ c, Pot c ∧ M' = [c]) ∧ ys.length ≤ 10 ∧ ∀ y ∈ ys, Sgn y := by
    have hit : itemsW .range [.int d1] [c1] = some ((List.range d1.toNat).map fun (i : Nat) => W.int (i : Int)) := by
      show (if _ then _ else _) = _
      rw [if_pos (by omega)]
    obtain ⟨ys, M', k1, k2, k3, k4⟩ := evLc_inv (fz := true) (own := [("_law_k", 5)]) (k := .range) (src := evL Y_law_thing none [.call "_law_draw" true [.var 0, .con (.int 11)] []]) (t := .nm 5) (cond := evL Y_law_thing none []) (elt := ev Y_law_thing none e1_law_thing) (l := [some (.ref 0), some (.str Al), none, none, none, none]) (M := [c]) (M1 := [c1])
      (vs := [.int d1]) (fun M => ∃ c, Pot c ∧ M = [c]) Sgn (by simp [evL, evEs, ev, sm_v, Res.bind, need, hf, hp, fullW, bindW, e1]) hit (by rw [sizeLine_eq]; simp; omega) ⟨c1, p1, rfl⟩ (fun x hx M hM => by
        obtain ⟨c, pc, rfl⟩ := hM
        obtain ⟨d2, c2, b1, b2, p2, e2⟩ := draw_call (n := 0) (m := 26) (M := [c]) (fz := true) pc rfl (by decide) (by decide)
        simp at e2
        obtain ⟨ch, _, _, hat⟩ := atI_nat (xs := Al.cps.toList) (i := d2) b1 (by rw [Array.length_toList]; show d2 < (Al.length : Int); rw [hAlen]; exact b2)
        refine ⟨_, .str ⟨#[ch]⟩, [c2], rfl, rfl, ?_, ⟨c2, p2, rfl⟩, ?_, ⟨ch, rfl⟩⟩
        · simp [e1_law_thing, evL, evEs, ev, sm_v, Res.bind, wipeW, need, hf, hp, fullW, bindW, e2, prm, two, idxW, hAlen, sizeLine_eq, hat]
        · show (if _ then _ else _) = _
          rw [if_pos (by omega)])
    refine ⟨ys, M', ?_, k2, by rw [k3]; simp; omega, k4⟩
    unfold L2_law_thing
    rw [evlc_v, k1]; rfl
  obtain ⟨ss, s1, s2, s3⟩ := strs_of hys
  generalize hW : Txt.join (Str.ofString "") ss = Wd
  have hWl : Wd.length ≤ 10 := by
    rw [← hW]
    show (Builtin.Str.glued _ ss).length ≤ 10
    rw [size_glued, s2]
    have : (Str.ofString "").length = 0 := by rfl
    rw [this]; omega
  obtain ⟨d3, c3, b1, b2, p3, e3⟩ := draw_call (n := 0) (m := (Wd.length : Int) + 1) (M := [c2]) (fz := true) p2 rfl (by omega) (by omega)
  obtain ⟨d4, c4, f1, f2, p4, e4⟩ := draw_call (n := 0) (m := 13) (M := [c3]) (fz := true) p3 rfl (by decide) (by decide)
  simp at e3 e4
  generalize hOd : (Str.ofString "AZ09 _-,'\n.:|") = Od
  have hOlen : Od.length = 13 := by rw [← hOd]; rfl
  obtain ⟨ch, _, _, hat⟩ := atI_nat (xs := Od.cps.toList) (i := d4) f1 (by rw [Array.length_toList]; show d4 < (Od.length : Int); rw [hOlen]; exact f2)
  obtain ⟨w5, c5, p5, i5, e5⟩ := any_spec p4
  have e5' : callW F_law_any_thing.sem true [.ref 0] [c4] = .ok w5 [c5] := call_ref (vs := []) rfl rfl p4.pure p5.pure i5.1 e5
  obtain ⟨d6, c6, g1, g2, p6, e6⟩ := draw_call (n := 0) (m := 3) (M := [c5]) (fz := true) p5 rfl (by decide) (by decide)
  simp at e6
  have cl1 := cutStr_len (s := Wd) (lo := none) (hi := some d3)
  have cl2 := cutStr_len (s := Wd) (lo := some d3) (hi := none)
  generalize hC1 : cutStr Wd none (some d3) = C1 at cl1
  generalize hC2 : cutStr Wd (some d3) none = C2 at cl2
  have l1 : (⟨#[ch]⟩ : Str).length = 1 := by rfl
  have l2 := app_len C1 ⟨#[ch]⟩
  have l3 := app_len (C1 ++ ⟨#[ch]⟩) C2
  generalize hL : ([.str Wd, .str (C1 ++ ⟨#[ch]⟩ ++ C2), w5] : List W) = L
  have hlen : L.length = 3 := by rw [← hL]; rfl
  obtain ⟨w, hw, _, hat2⟩ := atI_nat (xs := L) (i := d6) g1 (by rw [hlen]; exact g2)
  refine ⟨w, c6, p6, ?_, ?_⟩
  · rw [← hL] at hw
    simp only [List.mem_cons, List.not_mem_nil, or_false] at hw
    rcases hw with rfl | rfl | rfl
    · exact ⟨rfl, .inl ⟨_, rfl, by omega⟩⟩
    · exact ⟨rfl, .inl ⟨_, rfl, by omega⟩⟩
    · exact i5
  · have z1 : Wd.length ≤ 16777216 := by omega
    have z2 : C1.length + 1 ≤ 16777216 := by omega
    have z3 : (C1 ++ ⟨#[ch]⟩ : Str).length + C2.length ≤ 16777216 := by omega
    have z4 : ys.length + ss.length * 0 ≤ 16777216 := by omega
    have z5 : (ss.map (·.length)).sum + ss.length * (Str.ofString "").length ≤ 16777216 := by
      rw [s2]; show ys.length + ss.length * 0 ≤ _; omega
    have z6 : d3 = d3 := rfl
    simp [F_law_thing, runW, D_law_thing, B_law_thing, evSs, evS, evL, evEs, ev, sm_v, sm_t, Res.bind, Res.thenS, prm, two, one, intOf, binW, need, hf, hf2, hp, hp2, fullW, bindW, hAl, hlc, e3, e4, e5', e6, sizeLine_eq, newL, tgW, tgWs, needS, bltW, bl1, lenW, vD, vS, vL, hL, idxW, hat, hat2, hlen, kindW, isStrW, mthW, mth1, strsW, s1, hW, hOd, hOlen, slcP, slcW, hC1, hC2, l1, z1, z2, z3, z5]

theorem repr3 (b : Bool) (M : Store) : ∃ z : Str, reprW (.lst [.bl b, .bl b, .bl false]) M = .ok (.str z) M ∧ eqS z z = some true := by
  cases b
  · exact ⟨_, rfl, by decide +kernel⟩
  · exact ⟨_, rfl, by decide +kernel⟩
theorem turn_spec {ns : List Int} {n : Nat} {a1 a2 a4 a5 a6 a7 : Option W} {M : Store} {c : Cell} (pc : Pot c) (hn : M[n]? = some c) :
    ∃ w b c', Pot c' ∧ evSs Y_law X1_law none [some (.scr ns), a1, a2, some (.ref n), a4, a5, a6, a7] M = .nx [some (.scr ns), a1, a2, some (.ref n), a4, some w, some (.bl b), a7] (M.set n c') := by
  obtain ⟨w, c1, p1, i1, e1⟩ := thing_spec pc
  have hf1 : Y_law.fn "_law_thing" = some F_law_thing := by rfl
  have hf2 : Y_law.fn "_law_is_word" = some F_law_is_word := by rfl
  have hf3 : Y_law.fn "is_name" = some F_is_name := by rfl
  have hp1 : F_law_thing.ps.length = 1 := by rfl
  have hp2 : F_law_is_word.ps.length = 1 := by rfl
  have hp3 : F_is_name.ps.length = 1 := by rfl
  have hb : bindW F_is_name.ps [Str.ofString "thing"] [w] = [w] := by rfl
  have e1' : callW F_law_thing.sem true [.ref n] M = .ok w (M.set n c1) := call_ref (vs := []) rfl hn pc.pure p1.pure i1.1 e1
  obtain ⟨b, q1, q2⟩ : ∃ b, F_law_is_word.sem [w] [] = .ok (.bl b) [] ∧ F_is_name.sem [w] [] = .ok (.bl b) [] := by
    rcases i1.2 with ⟨s, rfl, hs⟩ | h
    · exact ⟨_, isword_str s (by omega), isname_str s (by omega)⟩
    · exact ⟨_, isword_non h, isname_non h⟩
  have fw : flatW [w] = true := by simp [flatW, i1.1]
  have fw2 : flatW [.lst [w]] = true := by simp [flatW, pureW, pureWs, i1.1]
  have e2 : ∀ M, callW F_law_is_word.sem true [w] M = .ok (.bl b) M := fun M => call_flat M fw rfl q1
  have e3 : ∀ M, callW F_is_name.sem true [w] M = .ok (.bl b) M := fun M => call_flat M fw rfl q2
  have e4 : ∀ M, callW F_is_name.sem true [.lst [w]] M = .ok (.bl false) M := fun M => call_flat M fw2 rfl (isname_non ⟨"list", rfl, by decide⟩)
  obtain ⟨z, r1, r2⟩ := repr3 b (M.set n c1)
  refine ⟨w, b, c1, p1, ?_⟩
  simp [X1_law, evSs, evS, evL, evEs, ev, sm_v, sm_t, Res.bind, Res.thenS, prm, two, need, hf1, hf2, hf3, hp1, hp2, hp3, fullW, bindW_nil, hb, e1', e2, e3, e4, tgW, needS, sizeLine_eq, newL, bltW, bl1, r1, cmpW, eqW_str, r2, dflT, truW]
theorem pot_call {ns : List Int} {k : Nat} (hk : k < 64) (M : Store) : ∃ c, Pot c ∧ callW F_law_pot.sem false [.scr ns, .int k] M = .ok (.ref M.length) (M ++ [c]) := by
  obtain ⟨x, y, h1, h2, h3, h4⟩ := pot_spec ns k hk
  exact ⟨_, ⟨x, y, h1, h2, h3, rfl⟩, call_new M rfl h4 rfl rfl⟩
/-- a row of turns over one pot -/
theorem row_spec {ns : List Int} {k : Nat} {a2 a3 a4 a5 a6 a7 : Option W} {M : Store} (hk : k < 64) : ∃ b3 b4 b5 b6 M2, evSs Y_law X2_law none [some (.scr ns), some (.int k), a2, a3, a4, a5, a6, a7] M = .nx [some (.scr ns), some (.int k), a2, b3, b4, b5, b6, a7] M2 := by
  obtain ⟨c, pc, e⟩ := pot_call (ns := ns) hk M
  have hf : Y_law.fn "_law_pot" = some F_law_pot := by rfl
  have hp : F_law_pot.ps.length = 2 := by rfl
  have s1 : evS Y_law (.asg (.nm 3) (.call "_law_pot" false [.var 0, .var 1] [])) none [some (.scr ns), some (.int k), a2, a3, a4, a5, a6, a7] M = .nx [some (.scr ns), some (.int k), a2, some (.ref M.length), a4, a5, a6, a7] (M ++ [c]) := by
    simp [evS, evL, evEs, ev, sm_v, Res.bind, Res.thenS, need, hf, hp, fullW, bindW_nil, e, tgW, needS]
  obtain ⟨l', M', e2, ⟨b4, b5, b6, c', pc', hl, hn⟩⟩ := evS_for (Γ := Y_law) (cur := none) (k := .range) (src := [.con (.int 8)]) (t := .nm 4) (body := X1_law) (l := [some (.scr ns), some (.int k), a2, some (.ref M.length), a4, a5, a6, a7]) (M := M ++ [c]) (M1 := M ++ [c])
    (fun l M1 => ∃ b4 b5 b6 c', Pot c' ∧ l = [some (.scr ns), some (.int k), a2, some (.ref M.length), b4, b5, b6, a7] ∧ M1[M.length]? = some c') (vs := [.int 8]) (by simp [evL, evEs, ev, sm_v, Res.bind]) (rng_items (by decide) (by decide)) ⟨a4, a5, a6, c, pc, rfl, by simp⟩ (fun x hx l M1 ⟨b4, b5, b6, c', pc', hl, hn⟩ => by
      subst hl
      obtain ⟨w, b, c2, p2, e3⟩ := turn_spec (ns := ns) (a1 := some (.int k)) (a2 := a2) (a4 := some x) (a5 := b5) (a6 := b6) (a7 := a7) pc' hn
      refine ⟨_, _, _, rfl, e3, ⟨_, _, _, c2, p2, rfl, ?_⟩, rng_items (by decide) (by decide)⟩
      rw [List.getElem?_set_self (List.getElem?_eq_some_iff.mp hn).1])
  refine ⟨some (.ref M.length), b4, b5, b6, M', ?_⟩
  unfold X2_law
  rw [evSs_cons s1, evSs_cons e2, hl]
  simp only [evSs]
theorem words_spec (M : Store) : (([.str "a", .str "z", .str "abcdefgh", .str "abcdefghi", .str "", .str "aA", .str "a a"] : List W).map fun x => match x with | .str s => W.bl (wordB s) | _ => .non) = [.bl true, .bl true, .bl true, .bl false, .bl false, .bl false, .bl false] := by
  have w1 : wordB "a" = true := by decide +kernel
  have w2 : wordB "z" = true := by decide +kernel
  have w3 : wordB "abcdefgh" = true := by decide +kernel
  have w4 : wordB "abcdefghi" = false := by decide +kernel
  have w5 : wordB "" = false := by decide +kernel
  have w6 : wordB "aA" = false := by decide +kernel
  have w7 : wordB "a a" = false := by decide +kernel
  simp [w1, w2, w3, w4, w5, w6, w7]
theorem sem_law (ns : List Int) (hl : ns.length ≤ 63) : ∃ M, F_law.sem [.scr ns] [] = .ok (.bl true) M := by
  have hsrc : ∃ j : Int, 0 ≤ j ∧ j ≤ 8 ∧ evEs (evL Y_law none [.prm (.blt .max true) [.con (.int 1), .prm (.blt .min true) [.con (.int 8), .prm (.blt .len true) [.var 0]]]]) [some (.scr ns), none, none, none, none, none, none, none] [] = .ok [.int j] [] := by
    refine ⟨if (if (ns.length : Int) < 8 then (ns.length : Int) else 8) > 1 then (if (ns.length : Int) < 8 then (ns.length : Int) else 8) else 1, ?_, ?_, ?_⟩
    · split <;> (try split) <;> omega
    · split <;> (try split) <;> omega
    · simp [evL, evEs, ev, sm_v, Res.bind, prm, bltW, bl1, bl2, lenW, vD, vS, need]
  obtain ⟨j, j0, j8, hsrc⟩ := hsrc
  obtain ⟨l', M', e2, ⟨b1, b3, b4, b5, b6, hl'⟩⟩ := evS_for (Γ := Y_law) (cur := none) (k := .range) (t := .nm 1) (body := X2_law) (l := [some (.scr ns), none, none, none, none, none, none, none]) (M := []) (M1 := [])
    (fun l M1 => ∃ b1 b3 b4 b5 b6, l = [some (.scr ns), b1, none, b3, b4, b5, b6, none]) hsrc (rng_items j0 (by omega)) ⟨_, _, _, _, _, rfl⟩ (fun x hx l M1 ⟨b1, b3, b4, b5, b6, hl⟩ => by
      subst hl
      obtain ⟨i, hi, rfl⟩ := List.mem_map.mp hx
      have hi2 : i < 64 := by have := List.mem_range.mp hi; omega
      obtain ⟨c3, c4, c5, c6, M2, e3⟩ := row_spec (ns := ns) (k := i) (a2 := none) (a3 := b3) (a4 := b4) (a5 := b5) (a6 := b6) (a7 := none) (M := M1) hi2
      exact ⟨_, _, _, rfl, e3, ⟨_, _, _, _, _, rfl⟩, rng_items j0 (by omega)⟩)
  subst hl'
  have hf3 : Y_law.fn "is_name" = some F_is_name := by rfl
  have hp3 : F_is_name.ps.length = 1 := by rfl
  generalize hWs : ([.str "a", .str "z", .str "abcdefgh", .str "abcdefghi", .str "", .str "aA", .str "a a"] : List W) = Ws
  have hlc : (ev Y_law none L4_law).v [some (.scr ns), b1, some (.lst Ws), b3, b4, b5, b6, none] M' = .ok (.lst [.bl true, .bl true, .bl true, .bl false, .bl false, .bl false, .bl false]) M' := by
    have k := evLc_map (fz := true) (own := [("_law_word", 7)]) (k := .seq) (src := evL Y_law none [.var 2]) (t := .nm 7) (cond := evL Y_law none []) (elt := ev Y_law none e3_law) (l := [some (.scr ns), b1, some (.lst Ws), b3, b4, b5, b6, none]) (M := M') (vs := [.lst Ws]) (items := Ws) (fun x => match x with | .str s => W.bl (wordB s) | _ => .non)
      (by simp [evL, evEs, ev, sm_v, Res.bind]) rfl (by rw [← hWs, sizeLine_eq]; decide) (fun x hx => by
        refine ⟨_, rfl, rfl, ?_⟩
        have hx2 : ∃ s : Str, x = .str s ∧ s.length ≤ 1000 := by
          rw [← hWs] at hx
          simp only [List.mem_cons, List.not_mem_nil, or_false] at hx
          rcases hx with rfl | rfl | rfl | rfl | rfl | rfl | rfl <;> exact ⟨_, rfl, by decide⟩
        obtain ⟨s, rfl, hs⟩ := hx2
        have e3 := call_flat (fz := true) M' (vs := [.str s]) rfl rfl (isname_str s hs)
        simp [e3_law, evL, evEs, ev, sm_v, Res.bind, wipeW, need, hf3, hp3, fullW, bindW_nil, e3])
    rw [← hWs, words_spec M'] at k
    unfold L4_law
    rw [evlc_v, ← hWs, k]; rfl
  have hWl : Ws.length ≤ 16777216 := by rw [← hWs]; decide
  refine ⟨M', ?_⟩
  have heq : eqW M' (.lst [.bl true, .bl true, .bl true, .bl false, .bl false, .bl false, .bl false]) (.lst [.bl true, .bl true, .bl true, .bl false, .bl false, .bl false, .bl false]) = some true := by rfl
  show runW Y_law D_law [.scr ns] [] = _
  unfold runW
  rw [if_pos (by rfl)]
  have hb : evSs Y_law D_law.body none ([W.scr ns].map some ++ List.replicate (D_law.N.length - [W.scr ns].length) none) [] = .rt (.bl true) M' := by
    show evSs Y_law B_law none [some (.scr ns), none, none, none, none, none, none, none] [] = _
    unfold B_law
    rw [evSs_cons e2]
    simp [evSs, evS, evL, evEs, ev, sm_v, sm_t, Res.bind, Res.thenS, prm, two, need, tgW, needS, sizeLine_eq, newL, hWs, hWl, hlc, cmpW, heq]
  rw [hb]

end PyL
open PySem PySem.W PySem.Calls PyProof.Rows
theorem PySem.Challenge.cw_mergereach_k11_names_of_any_value_holds : PySem.Challenge.rw_mergereach_k11_names_of_any_value.Holds := by
  w_on; o_law
  refine HandSHeadRun.head_any (r := PyL.RL) (q := view PyL.RL.prog [10]) (H := PyL.hkL) (ob := PyL.obL) (M := 400) (loose := ["LETTERS", "MOST_LETTERS", "is_name", "_law_pot", "_law_draw", "_law_any_thing", "_law_is_word", "_law_thing"]) (d := HandSHeadRun.topDef PyL.RL.prog 10) (kwd := []) PyL.obL_eq
    (by kernel_rfl) (fun s => by kernel_rfl) PyL.runL (by kernel_rfl) (by kernel_rfl) (by kernel_rfl) (by rfl) (by first | assumption | decide +kernel) (by decide +kernel) ⟨rfl, rfl, rfl, rfl, rfl, by decide +kernel⟩ ?hw ?hc
  case hw => w_witness2
  case hc =>
    refine PyI.walk_G (l := PySem.Challenge.rw_mergereach_k11_names_of_any_value) (n := 63) (k := 4) (x := "_law_script") rfl (by decide) (by kernel_rfl) ⟨rfl, by decide, by decide⟩ ?F
    intro w mg fa h Y Gn hmg0
    obtain ⟨K, KX, c⟩ := Y
    have hmg : mg ("law" : PySem.Str) = some (.ref fa) := by
      have e : (HandSHeadRun.topDef PyL.RL.prog 10).name = ("law" : PySem.Str) := by kernel_rfl
      rw [← e]
      exact hmg0
    refine ⟨PyL.GL K, PyL.F_law, KX, rfl, rfl, fun ns hl => PyL.sem_law ns hl, fun base _ _ => ?_⟩
    obtain ⟨f, h1, h2⟩ := PyL.at_law (P := (PySem.Challenge.rw_mergereach_k11_names_of_any_value).prog) (w := w) KX Gn c base
    have e : f = fa := by
      have z := h1.symm.trans hmg
      cases z
      rfl
    rw [← e]
    exact h2

