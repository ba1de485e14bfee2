import PyProof.Rows.All
import Wide.All
import OpenK.AllK
import Wide.FinOn
import HandS.ForMost
import HandS.IsInst
import HandS.Nested
import HandS.Words
import HandS.HeadHook1
import HandS.TupAny
import PyProof.NeData
import PyProof.ReprRoads
import HandS.Iter
import KE.GoesMore
import HandS.SetFor
import HandS.Strs
import HandS.DictComp
import HandS.More
import HandS.Small
import HandS.SetKeys
import HandS.NoneIn
import HandS.WordsDict
import HandS.Conv
import HandS.TupLe
import HandS.Zip
import HandS.HeadHook2
import HandS.HeadHook3
import KE.DataCmp
import PySem.Challenge.RW_asktongue_k20_kinds_and_rows_put_and_nam
set_option Elab.async false
set_option linter.all false
set_option maxRecDepth 100000
/-! MnBase: a value machine over trees (Mn): values that never change as PyData, cells that change in a store; what each piece of syntax does as a Lean function (Sem, Sts), over the hand layer's rules. -/
namespace Mn
open PySem L2

abbrev T := PyData
/-- what a lambda captured: a tree; a cell of the store; a plain tuple (no dict of its own); a tuple of such -/
inductive Cap where
  | d (t : T)
  | r (n : Nat)
  | p (ts : List T)
  | q (tss : List (List T))
/-- a value: a tree; a cell of the store; the script; a text that is compared alone; a lambda (its number, what it captured); a def; a tuple of trees and cells -/
inductive Vl where
  | d (t : T)
  | r (n : Nat)
  | s (ns : List Int)
  | t (x : Str)
  | f (i : Nat) (cs : List Cap)
  | g (x : Str)
  | u (cs : List Cap)
  | p (ts : List T)
  | q (tss : List (List T))
/-- a lambda's words -/
structure LamSrc where
  params : Arguments
  body : Expr
  scope : Scope
  ps : List Str
  fr : List Str
/-- the law's lambdas, by number; the defs that make them -/
class Lams where
  src : Nat → Option LamSrc
  makers : List Str
inductive Cell where
  | lst (ts : List T)
  | dct (kvs : List (Key × T))
  | lock
abbrev Lc := List (Option Vl)
abbrev So := List Cell
abbrev Sem := Lc → So → Option (Vl × So)
abbrev Sems := Lc → So → Option (List Vl × So)

/-- a lambda that was made: its words, the cells that it captured, its code object -/
def LamO (f : Addr) (q : Str) (L : LamSrc) (cl : List (Str × Addr)) (c : Addr) : HO := .ext fun h => ∃ pm ct : Value, h.get? f = some (PySem.W.kla_obj "<lambda>" q L.params L.body L.scope cl pm c ct)
/-- the tables of code objects that a law's defs have, with the name of what they make -/
def tabAt [Lams] (K : PySem.W.Frag) (o : Obj) : Option (Addr × Str) := match o with
  | ⟨.type "code", _, .fields vs, _⟩ => (match (vs[1]? : Option Value), (vs[11]? : Option Value) with
    | some (.str q _), some (.ref P) => if (K.lookup P).isNone = true ∧ Lams.makers.contains q = true then some (P, q ++ ".<locals>." ++ "<lambda>") else none
    | _, _ => none)
  | _ => none
def tabsOf [Lams] (K : PySem.W.Frag) : List (Addr × Str) := K.filterMap fun p => tabAt K p.2
/-! ### how trees stand in a heap; ρ: the cells' addresses -/
section
variable [Lams] (K : PySem.W.Frag) (ρ : List Addr) (H : Hp)
def Tk (a : Addr) (xs : List V) : Prop := (Rd H a (.tup xs) ∧ a ∉ ρ) ∨ ∀ H', SqT K H' a xs
def Lk (a : Addr) (xs : List V) : Prop := H a = some (.lst xs) ∧ a ∉ ρ
mutual
inductive Br : V → T → Prop
  | non : Br .non .none
  | bl (b : Bool) : Br (.bl b) (.bool b)
  | int (i : Int) : Br (.int i) (.int i)
  | str (x : Str) (h : PyData.strOk x = true) : Br (.str x) (.str x)
  | tup {a : Addr} {xs : List V} {ts : List T} : Tk K ρ H a xs → BrA xs ts → Br (.ref a) (.tuple ts)
  | lst {a : Addr} {xs : List V} {ts : List T} : Lk ρ H a xs → BrA xs ts → Br (.ref a) (.list ts)
inductive BrA : List V → List T → Prop
  | nil : BrA [] []
  | cons {v : V} {vs : List V} {t : T} {ts : List T} : Br v t → BrA vs ts → BrA (v :: vs) (t :: ts)
end
/-- a plain tuple -/
def PlT (v : V) (ts : List T) : Prop := ∃ a o xs, v = .ref a ∧ H a = some (.frz o (.tup xs)) ∧ o.dict = none ∧ o.cls = .type "tuple" ∧ a ∉ ρ ∧ BrA K ρ H xs ts
inductive PlTs : List V → List (List T) → Prop
  | nil : PlTs [] []
  | cons {v : V} {vs : List V} {t : List T} {ts : List (List T)} : PlT K ρ H v t → PlTs vs ts → PlTs (v :: vs) (t :: ts)
def PlQ (v : V) (tss : List (List T)) : Prop := ∃ a xs, v = .ref a ∧ Tk K ρ H a xs ∧ PlTs K ρ H xs tss
def CB : V → Cap → Prop
  | v, .d t => Br K ρ H v t
  | v, .r n => ∃ a, ρ[n]? = some a ∧ v = .ref a
  | v, .p ts => PlT K ρ H v ts
  | v, .q tss => PlQ K ρ H v tss
inductive CBs : List V → List Cap → Prop
  | nil : CBs [] []
  | cons {v : V} {vs : List V} {x : Cap} {xs : List Cap} : CB K ρ H v x → CBs vs xs → CBs (v :: vs) (x :: xs)
/-- what stands in the cells that a lambda captured -/
structure CapB (fr : List Str) (cl : List (Str × Addr)) (ws : List V) (cs : List Cap) : Prop where
  len : ws.length = fr.length
  len2 : ws.length = cs.length
  inj : ∀ x y c, cl.lookup x = some c → cl.lookup y = some c → x = y
  all : ∀ y c, cl.lookup y = some c → c ∉ ρ ∧ ∃ o u, H c = some (.frz o (.own 0)) ∧ o.data = .cell u
  has : ∀ (j : Nat) (y : Str), fr[j]? = some y → ∃ c o u w, cl.lookup y = some c ∧ H c = some (.frz o (.own 0)) ∧ o.data = .cell (some u) ∧ RelV w u ∧ ws[j]? = some w
  cap : ∀ (j : Nat) (w : V) (x : Cap), ws[j]? = some w → cs[j]? = some x → CB K ρ H w x
structure LamB (v : V) (i : Nat) (cs : List Cap) : Prop where
  ex : ∃ (L : LamSrc) (f c : Addr) (q : Str) (cl : List (Str × Addr)) (ws : List V), Lams.src i = some L ∧ v = .ref f ∧ H f = some (LamO f q L cl c) ∧ H c = some (LamX.CodeO c q) ∧ f ∉ ρ ∧ c ∉ ρ ∧ CapB K ρ H L.fr cl ws cs
def VB : V → Vl → Prop
  | v, .f i cs => LamB K ρ H v i cs
  | v, .g x => v = .ref (He.ga K x)
  | v, .u cs => ∃ a ws, v = .ref a ∧ Tk K ρ H a ws ∧ CBs K ρ H ws cs
  | v, .p ts => PlT K ρ H v ts
  | v, .q tss => PlQ K ρ H v tss
  | v, .d t => Br K ρ H v t
  | v, .r n => ∃ a, ρ[n]? = some a ∧ v = .ref a
  | v, .s ns => ∃ a, v = .ref a ∧ ((Rd H a (.lst (ns.map V.int)) ∧ a ∉ ρ) ∨ ∀ H', SqL K H' a (ns.map V.int))
  | v, .t x => v = .str x
inductive VBs : List V → List Vl → Prop
  | nil : VBs [] []
  | cons {v : V} {vs : List V} {x : Vl} {xs : List Vl} : VB K ρ H v x → VBs vs xs → VBs (v :: vs) (x :: xs)
inductive BrKv : List (Key × V) → List (Key × T) → Prop
  | nil : BrKv [] []
  | cons {k : Key} {v : V} {t : T} {kvs : List (Key × V)} {kts : List (Key × T)} : Br K ρ H v t → BrKv kvs kts → BrKv ((k, v) :: kvs) ((k, t) :: kts)
def CellB (a : Addr) : Cell → Prop
  | .lst ts => ∃ xs, H a = some (.lst xs) ∧ BrA K ρ H xs ts
  | .dct kts => ∃ kvs, H a = some (.dK kvs) ∧ BrKv K ρ H kvs kts
  | .lock => ∃ o u, H a = some (.frz o u)
/-- the store stands in the heap -/
structure Rel (S : So) : Prop where
  len : ρ.length = S.length
  nd : ρ.Nodup
  cell : ∀ (n : Nat) (a : Addr) (c : Cell), ρ[n]? = some a → S[n]? = some c → CellB K ρ H a c
  tabs : LamX.Tabs (tabsOf K) H
  only : ∀ b ps, H b = some (.tbl ps) → ∃ q, (b, q) ∈ tabsOf K
/-- the names' values -/
structure RelL (σ : L2.St) (L : Lc) : Prop where
  len : σ.length = L.length
  at_ : ∀ (i : Nat) (x : Vl), L[i]? = some (some x) → ∃ v, σ[i]? = some (some v) ∧ VB K ρ H v x
end
/-- from one heap to a later one: new cells are new objects; what is no cell stays -/
structure Step (ρ : List Addr) (H : Hp) (ρ' : List Addr) (H' : Hp) : Prop where
  pre : ρ <+: ρ'
  new : ∀ a, a ∈ ρ' → a ∉ ρ → H a = none
  keep : ∀ a o, a ∉ ρ → H a = some o → (∀ ps, o ≠ .tbl ps) → H' a = some o
  gone : ∀ a, H' a = none → H a = none
  frz : ∀ a o u, H a = some (.frz o u) → H' a = some (.frz o u)
theorem Step.refl (ρ : List Addr) (H : Hp) : Step ρ H ρ H := ⟨List.prefix_refl _, fun _ h n => absurd h n, fun _ _ _ h _ => h, fun _ h => h, fun _ _ _ h => h⟩
theorem Step.back {ρ ρ' : List Addr} {H H' : Hp} (s : Step ρ H ρ' H') {a : Addr} (h : H' a = none) (n : a ∉ ρ) : H a = none := s.gone a h
theorem Step.trans {ρ ρ1 ρ2 : List Addr} {H H1 H2 : Hp} (s : Step ρ H ρ1 H1) (t : Step ρ1 H1 ρ2 H2) : Step ρ H ρ2 H2 where
  pre := s.pre.trans t.pre
  new := fun a h n => by
    by_cases h1 : a ∈ ρ1
    · exact s.new a h1 n
    · exact s.back (t.new a h h1) n
  keep := fun a o n e nt => t.keep a o (fun h1 => by rw [s.new a h1 n] at e; cases e) (s.keep a o n e nt) nt
  gone := fun a h => s.gone a (t.gone a h)
  frz := fun a o u h => t.frz a o u (s.frz a o u h)
section
variable [Lams] {K : PySem.W.Frag} {ρ ρ' : List Addr} {H H' : Hp}
theorem Rd.some {a : Addr} {u : HO} (h : Rd H a u) : ∃ o, H a = some o := by
  rcases h with h | ⟨o, h⟩
  · exact ⟨_, h⟩
  · exact ⟨_, h⟩
theorem Step.rd (s : Step ρ H ρ' H') {a : Addr} {u : HO} (h : Rd H a u) (n : a ∉ ρ) (nt : ∀ ps, u ≠ .tbl ps) : Rd H' a u ∧ a ∉ ρ' := by
  refine ⟨?_, fun z => ?_⟩
  · rcases h with h | ⟨o, h⟩
    · exact .inl (s.keep a _ n h nt)
    · exact .inr ⟨o, s.keep a _ n h (fun _ z => by cases z)⟩
  · obtain ⟨o, e⟩ := Rd.some h
    rw [s.new a z n] at e
    cases e
theorem Tk.mono (s : Step ρ H ρ' H') {a : Addr} {xs : List V} (h : Tk K ρ H a xs) : Tk K ρ' H' a xs := by
  rcases h with ⟨h, n⟩ | h
  · exact .inl (s.rd h n fun _ z => by cases z)
  · exact .inr h
theorem Lk.mono (s : Step ρ H ρ' H') {a : Addr} {xs : List V} (h : Lk ρ H a xs) : Lk ρ' H' a xs :=
  ⟨s.keep a _ h.2 h.1 (fun _ z => by cases z), (s.rd (.inl h.1) h.2 fun _ z => by cases z).2⟩
theorem Step.at_ (s : Step ρ H ρ' H') {a : Addr} {o : HO} (h : H a = some o) (n : a ∉ ρ) (nt : ∀ ps, o ≠ .tbl ps) : H' a = some o ∧ a ∉ ρ' :=
  ⟨s.keep a o n h nt, fun z => by rw [s.new a z n] at h; cases h⟩
theorem lamO_ne {f c : Addr} {q : Str} {L : LamSrc} {cl : List (Str × Addr)} (ps : Array Value) : LamO f q L cl c ≠ .tbl ps := fun z => by
  unfold LamO at z
  cases z
mutual
theorem Br.mono (s : Step ρ H ρ' H') : ∀ {v : V} {t : T}, Br K ρ H v t → Br K ρ' H' v t
  | _, _, .non => .non
  | _, _, .bl b => .bl b
  | _, _, .int i => .int i
  | _, _, .str x h => .str x h
  | _, _, .tup h a => .tup (h.mono s) (BrA.mono s a)
  | _, _, .lst h a => .lst (h.mono s) (BrA.mono s a)
theorem BrA.mono (s : Step ρ H ρ' H') : ∀ {vs : List V} {ts : List T}, BrA K ρ H vs ts → BrA K ρ' H' vs ts
  | _, _, .nil => .nil
  | _, _, .cons h a => .cons (Br.mono s h) (BrA.mono s a)
end
theorem BrKv.mono (s : Step ρ H ρ' H') : ∀ {vs : List (Key × V)} {ts : List (Key × T)}, BrKv K ρ H vs ts → BrKv K ρ' H' vs ts
  | _, _, .nil => .nil
  | _, _, .cons h a => .cons (h.mono s) (BrKv.mono s a)
theorem PlT.mono (s : Step ρ H ρ' H') {v : V} {ts : List T} : PlT K ρ H v ts → PlT K ρ' H' v ts := fun ⟨a, o, xs, e, h, d, c, n, b⟩ =>
  let z := s.at_ h n (fun _ z => by cases z)
  ⟨a, o, xs, e, z.1, d, c, z.2, b.mono s⟩
theorem PlTs.mono (s : Step ρ H ρ' H') : ∀ {vs : List V} {tss : List (List T)}, PlTs K ρ H vs tss → PlTs K ρ' H' vs tss
  | _, _, .nil => .nil
  | _, _, .cons h a => .cons (h.mono s) (PlTs.mono s a)
theorem PlQ.mono (s : Step ρ H ρ' H') {v : V} {tss : List (List T)} : PlQ K ρ H v tss → PlQ K ρ' H' v tss := fun ⟨a, xs, e, h, b⟩ => ⟨a, xs, e, h.mono s, b.mono s⟩
theorem PlT.br {v : V} {ts : List T} : PlT K ρ H v ts → Br K ρ H v (.tuple ts) := fun ⟨a, o, xs, e, h, d, c, n, b⟩ => e ▸ .tup (.inl ⟨.inr ⟨o, h⟩, n⟩) b
theorem PlTs.br : ∀ {vs : List V} {tss : List (List T)}, PlTs K ρ H vs tss → BrA K ρ H vs (tss.map .tuple)
  | _, _, .nil => .nil
  | _, _, .cons h a => .cons h.br (PlTs.br a)
theorem PlQ.br {v : V} {tss : List (List T)} : PlQ K ρ H v tss → Br K ρ H v (.tuple (tss.map .tuple)) := fun ⟨a, xs, e, h, b⟩ => e ▸ .tup h b.br
theorem CB.mono (s : Step ρ H ρ' H') : ∀ {v : V} {x : Cap}, CB K ρ H v x → CB K ρ' H' v x
  | _, .p _, h => PlT.mono s h
  | _, .q _, h => PlQ.mono s h
  | _, .d _, h => Br.mono s h
  | _, .r n, ⟨a, e, q⟩ => ⟨a, by
      obtain ⟨r, rfl⟩ := s.pre
      rw [List.getElem?_append_left (by exact (List.getElem?_eq_some_iff.mp e).1)]
      exact e, q⟩
theorem CapB.mono (s : Step ρ H ρ' H') {fr : List Str} {cl : List (Str × Addr)} {ws : List V} {cs : List Cap} (h : CapB K ρ H fr cl ws cs) : CapB K ρ' H' fr cl ws cs := by
  have fz : ∀ {o : Obj} (ps : Array Value), HO.frz o (.own 0) ≠ .tbl ps := fun ps z => by cases z
  refine ⟨h.len, h.len2, h.inj, fun y c e => ?_, fun j y e1 => ?_, fun j w x e1 e2 => (h.cap j w x e1 e2).mono s⟩
  · obtain ⟨n, o, u, h1, h2⟩ := h.all y c e
    obtain ⟨z1, z2⟩ := s.at_ h1 n fz
    exact ⟨z2, o, u, z1, h2⟩
  · obtain ⟨c, o, u, w, h1, h2, h3, h4, h5⟩ := h.has j y e1
    exact ⟨c, o, u, w, h1, (s.at_ h2 (h.all y c h1).1 fz).1, h3, h4, h5⟩
theorem CBs.mono (s : Step ρ H ρ' H') : ∀ {vs : List V} {xs : List Cap}, CBs K ρ H vs xs → CBs K ρ' H' vs xs
  | _, _, .nil => .nil
  | _, _, .cons h a => .cons (h.mono s) (CBs.mono s a)
theorem VB.mono (s : Step ρ H ρ' H') : ∀ {v : V} {x : Vl}, VB K ρ H v x → VB K ρ' H' v x
  | _, .f i cs, ⟨L, f, c, q, cl, ws, h1, h2, h3, h4, n1, n2, h5⟩ =>
    let z := s.at_ h3 n1 lamO_ne
    let y := s.at_ h4 n2 LamX.codeO_ne
    ⟨L, f, c, q, cl, ws, h1, h2, z.1, y.1, z.2, y.2, h5.mono s⟩
  | _, .g _, h => h
  | _, .u cs, ⟨a, ws, e, t, c⟩ => ⟨a, ws, e, t.mono s, c.mono s⟩
  | _, .p _, h => PlT.mono s h
  | _, .q _, h => PlQ.mono s h
  | _, .d _, h => Br.mono s h
  | _, .r n, ⟨a, e, q⟩ => ⟨a, by
      obtain ⟨r, rfl⟩ := s.pre
      rw [List.getElem?_append_left (by exact (List.getElem?_eq_some_iff.mp e).1)]
      exact e, q⟩
  | _, .s ns, ⟨a, e, q⟩ => ⟨a, e, q.imp (fun ⟨h, n⟩ => s.rd h n fun _ z => by cases z) id⟩
  | _, .t x, h => h
theorem VBs.mono (s : Step ρ H ρ' H') : ∀ {vs : List V} {xs : List Vl}, VBs K ρ H vs xs → VBs K ρ' H' vs xs
  | _, _, .nil => .nil
  | _, _, .cons h a => .cons (h.mono s) (VBs.mono s a)
theorem RelL.mono (s : Step ρ H ρ' H') {σ : L2.St} {L : Lc} (h : RelL K ρ H σ L) : RelL K ρ' H' σ L :=
  ⟨h.len, fun i x e => let ⟨v, a, b⟩ := h.at_ i x e; ⟨v, a, b.mono s⟩⟩
theorem Br.sqT {a : Addr} {xs : List V} (h : Tk K ρ H a xs) : SqT K H a xs := by
  rcases h with ⟨h, _⟩ | h
  · exact .inl h
  · exact h H
theorem Br.sqL {a : Addr} {xs : List V} (h : Lk ρ H a xs) : SqL K H a xs := .inl (.inl h.1)
theorem BrA.length : ∀ {vs : List V} {ts : List T}, BrA K ρ H vs ts → vs.length = ts.length
  | _, _, .nil => rfl
  | _, _, .cons _ a => by rw [List.length_cons, List.length_cons, BrA.length a]
theorem VBs.length : ∀ {vs : List V} {ts : List Vl}, VBs K ρ H vs ts → vs.length = ts.length
  | _, _, .nil => rfl
  | _, _, .cons _ a => by rw [List.length_cons, List.length_cons, VBs.length a]
theorem BrA.get : ∀ {vs : List V} {ts : List T} {i : Nat} {t : T}, BrA K ρ H vs ts → ts[i]? = some t → ∃ v, vs[i]? = some v ∧ Br K ρ H v t
  | _, _, _, _, .nil, e => by simp at e
  | _, _, 0, _, .cons h _, e => by simp at e; subst e; exact ⟨_, rfl, h⟩
  | _, _, i + 1, t, .cons _ a, e => by
    obtain ⟨v, h1, h2⟩ := BrA.get (i := i) (t := t) a (by simpa using e)
    exact ⟨v, by simpa using h1, h2⟩
theorem BrA.get' : ∀ {vs : List V} {ts : List T} {i : Nat} {v : V}, BrA K ρ H vs ts → vs[i]? = some v → ∃ t, ts[i]? = some t ∧ Br K ρ H v t
  | _, _, _, _, .nil, e => by simp at e
  | _, _, 0, _, .cons h _, e => by simp at e; subst e; exact ⟨_, rfl, h⟩
  | _, _, i + 1, t, .cons _ a, e => by
    obtain ⟨v, h1, h2⟩ := BrA.get' (i := i) a (by simpa using e)
    exact ⟨v, by simpa using h1, h2⟩
theorem BrA.append : ∀ {vs ws : List V} {ts us : List T}, BrA K ρ H vs ts → BrA K ρ H ws us → BrA K ρ H (vs ++ ws) (ts ++ us)
  | _, _, _, _, .nil, b => b
  | _, _, _, _, .cons h a, b => .cons h (BrA.append a b)
theorem BrA.take : ∀ {vs : List V} {ts : List T} (n : Nat), BrA K ρ H vs ts → BrA K ρ H (vs.take n) (ts.take n)
  | _, _, 0, _ => by rw [List.take_zero, List.take_zero]; exact .nil
  | _, _, _ + 1, .nil => .nil
  | _, _, n + 1, .cons h a => .cons h (BrA.take n a)
theorem BrA.drop : ∀ {vs : List V} {ts : List T} (n : Nat), BrA K ρ H vs ts → BrA K ρ H (vs.drop n) (ts.drop n)
  | _, _, 0, a => a
  | _, _, _ + 1, .nil => .nil
  | _, _, n + 1, .cons _ a => BrA.drop n a
theorem BrA.dropLast {vs : List V} {ts : List T} (a : BrA K ρ H vs ts) : BrA K ρ H vs.dropLast ts.dropLast := by
  rw [List.dropLast_eq_take, List.dropLast_eq_take, a.length]
  exact a.take _
/-! ### the store -/
theorem Rel.at_ {S : So} (r : Rel K ρ H S) {n : Nat} {a : Addr} (h : ρ[n]? = some a) : ∃ c, S[n]? = some c ∧ CellB K ρ H a c := by
  have hn : n < S.length := by rw [← r.len]; exact (List.getElem?_eq_some_iff.mp h).1
  exact ⟨S[n], List.getElem?_eq_getElem hn, r.cell n a _ h (List.getElem?_eq_getElem hn)⟩
theorem CellB.some {a : Addr} {c : Cell} (h : CellB K ρ H a c) : ∃ o : HO, H a = Option.some o := by
  cases c with
  | lst ts => obtain ⟨_, e, _⟩ := h; exact ⟨_, e⟩
  | dct ts => obtain ⟨_, e, _⟩ := h; exact ⟨_, e⟩
  | lock => obtain ⟨_, _, e⟩ := h; exact ⟨_, e⟩
theorem Rel.tr {S : So} (r : Rel K ρ H S) {a : Addr} (h : a ∈ ρ) : ∃ o, H a = some o := by
  obtain ⟨n, hn⟩ := List.getElem?_of_mem h
  obtain ⟨c, _, q⟩ := r.at_ hn
  exact q.some
theorem Rel.out {S : So} (r : Rel K ρ H S) {p : Addr} (h : H p = none) : p ∉ ρ := fun z => by
  obtain ⟨o, e⟩ := r.tr z
  rw [h] at e
  cases e
theorem CellB.move {a : Addr} {c : Cell} (s : Step ρ H ρ' H') (e : H' a = H a) (h : CellB K ρ H a c) : CellB K ρ' H' a c := by
  cases c with
  | lst ts => obtain ⟨xs, q, b⟩ := h; exact ⟨xs, e.trans q, b.mono s⟩
  | dct ts => obtain ⟨xs, q, b⟩ := h; exact ⟨xs, e.trans q, b.mono s⟩
  | lock => obtain ⟨o, u, q⟩ := h; exact ⟨o, u, e.trans q⟩
theorem upd_gone {p : Addr} {o : HO} : ∀ a, upd H p o a = none → H a = none := fun a h => by
  unfold upd at h
  split at h
  · cases h
  · exact h
theorem Step.newO {p : Addr} {o : HO} (hp : H p = none) : Step ρ H ρ (upd H p o) :=
  ⟨List.prefix_refl _, fun _ h n => absurd h n, fun a u _ e _ => by rw [upd_ne (ne_of_none e hp)]; exact e, upd_gone, fun a o u e => by rw [upd_ne (ne_of_none e hp)]; exact e⟩
/-- the tables stay where another object is written -/
theorem tabs_upd {T : List (Addr × Str)} {p : Addr} {o : HO} (t : LamX.Tabs T H) (h1 : ∀ ps, H p ≠ some (.tbl ps)) (h2 : ∀ c q, H p ≠ some (LamX.CodeO c q)) : LamX.Tabs T (upd H p o) := fun z hz => by
  obtain ⟨ps, e1, e2, e3⟩ := t z hz
  refine ⟨ps, by rw [upd_ne fun y => h1 ps (by rw [← y]; exact e1)]; exact e1, e2, fun pos cv hc => ?_⟩
  obtain ⟨c, e4, e5⟩ := e3 pos cv hc
  exact ⟨c, e4, by rw [upd_ne fun y => h2 p z.2 (by rw [← y]; rw [← y] at h2; exact e5)]; exact e5⟩
theorem only_upd {T : List (Addr × Str)} {p : Addr} {o : HO} (t : ∀ b ps, H b = some (.tbl ps) → ∃ q, (b, q) ∈ T) (nt : ∀ ps, o ≠ .tbl ps) : ∀ b ps, upd H p o b = some (.tbl ps) → ∃ q, (b, q) ∈ T := fun b ps e => by
  by_cases h : b = p
  · subst h
    rw [upd_same] at e
    exact (nt ps (Option.some.inj e)).elim
  · rw [upd_ne h] at e
    exact t b ps e
/-- a new object that is no cell -/
theorem Rel.new {S : So} {p : Addr} {o : HO} (r : Rel K ρ H S) (hp : H p = none) (nt : ∀ ps, o ≠ .tbl ps := by intro _ z; cases z) : Rel K ρ (upd H p o) S :=
  ⟨r.len, r.nd, fun n a c ha hc => (r.cell n a c ha hc).move (Step.newO hp) (upd_ne fun z => r.out hp (z ▸ List.mem_of_getElem? ha)),
    tabs_upd r.tabs (fun _ z => by rw [hp] at z; cases z) (fun _ _ z => by rw [hp] at z; cases z), only_upd r.only nt⟩
theorem CellB.obj {a : Addr} {c : Cell} (h : CellB K ρ H a c) : ∃ o : HO, H a = Option.some o ∧ (∀ ps, o ≠ .tbl ps) ∧ ∀ c q, o ≠ LamX.CodeO c q := by
  cases c with
  | lst ts =>
    obtain ⟨_, e, _⟩ := h
    exact ⟨_, e, (fun _ z => by cases z), fun _ _ z => by unfold LamX.CodeO at z; cases z⟩
  | dct ts =>
    obtain ⟨_, e, _⟩ := h
    exact ⟨_, e, (fun _ z => by cases z), fun _ _ z => by unfold LamX.CodeO at z; cases z⟩
  | lock =>
    obtain ⟨_, _, e⟩ := h
    exact ⟨_, e, (fun _ z => by cases z), fun _ _ z => by unfold LamX.CodeO at z; cases z⟩
/-- a new cell -/
theorem Step.cell {p : Addr} {o : HO} (hp : H p = none) : Step ρ H (ρ ++ [p]) (upd H p o) :=
  ⟨List.prefix_append _ _, fun a h n => by
    rcases List.mem_append.mp h with h | h
    · exact absurd h n
    · rw [List.mem_singleton.mp h]; exact hp, fun a u _ e _ => by rw [upd_ne (ne_of_none e hp)]; exact e, upd_gone, fun a o u e => by rw [upd_ne (ne_of_none e hp)]; exact e⟩
theorem Rel.alloc {S : So} {p : Addr} {o : HO} {c : Cell} (r : Rel K ρ H S) (hp : H p = none) (hc : CellB K (ρ ++ [p]) (upd H p o) p c) : Rel K (ρ ++ [p]) (upd H p o) (S ++ [c]) := by
  have nt : ∀ ps, o ≠ .tbl ps := by
    obtain ⟨o', e, n, _⟩ := hc.obj
    rw [upd_same] at e
    cases e
    exact n
  refine ⟨by rw [List.length_append, List.length_append, r.len]; rfl, ?_, fun n a c' ha hc' => ?_, tabs_upd r.tabs (fun _ z => by rw [hp] at z; cases z) (fun _ _ z => by rw [hp] at z; cases z), only_upd r.only nt⟩
  · rw [List.nodup_append]
    refine ⟨r.nd, by simp, fun a ha b hb => ?_⟩
    rw [List.mem_singleton.mp hb]
    exact fun z => r.out hp (z ▸ ha)
  · by_cases hn : n < ρ.length
    · rw [List.getElem?_append_left hn] at ha
      rw [List.getElem?_append_left (by rw [← r.len]; exact hn)] at hc'
      exact (r.cell n a c' ha hc').move (Step.cell hp) (upd_ne fun z => r.out hp (z ▸ List.mem_of_getElem? ha))
    · have h1 : n = ρ.length := by
        have := (List.getElem?_eq_some_iff.mp ha).1
        rw [List.length_append, List.length_singleton] at this
        omega
      subst h1
      rw [List.getElem?_append_right (Nat.le_refl _), Nat.sub_self] at ha
      rw [r.len, List.getElem?_append_right (Nat.le_refl _), Nat.sub_self] at hc'
      cases ha
      cases hc'
      exact hc
/-- a cell is written -/
theorem Step.put {a : Addr} {o w : HO} (ha : a ∈ ρ) (hw : H a = some w) (nw : ∀ o u, w ≠ .frz o u := by intro _ _ z; cases z) : Step ρ H ρ (upd H a o) :=
  ⟨List.prefix_refl _, fun _ h n => absurd h n, fun b u n e _ => by rw [upd_ne (fun z : b = a => n (by rw [z]; exact ha))]; exact e, upd_gone, fun b o u e => by
    rw [upd_ne fun z : b = a => by
      rw [z, hw] at e
      exact nw o u (Option.some.inj e)]
    exact e⟩
theorem nodup_at {l : List Addr} (hl : l.Nodup) {i j : Nat} {x : Addr} (a : l[i]? = some x) (b : l[j]? = some x) : i = j := by
  obtain ⟨h1, e1⟩ := List.getElem?_eq_some_iff.mp a
  obtain ⟨h2, e2⟩ := List.getElem?_eq_some_iff.mp b
  exact (List.getElem_inj hl).mp (e1.trans e2.symm)
theorem Rel.put {S : So} {n : Nat} {a : Addr} {o w : HO} {c : Cell} (r : Rel K ρ H S) (ha : ρ[n]? = some a) (hc : CellB K ρ (upd H a o) a c) (hw : H a = some w) (nw : ∀ o u, w ≠ .frz o u := by intro _ _ z; cases z) : Rel K ρ (upd H a o) (S.set n c) := by
  have nt : ∀ ps, o ≠ .tbl ps := by
    obtain ⟨o', e, n, _⟩ := hc.obj
    rw [upd_same] at e
    cases e
    exact n
  have old : (∀ ps, H a ≠ some (.tbl ps)) ∧ ∀ c q, H a ≠ some (LamX.CodeO c q) := by
    obtain ⟨c0, _, q0⟩ := r.at_ ha
    obtain ⟨o', e, n1, n2⟩ := q0.obj
    exact ⟨fun ps z => n1 ps (Option.some.inj (e.symm.trans z)), fun c q z => n2 c q (Option.some.inj (e.symm.trans z))⟩
  refine ⟨by rw [List.length_set]; exact r.len, r.nd, fun m b c' hb hc' => ?_, tabs_upd r.tabs old.1 old.2, only_upd r.only nt⟩
  by_cases hm : n = m
  · subst hm
    rw [ha] at hb
    cases hb
    rw [List.getElem?_set_self (by rw [← r.len]; exact (List.getElem?_eq_some_iff.mp ha).1)] at hc'
    cases hc'
    exact hc
  · rw [List.getElem?_set_ne hm] at hc'
    exact (r.cell m b c' hb hc').move (Step.put (List.mem_of_getElem? ha) hw nw) (upd_ne fun z => hm (nodup_at r.nd (z ▸ ha) hb))
/-- fewer cells -/
theorem Tk.fewer (s : ∀ a, a ∈ ρ → a ∈ ρ') {a : Addr} {xs : List V} (h : Tk K ρ' H a xs) : Tk K ρ H a xs := h.imp (fun ⟨h, n⟩ => ⟨h, fun z => n (s a z)⟩) id
theorem Lk.fewer (s : ∀ a, a ∈ ρ → a ∈ ρ') {a : Addr} {xs : List V} (h : Lk ρ' H a xs) : Lk ρ H a xs := ⟨h.1, fun z => h.2 (s a z)⟩
mutual
theorem Br.fewer (s : ∀ a, a ∈ ρ → a ∈ ρ') : ∀ {v : V} {t : T}, Br K ρ' H v t → Br K ρ H v t
  | _, _, .non => .non
  | _, _, .bl b => .bl b
  | _, _, .int i => .int i
  | _, _, .str x h => .str x h
  | _, _, .tup h a => .tup (h.fewer s) (BrA.fewer s a)
  | _, _, .lst h a => .lst (h.fewer s) (BrA.fewer s a)
theorem BrA.fewer (s : ∀ a, a ∈ ρ → a ∈ ρ') : ∀ {vs : List V} {ts : List T}, BrA K ρ' H vs ts → BrA K ρ H vs ts
  | _, _, .nil => .nil
  | _, _, .cons h a => .cons (Br.fewer s h) (BrA.fewer s a)
end
theorem BrKv.fewer (s : ∀ a, a ∈ ρ → a ∈ ρ') : ∀ {vs : List (Key × V)} {ts : List (Key × T)}, BrKv K ρ' H vs ts → BrKv K ρ H vs ts
  | _, _, .nil => .nil
  | _, _, .cons h a => .cons (h.fewer s) (BrKv.fewer s a)
theorem CellB.fewer (s : ∀ a, a ∈ ρ → a ∈ ρ') {a : Addr} {c : Cell} (h : CellB K ρ' H a c) : CellB K ρ H a c := by
  cases c with
  | lst ts => obtain ⟨xs, q, b⟩ := h; exact ⟨xs, q, b.fewer s⟩
  | dct ts => obtain ⟨xs, q, b⟩ := h; exact ⟨xs, q, b.fewer s⟩
  | lock => exact h
/-- the cells that were there alone -/
theorem Rel.cut {S : So} (r : Rel K ρ' H S) (p : ρ <+: ρ') : Rel K ρ H (S.take ρ.length) := by
  obtain ⟨more, rfl⟩ := p
  have hl : ρ.length ≤ S.length := by rw [← r.len, List.length_append]; omega
  refine ⟨by rw [List.length_take]; omega, (List.nodup_append.mp r.nd).1, fun n a c ha hc => ?_, r.tabs, r.only⟩
  have hn := (List.getElem?_eq_some_iff.mp ha).1
  rw [List.getElem?_take_of_lt hn] at hc
  exact (r.cell n a c (by rw [List.getElem?_append_left hn]; exact ha) hc).fewer fun b hb => List.mem_append_left _ hb
theorem Step.cut (s : Step ρ H ρ' H') : Step ρ H ρ H' := ⟨List.prefix_refl _, fun _ h n => absurd h n, s.keep, s.gone, s.frz⟩
theorem Step.sub (s : Step ρ H ρ' H') : ∀ a, a ∈ ρ → a ∈ ρ' := fun _ h => s.pre.subset h
/-- .. and one more -/
theorem Rel.cutOne {S : So} {m : Nat} {b : Addr} {c : Cell} (r : Rel K ρ' H S) (p : ρ <+: ρ') (hb : ρ'[m]? = some b) (hm : ρ.length ≤ m) (hc : S[m]? = some c) : Rel K (ρ ++ [b]) H (S.take ρ.length ++ [c]) := by
  have q := r.cut p
  have hl : (S.take ρ.length).length = ρ.length := q.len.symm
  have hs : ∀ a, a ∈ ρ ++ [b] → a ∈ ρ' := fun a h => (List.mem_append.mp h).elim (fun h => p.subset h) fun h => by rw [List.mem_singleton.mp h]; exact List.mem_of_getElem? hb
  have hout : b ∉ ρ := fun z => by
    obtain ⟨j, hj⟩ := List.getElem?_of_mem z
    obtain ⟨more, rfl⟩ := p
    have h1 := (List.getElem?_eq_some_iff.mp hj).1
    have h2 : (ρ ++ more)[j]? = some b := by rw [List.getElem?_append_left h1]; exact hj
    have := nodup_at r.nd h2 hb
    omega
  refine ⟨by rw [List.length_append, List.length_append, hl]; rfl, ?_, fun n a c' ha hc' => ?_, r.tabs, r.only⟩
  · rw [List.nodup_append]
    refine ⟨q.nd, by simp, fun a ha b' hb' => ?_⟩
    rw [List.mem_singleton.mp hb']
    exact fun z => hout (z ▸ ha)
  · by_cases hn : n < ρ.length
    · rw [List.getElem?_append_left hn] at ha
      rw [List.getElem?_append_left (by rw [hl]; exact hn), List.getElem?_take_of_lt hn] at hc'
      obtain ⟨more, rfl⟩ := p
      exact (r.cell n a c' (by rw [List.getElem?_append_left hn]; exact ha) hc').fewer hs
    · have h1 : n = ρ.length := by
        have := (List.getElem?_eq_some_iff.mp ha).1
        rw [List.length_append, List.length_singleton] at this
        omega
      subst h1
      rw [List.getElem?_append_right (Nat.le_refl _), Nat.sub_self] at ha
      rw [List.getElem?_append_right (by omega), hl, Nat.sub_self] at hc'
      cases ha
      cases hc'
      exact (r.cell m b c hb hc).fewer hs
/-- what is read of a value: a tree, or the list in a cell -/
inductive Dv [Lams] (K : PySem.W.Frag) (ρ : List Addr) (H : Hp) : V → T → Prop
  | t {v : V} {t : T} (h : Br K ρ H v t) : Dv K ρ H v t
  | c {a : Addr} {xs : List V} {ts : List T} (e : H a = some (.lst xs)) (h : BrA K ρ H xs ts) : Dv K ρ H (.ref a) (.list ts)
def deref (S : So) : Vl → Option T
  | .d t => some t
  | .p ts => some (.tuple ts)
  | .q tss => some (.tuple (tss.map .tuple))
  | .r n => match S[n]? with
    | some (.lst ts) => some (.list ts)
    | _ => none
  | _ => none
theorem VB.dv {S : So} (r : Rel K ρ H S) : ∀ {x : Vl} {v : V} {t : T}, VB K ρ H v x → deref S x = some t → Dv K ρ H v t
  | .d u, v, t, h, e => by cases e; exact .t h
  | .r n, v, t, ⟨a, ha, q0⟩, e => by
    rw [q0]
    obtain ⟨c, hc, q⟩ := r.at_ ha
    unfold deref at e
    simp only [hc] at e
    cases c with
    | lst ts =>
      cases e
      obtain ⟨xs, q1, q2⟩ := q
      exact .c q1 q2
    | dct ts => cases e
    | lock => cases e
  | .s _, _, _, _, e => by cases e
  | .t _, _, _, _, e => by cases e
  | .f _ _, _, _, _, e => by cases e
  | .g _, _, _, _, e => by cases e
  | .u _, _, _, _, e => by cases e
  | .p _, _, _, h, e => by cases e; exact .t (PlT.br h)
  | .q _, _, _, h, e => by cases e; exact .t (PlQ.br h)
theorem Dv.list {v : V} {ts : List T} (h : Dv K ρ H v (.list ts)) : ∃ a xs, v = .ref a ∧ H a = some (.lst xs) ∧ BrA K ρ H xs ts := by
  cases h with
  | t h => cases h with
    | lst h b => exact ⟨_, _, rfl, h.1, b⟩
  | c e h => exact ⟨_, _, rfl, e, h⟩
theorem Dv.tuple {v : V} {ts : List T} (h : Dv K ρ H v (.tuple ts)) : ∃ a xs, v = .ref a ∧ Tk K ρ H a xs ∧ BrA K ρ H xs ts := by
  cases h with
  | t h => cases h with
    | tup h b => exact ⟨_, _, rfl, h, b⟩
theorem Dv.int {v : V} {i : Int} (h : Dv K ρ H v (.int i)) : v = .int i := by
  cases h with
  | t h => cases h; rfl
theorem Dv.bl {v : V} {i : Bool} (h : Dv K ρ H v (.bool i)) : v = .bl i := by
  cases h with
  | t h => cases h; rfl
theorem Dv.non {v : V} (h : Dv K ρ H v .none) : v = .non := by
  cases h with
  | t h => cases h; rfl
theorem Dv.str {v : V} {x : Str} (h : Dv K ρ H v (.str x)) : v = .str x ∧ PyData.strOk x = true := by
  cases h with
  | t h => cases h with
    | str x h => exact ⟨rfl, h⟩
mutual
theorem Br.dp : ∀ {v : V} {t : T}, Br K ρ H v t → Dp K H v t
  | _, _, .non => .non
  | _, _, .bl b => .bl b
  | _, _, .int i => .int i
  | _, _, .str x _ => .str x
  | _, _, .tup h a => .tup (Br.sqT h) (BrA.dp a)
  | _, _, .lst h a => .lst (Br.sqL h) (BrA.dp a)
theorem BrA.dp : ∀ {vs : List V} {ts : List T}, BrA K ρ H vs ts → DpAll K H vs ts
  | _, _, .nil => .nil
  | _, _, .cons h a => .cons (Br.dp h) (BrA.dp a)
end
mutual
theorem Br.lay : ∀ {v : V} {t : T}, Br K ρ H v t → t.canLay0 = true
  | _, _, .non => by simp only [PyData.canLay0]
  | _, _, .bl b => by simp only [PyData.canLay0]
  | _, _, .int i => by simp only [PyData.canLay0]
  | _, _, .str x h => by simp only [PyData.canLay0]; exact h
  | _, _, .tup h a => by simp only [PyData.canLay0]; exact BrA.lay a
  | _, _, .lst h a => by simp only [PyData.canLay0]; exact BrA.lay a
theorem BrA.lay : ∀ {vs : List V} {ts : List T}, BrA K ρ H vs ts → PyData.canLayAll0 ts = true
  | _, _, .nil => by simp only [PyData.canLayAll0]
  | _, _, .cons h a => by simp only [PyData.canLayAll0, Br.lay h, BrA.lay a, Bool.and_self]
end
theorem Dv.dp {v : V} {t : T} (h : Dv K ρ H v t) : Dp K H v t := by
  cases h with
  | t h => exact h.dp
  | c e h => exact .lst (.inl (.inl e)) h.dp
theorem Dv.lay {v : V} {t : T} (h : Dv K ρ H v t) : t.canLay0 = true := by
  cases h with
  | t h => exact h.lay
  | c e h => simp only [PyData.canLay0]; exact h.lay
end
end Mn

/-! MnExp: what expressions do (Sem) and that they do it. -/
namespace Mn
open PySem L2

/-! ### readings of Sems -/
def tM [Lams] (K : PySem.W.Frag) (m : Sem) : TE := fun σ H Q => ∃ ρ L S x S', RelL K ρ H σ L ∧ Rel K ρ H S ∧ m L S = some (x, S') ∧
  ∀ ρ' H' v, Step ρ H ρ' H' → Rel K ρ' H' S' → VB K ρ' H' v x → Q v H'
def tA [Lams] (K : PySem.W.Frag) (m : Sems) : TA := fun σ H Q => ∃ ρ L S xs S', RelL K ρ H σ L ∧ Rel K ρ H S ∧ m L S = some (xs, S') ∧
  ∀ ρ' H' vs, Step ρ H ρ' H' → Rel K ρ' H' S' → VBs K ρ' H' vs xs → Q vs H'
/-- a test: the value is a bool -/
def tMT [Lams] (K : PySem.W.Frag) (m : Sem) : TT := fun σ H Q => tM K m σ H fun v H' => ∃ b, v = .bl b ∧ Q b H'
def PM [Lams] (X : Cx) (e : Expr) (m : Sem) : Prop := PE X e (tM X.K m)
def PMT [Lams] (X : Cx) (e : Expr) (m : Sem) : Prop := PT X e (tMT X.K m)
def PMW [Lams] (X : Cx) (e : Expr) (m : Sem) : Prop := PW X e (tMT X.K m)
def PMA [Lams] (X : Cx) (es : List Expr) (m : Sems) : Prop := PA X es (tA X.K m)
section
variable {X : Cx} {e : Expr}
theorem imp {t t' : TE} (h : PE X e t) (i : ∀ σ H Q, t' σ H Q → t σ H Q) : PE X e t' := ⟨fun pins s σ H Q I q => h.run pins s σ H Q I (i σ H Q q)⟩
theorem impT {t t' : TT} (h : PT X e t) (i : ∀ σ H Q, t' σ H Q → t σ H Q) : PT X e t' := ⟨fun pins s σ H Q I q => h.run pins s σ H Q I (i σ H Q q)⟩
theorem impW {t t' : TT} (h : PW X e t) (i : ∀ σ H Q, t' σ H Q → t σ H Q) : PW X e t' := ⟨fun wh pins s σ H Q I q => h.run wh pins s σ H Q I (i σ H Q q)⟩
theorem impA {es : List Expr} {t t' : TA} (h : PA X es t) (i : ∀ σ H Q, t' σ H Q → t σ H Q) : PA X es t' := ⟨fun pos pins s σ H Q I q => h.run pos pins s σ H Q I (i σ H Q q)⟩
end

/-! ### names, constants -/
def eLoc (i : Nat) : Sem := fun L S => match L[i]? with
  | some (some x) => some (x, S)
  | _ => none
def eC (t : T) : Sem := fun _ S => some (.d t, S)
section
variable {X : Cx} {pos : Pos}
theorem pm_loc [Lams] (i : Nat) {x : Str} (hN : X.N[i]? = some x := by kernel_rfl) (hv : Vis X.env.scope x := by first | exact Or.inl rfl | exact Or.inr (Or.inl rfl) | exact Or.inr (Or.inr rfl)) (hd : (x == ("__debug__" : Str)) = false := by kernel_rfl)
    (hcd : (x == ("__classdict__" : Str)) = false := by kernel_rfl) : PM X (.Name x pos) (eLoc i) := imp (pe_var hN hv hd hcd) fun σ H Q ⟨ρ, L, S, x, S', rl, r, e, k⟩ => by
  unfold eLoc at e
  split at e
  · rename_i y hy
    cases e
    obtain ⟨v, h1, h2⟩ := rl.at_ i _ hy
    exact ⟨v, h1, k ρ H v (Step.refl _ _) r h2⟩
  · cases e
theorem tM_c [Lams] {K : PySem.W.Frag} {v : V} {t : T} (h : ∀ ρ H, Br K ρ H v t) : ∀ σ H Q, tM K (eC t) σ H Q → tC v σ H Q := fun σ H Q ⟨ρ, L, S, x, S', rl, r, e, k⟩ => by
  cases e
  exact k ρ H v (Step.refl _ _) r (h ρ H)
theorem pm_int [Lams] {i : Int} {j} : PM X (.Constant (.int i) j pos) (eC (.int i)) := imp pe_int (tM_c fun _ _ => .int i)
theorem pm_bl [Lams] {b : Bool} {j} : PM X (.Constant (.bool b) j pos) (eC (.bool b)) := imp pe_bl (tM_c fun _ _ => .bl b)
theorem pm_non [Lams] {j} : PM X (.Constant .none j pos) (eC .none) := imp pe_non (tM_c fun _ _ => .non)
theorem pm_str [Lams] {x : Str} {j} (h : PyData.strOk x = true := by decide) : PM X (.Constant (.str x) j pos) (eC (.str x)) := imp pe_str (tM_c fun _ _ => .str x h)
/-- a module's constant -/
theorem pm_glob [Lams] {x : Str} {v : V} {u : Value} {t : T} (hg : Gl X x) (hm : X.mg x = some u) (r : RelV v u) (h : ∀ ρ H, Br X.K ρ H v t) (hd : (x == ("__debug__" : Str)) = false := by kernel_rfl) : PM X (.Name x pos) (eC t) := imp (pe_glob hg hm r hd) (tM_c h)
end

/-! ### two operands -/
def eBin (f : T → T → Option T) (a b : Sem) : Sem := fun L S => match a L S with
  | some (x, S1) => match b L S1 with
    | some (y, S2) => match deref S2 x, deref S2 y with
      | some t, some u => match f t u with
        | some z => some (.d z, S2)
        | none => none
      | _, _ => none
    | none => none
  | none => none
theorem eBin_of {f : T → T → Option T} {a b : Sem} {L : Lc} {S S1 S2 : So} {x y : Vl} {t u z : T} (ha : a L S = some (x, S1)) (hb : b L S1 = some (y, S2)) (hx : deref S2 x = some t) (hy : deref S2 y = some u) (hf : f t u = some z) :
    eBin f a b L S = some (.d z, S2) := by simp only [eBin, ha, hb, hx, hy, hf]
theorem eBin_inv {f : T → T → Option T} {a b : Sem} {L : Lc} {S S' : So} {w : Vl} (h : eBin f a b L S = some (w, S')) :
    ∃ x S1 y t u z, a L S = some (x, S1) ∧ b L S1 = some (y, S') ∧ deref S' x = some t ∧ deref S' y = some u ∧ f t u = some z ∧ w = .d z := by
  unfold eBin at h
  split at h
  · rename_i x S1 h1
    split at h
    · rename_i y S2 h2
      split at h
      · rename_i t u h3 h4
        split at h
        · rename_i z h5
          cases h
          exact ⟨x, S1, y, t, u, z, h1, h2, h3, h4, h5, rfl⟩
        · cases h
      · cases h
    · cases h
  · cases h
/-- an operation of two values answers f -/
def Op2 [Lams] (X : Cx) (op : Value → Value → PySem.Sem Value) (f : T → T → Option T) : Prop :=
  ∃ r : R2, OpR X op r ∧ ∀ (ρ : List Addr) (H : Hp) (S : So) (v w : V) (t u z : T) (Q : VK), Rel X.K ρ H S → Dv X.K ρ H v t → Dv X.K ρ H w u → f t u = some z →
    (∀ H' y, Step ρ H ρ H' → Rel X.K ρ H' S → Br X.K ρ H' y z → Q y H') → r v w H Q
section
variable {X : Cx} {pos : Pos} {a b c : Expr} {ma mb mc : Sem}
/-- two readings, one behind the other -/
theorem tM_two [Lams] {K : PySem.W.Frag} {σ : L2.St} {H : Hp} {ρ : List Addr} {L : Lc} {S S1 S2 : So} {x y : Vl} {R : V → V → Hp → Prop} (rl : RelL K ρ H σ L) (r : Rel K ρ H S) (h1 : ma L S = some (x, S1)) (h2 : mb L S1 = some (y, S2))
    (k : ∀ ρ' H' v w, Step ρ H ρ' H' → Rel K ρ' H' S2 → VB K ρ' H' v x → VB K ρ' H' w y → R v w H') : tM K ma σ H fun v H1 => tM K mb σ H1 fun w H2 => R v w H2 :=
  ⟨ρ, L, S, x, S1, rl, r, h1, fun ρ1 H1 v s1 r1 b1 => ⟨ρ1, L, S1, y, S2, rl.mono s1, r1, h2, fun ρ2 H2 w s2 r2 b2 => k ρ2 H2 v w (s1.trans s2) r2 (b1.mono s2) b2⟩⟩
theorem tM_op [Lams] {f : T → T → Option T} {r : R2} {K : PySem.W.Frag} (hr : ∀ (ρ : List Addr) (H : Hp) (S : So) (v w : V) (t u z : T) (Q : VK), Rel K ρ H S → Dv K ρ H v t → Dv K ρ H w u → f t u = some z →
    (∀ H' y, Step ρ H ρ H' → Rel K ρ H' S → Br K ρ H' y z → Q y H') → r v w H Q) : ∀ σ H Q, tM K (eBin f ma mb) σ H Q → tOp r (tM K ma) (tM K mb) σ H Q := fun σ H Q ⟨ρ, L, S, x, S', rl, rs, e, k⟩ => by
  obtain ⟨x1, S1, y, t, u, z, h1, h2, h3, h4, h5, rfl⟩ := eBin_inv e
  exact tM_two rl rs h1 h2 fun ρ1 H1 v w s1 r1 b1 b2 => hr ρ1 H1 S' v w t u z Q r1 (b1.dv r1 h3) (b2.dv r1 h4) h5 fun H' y s r2 b => k ρ1 H' y (s1.trans s) r2 b
theorem pm_bin [Lams] {op : Operator} {f : T → T → Option T} (ho : Op2 X (binaryOp op) f) (ha : PM X a ma) (hb : PM X b mb) : PM X (.BinOp a op b pos) (eBin f ma mb) := by
  obtain ⟨r, h1, h2⟩ := ho
  exact imp (pe_op h1 ha hb) (tM_op h2)
theorem pm_cmp [Lams] {op : CmpOp} {f : T → T → Option T} (ho : Op2 X (compareOp op) f) (ha : PM X a ma) (hb : PM X b mb) (hm : behindInMarks op b = false := by first | exact nomark _ | rfl) : PM X (.Compare a [op] [b] pos) (eBin f ma mb) := by
  obtain ⟨r, h1, h2⟩ := ho
  exact imp (pe_cmpR h1 ha hb hm) (tM_op h2)
theorem pmt_cmp [Lams] {op : CmpOp} {f : T → T → Option T} (ho : Op2 X (compareOp op) f) (ha : PM X a ma) (hb : PM X b mb) (hm : behindInMarks op b = false := by first | exact nomark _ | rfl) : PMT X (.Compare a [op] [b] pos) (eBin f ma mb) := by
  obtain ⟨r, h1, h2⟩ := ho
  exact impT (pt_cmpR h1 ha hb hm) fun σ H Q h => tM_op h2 σ H _ h
/-- a op1 b op2 c, of values that are no cells' -/
def eChain (f g : T → T → Option T) (a b c : Sem) : Sem := fun L S => match a L S with
  | some (.d t, S1) => match b L S1 with
    | some (.d u, S2) => match f t u with
      | some (.bool true) => match c L S2 with
        | some (.d w, S3) => match g u w with
          | some z => some (.d z, S3)
          | none => none
        | _ => none
      | some (.bool false) => some (.d (.bool false), S2)
      | _ => none
    | _ => none
  | _ => none
theorem eChain_inv {f g : T → T → Option T} {a b c : Sem} {L : Lc} {S S' : So} {w : Vl} (h : eChain f g a b c L S = some (w, S')) :
    ∃ t S1 u S2, a L S = some (.d t, S1) ∧ b L S1 = some (.d u, S2) ∧ ((f t u = some (.bool true) ∧ ∃ x z, c L S2 = some (.d x, S') ∧ g u x = some z ∧ w = .d z) ∨ (f t u = some (.bool false) ∧ S' = S2 ∧ w = .d (.bool false))) := by
  unfold eChain at h
  split at h
  · rename_i t S1 h1
    split at h
    · rename_i u S2 h2
      split at h
      · rename_i h3
        split at h
        · rename_i x S3 h4
          split at h
          · rename_i z h5
            cases h
            exact ⟨t, S1, u, S2, h1, h2, .inl ⟨h3, x, z, h4, h5, rfl⟩⟩
          · cases h
        · cases h
      · rename_i h3
        cases h
        exact ⟨t, S1, u, _, h1, h2, .inr ⟨h3, rfl, rfl⟩⟩
      · cases h
    · cases h
  · cases h
theorem tM_chain [Lams] {f g : T → T → Option T} {r r' : R2} {K : PySem.W.Frag} (hr : ∀ (ρ : List Addr) (H : Hp) (S : So) (v w : V) (t u z : T) (Q : VK), Rel K ρ H S → Dv K ρ H v t → Dv K ρ H w u → f t u = some z →
    (∀ H' y, Step ρ H ρ H' → Rel K ρ H' S → Br K ρ H' y z → Q y H') → r v w H Q) (hr' : ∀ (ρ : List Addr) (H : Hp) (S : So) (v w : V) (t u z : T) (Q : VK), Rel K ρ H S → Dv K ρ H v t → Dv K ρ H w u → g t u = some z →
    (∀ H' y, Step ρ H ρ H' → Rel K ρ H' S → Br K ρ H' y z → Q y H') → r' v w H Q) : ∀ σ H Q, tM K (eChain f g ma mb mc) σ H Q → tChain r r' (tM K ma) (tM K mb) (tM K mc) σ H Q := fun σ H Q ⟨ρ, L, S, x, S', rl, rs, e, k⟩ => by
  obtain ⟨t, S1, u, S2, h1, h2, h3⟩ := eChain_inv e
  refine tM_two rl rs h1 h2 fun ρ1 H1 v w s1 r1 b1 b2 => ?_
  rcases h3 with ⟨h3, y, z, h4, h5, rfl⟩ | ⟨h3, rfl, rfl⟩
  · refine hr ρ1 H1 S2 v w t u _ _ r1 (.t b1) (.t b2) h3 fun H2 y2 s2 r2 b => ?_
    cases b
    refine ⟨true, rfl, ?_⟩
    rw [if_pos rfl]
    refine ⟨ρ1, L, S2, .d y, S', (rl.mono s1).mono s2, r2, h4, fun ρ3 H3 v3 s3 r3 b3 => ?_⟩
    exact hr' ρ3 H3 S' w v3 u y z Q r3 (.t ((b2.mono s2).mono s3)) (.t b3) h5 fun H4 y4 s4 r4 b4 => k ρ3 H4 y4 (((s1.trans s2).trans s3).trans s4) r4 b4
  · refine hr ρ1 H1 S' v w t u _ _ r1 (.t b1) (.t b2) h3 fun H2 y2 s2 r2 b => ?_
    cases b
    refine ⟨false, rfl, ?_⟩
    rw [if_neg Bool.false_ne_true]
    exact k ρ1 H2 _ (s1.trans s2) r2 (.bl false)
theorem pm_chain [Lams] {op op' : CmpOp} {f g : T → T → Option T} (ho : Op2 X (compareOp op) f) (ho' : Op2 X (compareOp op') g) (ha : PM X a ma) (hb : PM X b mb) (hc : PM X c mc)
    (hm : lastMarks [op, op'] [b, c] = false := by with_unfolding_all rfl) : PM X (.Compare a [op, op'] [b, c] pos) (eChain f g ma mb mc) := by
  obtain ⟨r, h1, h2⟩ := ho
  obtain ⟨r', h1', h2'⟩ := ho'
  exact imp (pe_chain h1 h1' ha hb hc hm) (tM_chain h2 h2')
theorem pmt_chain [Lams] {op op' : CmpOp} {f g : T → T → Option T} (ho : Op2 X (compareOp op) f) (ho' : Op2 X (compareOp op') g) (ha : PM X a ma) (hb : PM X b mb) (hc : PM X c mc)
    (hm : lastMarks [op, op'] [b, c] = false := by with_unfolding_all rfl) : PMT X (.Compare a [op, op'] [b, c] pos) (eChain f g ma mb mc) := by
  obtain ⟨r, h1, h2⟩ := ho
  obtain ⟨r', h1', h2'⟩ := ho'
  exact impT (pt_chain h1 h1' ha hb hc hm) fun σ H Q h => tM_chain h2 h2' σ H _ h
end

/-! ### and, or, not, if -/
def eAnd (a b : Sem) : Sem := fun L S => match a L S with
  | some (.d (.bool true), S1) => b L S1
  | some (.d (.bool false), S1) => some (.d (.bool false), S1)
  | _ => none
def eOr (a b : Sem) : Sem := fun L S => match a L S with
  | some (.d (.bool false), S1) => b L S1
  | some (.d (.bool true), S1) => some (.d (.bool true), S1)
  | _ => none
def eNot (a : Sem) : Sem := fun L S => match a L S with
  | some (.d (.bool b), S1) => some (.d (.bool (!b)), S1)
  | _ => none
def eIte (c a b : Sem) : Sem := fun L S => match c L S with
  | some (.d (.bool true), S1) => a L S1
  | some (.d (.bool false), S1) => b L S1
  | _ => none
theorem bool_inv {a : Sem} {L : Lc} {S : So} {α : Type} {p q : So → Option α} {w : α}
    (h : (match a L S with | some (.d (.bool true), S1) => p S1 | some (.d (.bool false), S1) => q S1 | _ => none) = some w) : ∃ c S1, a L S = some (.d (.bool c), S1) ∧ (if c = true then p S1 else q S1) = some w := by
  split at h
  · rename_i S1 h1
    exact ⟨true, S1, h1, by rw [if_pos rfl]; exact h⟩
  · rename_i S1 h1
    exact ⟨false, S1, h1, by rw [if_neg Bool.false_ne_true]; exact h⟩
  · cases h
theorem eOr_inv {a b : Sem} {L : Lc} {S S' : So} {w : Vl} (h : eOr a b L S = some (w, S')) : ∃ c S1, a L S = some (.d (.bool c), S1) ∧ (if c = true then some (Vl.d (.bool true), S1) else b L S1) = some (w, S') := by
  unfold eOr at h
  split at h
  · rename_i S1 h1
    exact ⟨false, S1, h1, by rw [if_neg Bool.false_ne_true]; exact h⟩
  · rename_i S1 h1
    exact ⟨true, S1, h1, by rw [if_pos rfl]; exact h⟩
  · cases h
theorem eNot_inv {a : Sem} {L : Lc} {S S' : So} {w : Vl} (h : eNot a L S = some (w, S')) : ∃ c, a L S = some (.d (.bool c), S') ∧ w = .d (.bool (!c)) := by
  unfold eNot at h
  split at h
  · rename_i c S1 h1
    cases h
    exact ⟨c, h1, rfl⟩
  · cases h
section
variable {X : Cx} {pos : Pos} {a b c : Expr} {ma mb mc : Sem} {rest : List Expr}
/-- a bool's reading, and what follows -/
theorem tM_bool [Lams] {K : PySem.W.Frag} {σ : L2.St} {H : Hp} {ρ : List Addr} {L : Lc} {S S1 : So} {c : Bool} {Q : VK} (rl : RelL K ρ H σ L) (r : Rel K ρ H S) (h : ma L S = some (.d (.bool c), S1))
    (k : ∀ ρ' H', Step ρ H ρ' H' → Rel K ρ' H' S1 → Q (.bl c) H') : tM K ma σ H Q := ⟨ρ, L, S, _, S1, rl, r, h, fun ρ1 H1 v s1 r1 b1 => by cases b1; exact k ρ1 H1 s1 r1⟩
theorem tMT_bool [Lams] {K : PySem.W.Frag} {σ : L2.St} {H : Hp} {ρ : List Addr} {L : Lc} {S S1 : So} {c : Bool} {Q : Bool → Hp → Prop} (rl : RelL K ρ H σ L) (r : Rel K ρ H S) (h : ma L S = some (.d (.bool c), S1))
    (k : ∀ ρ' H', Step ρ H ρ' H' → Rel K ρ' H' S1 → Q c H') : tMT K ma σ H Q := tM_bool rl r h fun ρ' H' s r => ⟨c, rfl, k ρ' H' s r⟩
theorem pm_one [Lams] {op} (h : PM X a ma) : PM X (.BoolOp op [a] pos) ma := pe_one h
theorem pm_and [Lams] (ha : PM X a ma) (hb : PM X (.BoolOp .And (b :: rest) pos) mb) : PM X (.BoolOp .And (a :: b :: rest) pos) (eAnd ma mb) := imp (pe_and ha hb) fun σ H Q ⟨ρ, L, S, x, S', rl, r, e, k⟩ => by
  obtain ⟨c, S1, h1, h2⟩ := bool_inv (p := fun S1 => mb L S1) (q := fun S1 => some (.d (.bool false), S1)) e
  refine tM_bool rl r h1 fun ρ1 H1 s1 r1 => ⟨c, rfl, ?_⟩
  cases c with
  | true =>
    rw [if_pos rfl] at h2 ⊢
    exact ⟨ρ1, L, S1, x, S', rl.mono s1, r1, h2, fun ρ2 H2 v s2 r2 b2 => k ρ2 H2 v (s1.trans s2) r2 b2⟩
  | false =>
    rw [if_neg Bool.false_ne_true] at h2 ⊢
    cases h2
    exact k ρ1 H1 _ s1 r1 (.bl false)
theorem pm_or [Lams] (ha : PM X a ma) (hb : PM X (.BoolOp .Or (b :: rest) pos) mb) : PM X (.BoolOp .Or (a :: b :: rest) pos) (eOr ma mb) := imp (pe_or ha hb) fun σ H Q ⟨ρ, L, S, x, S', rl, r, e, k⟩ => by
  obtain ⟨c, S1, h1, h2⟩ := eOr_inv e
  refine tM_bool rl r h1 fun ρ1 H1 s1 r1 => ⟨c, rfl, ?_⟩
  cases c with
  | true =>
    rw [if_pos rfl] at h2 ⊢
    cases h2
    exact k ρ1 H1 _ s1 r1 (.bl true)
  | false =>
    rw [if_neg Bool.false_ne_true] at h2 ⊢
    exact ⟨ρ1, L, S1, x, S', rl.mono s1, r1, h2, fun ρ2 H2 v s2 r2 b2 => k ρ2 H2 v (s1.trans s2) r2 b2⟩
theorem pm_not [Lams] (ha : PM X a ma) : PM X (.UnaryOp .Not a pos) (eNot ma) := imp (pe_not ha) fun σ H Q ⟨ρ, L, S, x, S', rl, r, e, k⟩ => by
  obtain ⟨c, h1, rfl⟩ := eNot_inv e
  exact tM_bool rl r h1 fun ρ1 H1 s1 r1 => ⟨c, rfl, k ρ1 H1 _ s1 r1 (.bl _)⟩
theorem pmt_val [Lams] {m : Sem} (h : PM X a m) (he : ∀ whole, isTrue a X.env whole = (do let v ← whole; standAt a.pos; holding [v] (truthy v)) := by intro _; kernel_rfl) : PMT X a m := pt_val h he
theorem pmw_and1 [Lams] (ha : PMT X a ma) : PMW X (.BoolOp .And [a] pos) ma := pw_and1 ha
theorem pmw_or1 [Lams] (ha : PMT X a ma) : PMW X (.BoolOp .Or [a] pos) ma := pw_or1 ha
theorem tMT_and [Lams] {K : PySem.W.Frag} : ∀ σ H Q, tMT K (eAnd ma mb) σ H Q → tAnd (tMT K ma) (tMT K mb) σ H Q := fun σ H Q ⟨ρ, L, S, x, S', rl, r, e, k⟩ => by
  obtain ⟨c, S1, h1, h2⟩ := bool_inv (p := fun S1 => mb L S1) (q := fun S1 => some (.d (.bool false), S1)) e
  refine tMT_bool rl r h1 fun ρ1 H1 s1 r1 => ?_
  cases c with
  | true =>
    rw [if_pos rfl] at h2 ⊢
    exact ⟨ρ1, L, S1, x, S', rl.mono s1, r1, h2, fun ρ2 H2 v s2 r2 b2 => k ρ2 H2 v (s1.trans s2) r2 b2⟩
  | false =>
    rw [if_neg Bool.false_ne_true] at h2 ⊢
    cases h2
    obtain ⟨b, e1, q⟩ := k ρ1 H1 _ s1 r1 (.bl false)
    cases e1
    exact q
theorem tMT_or [Lams] {K : PySem.W.Frag} : ∀ σ H Q, tMT K (eOr ma mb) σ H Q → tOr (tMT K ma) (tMT K mb) σ H Q := fun σ H Q ⟨ρ, L, S, x, S', rl, r, e, k⟩ => by
  obtain ⟨c, S1, h1, h2⟩ := eOr_inv e
  refine tMT_bool rl r h1 fun ρ1 H1 s1 r1 => ?_
  cases c with
  | true =>
    rw [if_pos rfl] at h2 ⊢
    cases h2
    obtain ⟨b, e1, q⟩ := k ρ1 H1 _ s1 r1 (.bl true)
    cases e1
    exact q
  | false =>
    rw [if_neg Bool.false_ne_true] at h2 ⊢
    exact ⟨ρ1, L, S1, x, S', rl.mono s1, r1, h2, fun ρ2 H2 v s2 r2 b2 => k ρ2 H2 v (s1.trans s2) r2 b2⟩
theorem pmw_and [Lams] (ha : PMT X a ma) (hb : PMW X (.BoolOp .And (b :: rest) pos) mb) : PMW X (.BoolOp .And (a :: b :: rest) pos) (eAnd ma mb) := impW (pw_and ha hb) tMT_and
theorem pmw_or [Lams] (ha : PMT X a ma) (hb : PMW X (.BoolOp .Or (b :: rest) pos) mb) : PMW X (.BoolOp .Or (a :: b :: rest) pos) (eOr ma mb) := impW (pw_or ha hb) tMT_or
theorem PMW.t [Lams] {m : Sem} (h : PMW X a m) : PMT X a m := PW.pt h
theorem pmt_not [Lams] (ha : PMT X a ma) : PMT X (.UnaryOp .Not a pos) (eNot ma) := impT (pt_not ha) fun σ H Q ⟨ρ, L, S, x, S', rl, r, e, k⟩ => by
  obtain ⟨c, h1, rfl⟩ := eNot_inv e
  refine tMT_bool rl r h1 fun ρ1 H1 s1 r1 => ?_
  obtain ⟨b, e1, q⟩ := k ρ1 H1 _ s1 r1 (.bl _)
  cases e1
  exact q
theorem pm_ite [Lams] (hc : PMT X c mc) (ha : PM X a ma) (hb : PM X b mb) : PM X (.IfExp c a b pos) (eIte mc ma mb) := imp (pe_ifExp hc ha hb) fun σ H Q ⟨ρ, L, S, x, S', rl, r, e, k⟩ => by
  obtain ⟨c, S1, h1, h2⟩ := bool_inv (p := fun S1 => ma L S1) (q := fun S1 => mb L S1) e
  refine tMT_bool rl r h1 fun ρ1 H1 s1 r1 => ?_
  cases c with
  | true =>
    rw [if_pos rfl] at h2 ⊢
    exact ⟨ρ1, L, S1, x, S', rl.mono s1, r1, h2, fun ρ2 H2 v s2 r2 b2 => k ρ2 H2 v (s1.trans s2) r2 b2⟩
  | false =>
    rw [if_neg Bool.false_ne_true] at h2 ⊢
    exact ⟨ρ1, L, S1, x, S', rl.mono s1, r1, h2, fun ρ2 H2 v s2 r2 b2 => k ρ2 H2 v (s1.trans s2) r2 b2⟩
end

/-! ### argument lists, displays -/
def aNil : Sems := fun _ S => some ([], S)
def aCons (a : Sem) (r : Sems) : Sems := fun L S => match a L S with
  | some (x, S1) => match r L S1 with
    | some (xs, S2) => some (x :: xs, S2)
    | none => none
  | none => none
theorem aCons_inv {a : Sem} {r : Sems} {L : Lc} {S S' : So} {ws : List Vl} (h : aCons a r L S = some (ws, S')) : ∃ x S1 xs, a L S = some (x, S1) ∧ r L S1 = some (xs, S') ∧ ws = x :: xs := by
  unfold aCons at h
  split at h
  · rename_i x S1 h1
    split at h
    · rename_i xs S2 h2
      cases h
      exact ⟨x, S1, xs, h1, h2, rfl⟩
    · cases h
  · cases h
/-- all are trees -/
def datas : List Vl → Option (List T)
  | [] => some []
  | .d t :: r => match datas r with
    | some ts => some (t :: ts)
    | none => none
  | _ :: _ => none
theorem VBs.br [Lams] {K : PySem.W.Frag} {ρ : List Addr} {H : Hp} : ∀ {vs : List V} {xs : List Vl} {ts : List T}, VBs K ρ H vs xs → datas xs = some ts → BrA K ρ H vs ts
  | _, _, _, .nil, e => by cases e; exact .nil
  | _, _, ts, @VBs.cons _ _ _ _ v vs x xs h a, e => by
    cases x with
    | d t =>
      unfold datas at e
      split at e
      · rename_i us h2
        cases e
        exact .cons h (VBs.br a h2)
      · cases e
    | r n => cases e
    | s n => cases e
    | t n => cases e
    | f n m => cases e
    | g n => cases e
    | u n => cases e
    | p n => cases e
    | q n => cases e
def eTup (r : Sems) : Sem := fun L S => match r L S with
  | some (xs, S1) => match datas xs with
    | some ts => if ts.length ≤ 100000 then some (.d (.tuple ts), S1) else none
    | none => none
  | none => none
/-- a list that never changes; a new cell -/
def eLst (r : Sems) : Sem := fun L S => match r L S with
  | some (xs, S1) => match datas xs with
    | some ts => if ts.length ≤ 100000 then some (.d (.list ts), S1) else none
    | none => none
  | none => none
def eNew (r : Sems) : Sem := fun L S => match r L S with
  | some (xs, S1) => match datas xs with
    | some ts => if ts.length ≤ 100000 then some (.r S1.length, S1 ++ [.lst ts]) else none
    | none => none
  | none => none
theorem disp_inv {r : Sems} {L : Lc} {S : So} {α : Type} {k : List T → So → α} {w : α}
    (h : (match r L S with | some (xs, S1) => (match datas xs with | some ts => if ts.length ≤ 100000 then some (k ts S1) else none | none => none) | none => none) = some w) :
    ∃ xs S1 ts, r L S = some (xs, S1) ∧ datas xs = some ts ∧ ts.length ≤ 100000 ∧ k ts S1 = w := by
  split at h
  · rename_i xs S1 h1
    split at h
    · rename_i ts h2
      split at h
      · rename_i h3
        cases h
        exact ⟨xs, S1, ts, h1, h2, h3, rfl⟩
      · cases h
    · cases h
  · cases h
theorem line_of {n : Nat} (h : n ≤ 100000) : n ≤ sizeLine := Nat.le_trans h (by decide)
section
variable {X : Cx} {pos : Pos} {a : Expr} {es : List Expr} {ma : Sem} {mr : Sems}
theorem pma_nil [Lams] : PMA X [] aNil := impA pa_nil fun σ H Q ⟨ρ, L, S, xs, S', rl, r, e, k⟩ => by
  cases e
  exact k ρ H [] (Step.refl _ _) r .nil
theorem pma_cons [Lams] (ha : PM X a ma) (hr : PMA X es mr) (hs : starEach (a :: es) X.env = (false, eval a X.env) :: starEach es X.env := by kernel_rfl) : PMA X (a :: es) (aCons ma mr) := impA (pa_cons ha hr hs) fun σ H Q ⟨ρ, L, S, xs, S', rl, r, e, k⟩ => by
  obtain ⟨x, S1, ys, h1, h2, rfl⟩ := aCons_inv e
  exact ⟨ρ, L, S, x, S1, rl, r, h1, fun ρ1 H1 v s1 r1 b1 => ⟨ρ1, L, S1, ys, S', rl.mono s1, r1, h2, fun ρ2 H2 vs s2 r2 b2 => k ρ2 H2 (v :: vs) (s1.trans s2) r2 (.cons (b1.mono s2) b2)⟩⟩
theorem pm_tup [Lams] {x1} (h : PMA X es mr) : PM X (.Tuple es x1 pos) (eTup mr) := imp (pe_tup h) fun σ H Q ⟨ρ, L, S, x, S', rl, r, e, k⟩ => by
  obtain ⟨xs, S1, ts, h1, h2, h3, h4⟩ := disp_inv (k := fun ts S1 => ((Vl.d (.tuple ts) : Vl), S1)) e
  cases h4
  refine ⟨ρ, L, S, xs, S', rl, r, h1, fun ρ1 H1 vs s1 r1 b1 => ?_⟩
  have b := b1.br h2
  refine ⟨line_of (by rw [b.length]; exact h3), fun p hp => ?_⟩
  have st : Step ρ1 H1 ρ1 (upd H1 p (.tup vs)) := Step.newO hp
  exact k ρ1 _ _ (s1.trans st) (r1.new hp) (.tup (.inl ⟨.inl upd_same, r1.out hp⟩) (b.mono st))
theorem pm_lst [Lams] (h : PMA X es mr) : PM X (.List es pos) (eLst mr) := imp (pe_lst h) fun σ H Q ⟨ρ, L, S, x, S', rl, r, e, k⟩ => by
  obtain ⟨xs, S1, ts, h1, h2, h3, h4⟩ := disp_inv (k := fun ts S1 => ((Vl.d (.list ts) : Vl), S1)) e
  cases h4
  refine ⟨ρ, L, S, xs, S', rl, r, h1, fun ρ1 H1 vs s1 r1 b1 => ?_⟩
  have b := b1.br h2
  refine ⟨line_of (by rw [b.length]; exact h3), fun p hp => ?_⟩
  have st : Step ρ1 H1 ρ1 (upd H1 p (.lst vs)) := Step.newO hp
  exact k ρ1 _ _ (s1.trans st) (r1.new hp) (.lst ⟨upd_same, r1.out hp⟩ (b.mono st))
theorem pm_new [Lams] (h : PMA X es mr) : PM X (.List es pos) (eNew mr) := imp (pe_lst h) fun σ H Q ⟨ρ, L, S, x, S', rl, r, e, k⟩ => by
  obtain ⟨xs, S1, ts, h1, h2, h3, h4⟩ := disp_inv (k := fun ts (S1 : So) => ((Vl.r S1.length : Vl), S1 ++ [Cell.lst ts])) e
  cases h4
  refine ⟨ρ, L, S, xs, S1, rl, r, h1, fun ρ1 H1 vs s1 r1 b1 => ?_⟩
  have b := b1.br h2
  refine ⟨line_of (by rw [b.length]; exact h3), fun p hp => ?_⟩
  have st : Step ρ1 H1 (ρ1 ++ [p]) (upd H1 p (.lst vs)) := Step.cell hp
  exact k (ρ1 ++ [p]) _ _ (s1.trans st) (r1.alloc hp ⟨vs, upd_same, b.mono st⟩) ⟨p, by rw [← r1.len, List.getElem?_append_right (Nat.le_refl _), Nat.sub_self]; rfl, rfl⟩
end
end Mn

/-! MnOps: operators, comparisons, subscripts, slices, calls of built-ins on trees. -/
namespace Mn
open PySem L2

/-! ### operators -/
def fAdd : T → T → Option T
  | .int i, .int j => some (.int (i + j))
  | .str x, .str y => if x.length + y.length ≤ 100000 then some (.str (x ++ y)) else none
  | .tuple a, .tuple b => if a.length + b.length ≤ 100000 then some (.tuple (a ++ b)) else none
  | .list a, .list b => if a.length + b.length ≤ 100000 then some (.list (a ++ b)) else none
  | _, _ => none
def fSub : T → T → Option T
  | .int i, .int j => some (.int (i - j))
  | _, _ => none
def fMul : T → T → Option T
  | .int i, .int j => if ((-(2 ^ 64) < i ∧ i < 2 ^ 64) ∨ (-(2 ^ 64) < j ∧ j < 2 ^ 64)) then some (.int (i * j)) else none
  | _, _ => none
def fMod : T → T → Option T
  | .int i, .int j => if 0 < j then some (.int (i % j)) else none
  | _, _ => none
def fFdiv : T → T → Option T
  | .int i, .int j => if 0 < j ∧ j < 1073741824 then some (.int (i / j)) else none
  | _, _ => none
def fPow : T → T → Option T
  | .int i, .int j => if 0 ≤ j ∧ j ≤ 1000000 ∧ i.natAbs < 2 ^ 64 then some (.int (i ^ j.toNat)) else none
  | _, _ => none
theorem strOk_app {x y : Str} (hx : PyData.strOk x = true) (hy : PyData.strOk y = true) : PyData.strOk (x ++ y) = true := by
  have e : (x ++ y).cps = x.cps ++ y.cps := rfl
  unfold PyData.strOk at *
  rw [e, Array.all_append, hx, hy]
  rfl
section
variable {X : Cx}
theorem o2_int [Lams] {op : Value → Value → PySem.Sem Value} {f : T → T → Option T} {C : Int → Int → Prop} {g : Int → Int → V} {r : R2} (hr : OpR X op r) (h : ∀ i j H Q, r (.int i) (.int j) H Q ↔ (C i j ∧ Q (g i j) H))
    (hf : ∀ t u z, f t u = some z → ∃ i j, t = .int i ∧ u = .int j ∧ C i j ∧ ∀ K ρ H, Br K ρ H (g i j) z) : Op2 X op f := ⟨r, hr, fun ρ H S v w t u z Q rs dv dw e k => by
  obtain ⟨i, j, rfl, rfl, hc, hb⟩ := hf t u z e
  rw [dv.int, dw.int, h]
  exact ⟨hc, k H _ (Step.refl _ _) rs (hb _ _ _)⟩⟩
theorem rI0_iff {g : Int → Int → V} {i j : Int} {H : Hp} {Q : VK} : rI0 g (.int i) (.int j) H Q ↔ (True ∧ Q (g i j) H) :=
  ⟨fun ⟨a, b, e1, e2, q⟩ => by cases e1; cases e2; exact ⟨trivial, q⟩, fun q => ⟨i, j, rfl, rfl, q.2⟩⟩
theorem rI_iff {C : Int → Int → Prop} {g : Int → Int → V} {i j : Int} {H : Hp} {Q : VK} : rI C g (.int i) (.int j) H Q ↔ (C i j ∧ Q (g i j) H) :=
  ⟨fun ⟨a, b, e1, e2, c, q⟩ => by cases e1; cases e2; exact ⟨c, q⟩, fun q => ⟨i, j, rfl, rfl, q⟩⟩
theorem o_sub [Lams] : Op2 X (binaryOp .Sub) fSub := o2_int (C := fun _ _ => True) op_sub (fun _ _ _ _ => rI0_iff) fun t u z e => by
  unfold fSub at e
  split at e
  · cases e; exact ⟨_, _, rfl, rfl, trivial, fun _ _ _ => .int _⟩
  · cases e
theorem o_mul [Lams] : Op2 X (binaryOp .Mult) fMul := o2_int (C := CMul) op_mul (fun _ _ _ _ => rI_iff) fun t u z e => by
  unfold fMul at e
  split at e
  · split at e
    · rename_i h; cases e; exact ⟨_, _, rfl, rfl, h, fun _ _ _ => .int _⟩
    · cases e
  · cases e
theorem o_mod [Lams] : Op2 X (binaryOp .Mod) fMod := o2_int (C := fun _ j => 0 < j) op_mod (fun _ _ _ _ => rI_iff) fun t u z e => by
  unfold fMod at e
  split at e
  · split at e
    · rename_i h; cases e; exact ⟨_, _, rfl, rfl, h, fun _ _ _ => .int _⟩
    · cases e
  · cases e
theorem o_fdiv [Lams] : Op2 X (binaryOp .FloorDiv) fFdiv := o2_int (C := CDiv) op_fdiv (fun _ _ _ _ => rI_iff) fun t u z e => by
  unfold fFdiv at e
  split at e
  · split at e
    · rename_i h; cases e; exact ⟨_, _, rfl, rfl, h, fun _ _ _ => .int _⟩
    · cases e
  · cases e
theorem o_pow [Lams] : Op2 X (binaryOp .Pow) fPow := o2_int (C := CPow) op_pow (fun _ _ _ _ => rI_iff) fun t u z e => by
  unfold fPow at e
  split at e
  · split at e
    · rename_i h; cases e; exact ⟨_, _, rfl, rfl, h, fun _ _ _ => .int _⟩
    · cases e
  · cases e
theorem o_add [Lams] : Op2 X (binaryOp .Add) fAdd := ⟨_, op_add.or (op_add_str.or (op_catA.or op_cat)), fun ρ H S v w t u z Q rs dv dw e k => by
  unfold fAdd at e
  split at e
  · cases e
    rw [dv.int, dw.int]
    exact .inl ⟨_, _, rfl, rfl, k H _ (Step.refl _ _) rs (.int _)⟩
  · split at e
    · rename_i x y hl
      cases e
      obtain ⟨rfl, h1⟩ := dv.str
      obtain ⟨rfl, h2⟩ := dw.str
      exact .inr (.inl ⟨_, _, rfl, rfl, line_of hl, k H _ (Step.refl _ _) rs (.str _ (strOk_app h1 h2))⟩)
    · cases e
  · split at e
    · rename_i a b hl
      cases e
      obtain ⟨p, xs, rfl, h1, b1⟩ := dv.tuple
      obtain ⟨q, ys, rfl, h2, b2⟩ := dw.tuple
      refine .inr (.inr (.inl ⟨p, q, xs, ys, rfl, rfl, Br.sqT h1, Br.sqT h2, line_of (by rw [b1.length, b2.length]; exact hl), fun z => ?_, fun z1 z2 => ?_, fun z1 z2 n hn => ?_⟩))
      · subst z
        cases b1
        exact k H _ (Step.refl _ _) rs (.tup h2 b2)
      · subst z2
        cases b2
        exact k H _ (Step.refl _ _) rs (.tup h1 (by rw [List.append_nil]; exact b1))
      · have st : Step ρ H ρ (upd H n (.tup (xs ++ ys))) := Step.newO hn
        exact k _ _ st (rs.new hn) (.tup (.inl ⟨.inl upd_same, rs.out hn⟩) ((b1.append b2).mono st))
    · cases e
  · split at e
    · rename_i a b hl
      cases e
      obtain ⟨p, xs, rfl, h1, b1⟩ := dv.list
      obtain ⟨q, ys, rfl, h2, b2⟩ := dw.list
      refine .inr (.inr (.inr ⟨p, q, xs, ys, rfl, rfl, h1, h2, line_of (by rw [b1.length, b2.length]; exact hl), fun n hn => ?_⟩))
      have st : Step ρ H ρ (upd H n (.lst (xs ++ ys))) := Step.newO hn
      exact k _ _ st (rs.new hn) (.lst ⟨upd_same, rs.out hn⟩ ((b1.append b2).mono st))
    · cases e
  · cases e⟩

/-! ### comparisons -/
theorem op_eqB (hu : X.A.units + 190 < cLine) : OpR X (compareOp .Eq) (fun x y H Q => ∃ d e, Dp X.K H x d ∧ Dp X.K H y e ∧ d.canLay0 = true ∧ e.canLay0 = true ∧ min d.depth e.depth ≤ 190 ∧ Q (.bl (PyData.eqv d e)) H) := by
  intro pins s σ H x y v u Q I rx ry h
  obtain ⟨d, e, hd, he, sd, se, hm, q⟩ := h
  obtain ⟨as, r1⟩ := Dp.reads I d x v hd rx
  obtain ⟨bs, r2⟩ := Dp.reads I e y u he ry
  exact SeqAt.compareEq_reads r1 r2 sd se (by omega) ⟨.bl _, H, I, rfl, q⟩
theorem op_neB (hu : X.A.units + 190 < cLine) : OpR X (compareOp .NotEq) (fun x y H Q => ∃ d e, Dp X.K H x d ∧ Dp X.K H y e ∧ d.canLay0 = true ∧ e.canLay0 = true ∧ min d.depth e.depth ≤ 190 ∧ Q (.bl (!PyData.eqv d e)) H) := by
  intro pins s σ H x y v u Q I rx ry h
  obtain ⟨d, e, hd, he, sd, se, hm, q⟩ := h
  obtain ⟨as, r1⟩ := Dp.reads I d x v hd rx
  obtain ⟨bs, r2⟩ := Dp.reads I e y u he ry
  exact SeqAt.compareNe_reads r1 r2 sd se (by omega) ⟨.bl _, H, I, rfl, q⟩
end
def fEq (t u : T) : Option T := if (decide (u.depth ≤ 190) || decide (t.depth ≤ 190)) = true then some (.bool (PyData.eqv t u)) else none
def fNe (t u : T) : Option T := if (decide (u.depth ≤ 190) || decide (t.depth ≤ 190)) = true then some (.bool (!PyData.eqv t u)) else none
theorem min_of {t u : T} (h : (decide (u.depth ≤ 190) || decide (t.depth ≤ 190)) = true) : min t.depth u.depth ≤ 190 := by
  rcases Bool.or_eq_true_iff.mp h with h | h
  · have := of_decide_eq_true h; omega
  · have := of_decide_eq_true h; omega
def fLt : T → T → Option T
  | .int i, .int j => some (.bool (decide (i < j)))
  | .str x, .str y => some (.bool (decide (x.cps.toList < y.cps.toList)))
  | _, _ => none
def fLe : T → T → Option T
  | .int i, .int j => some (.bool (decide (i ≤ j)))
  | .str x, .str y => some (.bool (!decide (y.cps.toList < x.cps.toList)))
  | _, _ => none
def fGt : T → T → Option T
  | .int i, .int j => some (.bool (decide (j < i)))
  | _, _ => none
def fGe : T → T → Option T
  | .int i, .int j => some (.bool (decide (j ≤ i)))
  | _, _ => none
def flatT : T → Bool
  | .none | .bool _ | .int _ | .str _ => true
  | _ => false
def fIn : T → T → Option T
  | .str c, .str z => match c.cps.toList with
    | [n] => some (.bool (decide (n ∈ z.cps.toList)))
    | _ => none
  | t, .tuple us => if flatT t = true ∧ us.all flatT = true then some (.bool (us.any fun y => PyData.eqv y t)) else none
  | t, .list us => if flatT t = true ∧ us.all flatT = true then some (.bool (us.any fun y => PyData.eqv y t)) else none
  | _, _ => none
def fNotIn (t u : T) : Option T := match fIn t u with
  | some (.bool b) => some (.bool (!b))
  | _ => none
theorem flat_br [Lams] {K : PySem.W.Frag} {ρ : List Addr} {H : Hp} {v : V} {t : T} (b : Br K ρ H v t) (h : flatT t = true) : flatV v = true := by
  cases b with
  | non => rfl
  | bl _ => rfl
  | int _ => rfl
  | str _ _ => rfl
  | tup _ _ => cases h
  | lst _ _ => cases h
theorem flat_eqv [Lams] {K : PySem.W.Frag} {ρ : List Addr} {H : Hp} {v w : V} {t u : T} (b : Br K ρ H v t) (c : Br K ρ H w u) (h : flatT t = true) (h' : flatT u = true) : eqV v w = PyData.eqv t u := by
  cases b <;> cases c <;> first | rfl | (cases h; done) | (cases h'; done)
theorem flat_all [Lams] {K : PySem.W.Frag} {ρ : List Addr} {H : Hp} : ∀ {vs : List V} {ts : List T}, BrA K ρ H vs ts → ts.all flatT = true → vs.all flatV = true
  | _, _, .nil, _ => rfl
  | _, _, .cons b a, h => by
    rw [List.all_cons, Bool.and_eq_true] at h ⊢
    exact ⟨flat_br b h.1, flat_all a h.2⟩
theorem flat_inV [Lams] {K : PySem.W.Frag} {ρ : List Addr} {H : Hp} {v : V} {t : T} (b : Br K ρ H v t) (h : flatT t = true) : ∀ {vs : List V} {ts : List T}, BrA K ρ H vs ts → ts.all flatT = true → inV v vs = ts.any fun y => PyData.eqv y t
  | _, _, .nil, _ => rfl
  | _, _, .cons c a, q => by
    rw [List.all_cons, Bool.and_eq_true] at q
    have ih := flat_inV b h a q.2
    unfold inV at ih ⊢
    rw [List.any_cons, List.any_cons, ih, flat_eqv c b q.1 h]
theorem Dv.flat [Lams] {K : PySem.W.Frag} {ρ : List Addr} {H : Hp} {v : V} {t : T} (d : Dv K ρ H v t) (h : flatT t = true) : Br K ρ H v t := by
  cases d with
  | t b => exact b
  | c _ _ => cases h
theorem Dv.seq [Lams] {K : PySem.W.Frag} {ρ : List Addr} {H : Hp} {v : V} {ts : List T} (d : Dv K ρ H v (.list ts)) : ∃ a xs, v = .ref a ∧ SqL K H a xs ∧ BrA K ρ H xs ts := by
  obtain ⟨a, xs, e, h, b⟩ := d.list
  exact ⟨a, xs, e, .inl (.inl h), b⟩
section
variable {X : Cx}
theorem o_eq [Lams] (hu : X.A.units + 190 < cLine) : Op2 X (compareOp .Eq) fEq := ⟨_, op_eqB hu, fun ρ H S v w t u z Q rs dv dw e k => by
  unfold fEq at e
  split at e
  · rename_i h
    cases e
    exact ⟨t, u, dv.dp, dw.dp, dv.lay, dw.lay, min_of h, k H _ (Step.refl _ _) rs (.bl _)⟩
  · cases e⟩
theorem o_ne [Lams] (hu : X.A.units + 190 < cLine) : Op2 X (compareOp .NotEq) fNe := ⟨_, op_neB hu, fun ρ H S v w t u z Q rs dv dw e k => by
  unfold fNe at e
  split at e
  · rename_i h
    cases e
    exact ⟨t, u, dv.dp, dw.dp, dv.lay, dw.lay, min_of h, k H _ (Step.refl _ _) rs (.bl _)⟩
  · cases e⟩
theorem o_lt [Lams] : Op2 X (compareOp .Lt) fLt := ⟨_, op_lt.or op_lt_str, fun ρ H S v w t u z Q rs dv dw e k => by
  unfold fLt at e
  split at e
  · cases e
    rw [dv.int, dw.int]
    exact .inl ⟨_, _, rfl, rfl, k H _ (Step.refl _ _) rs (.bl _)⟩
  · cases e
    rw [dv.str.1, dw.str.1]
    exact .inr ⟨_, _, rfl, rfl, k H _ (Step.refl _ _) rs (.bl _)⟩
  · cases e⟩
theorem o_le [Lams] : Op2 X (compareOp .LtE) fLe := ⟨_, op_le.or op_le_str, fun ρ H S v w t u z Q rs dv dw e k => by
  unfold fLe at e
  split at e
  · cases e
    rw [dv.int, dw.int]
    exact .inl ⟨_, _, rfl, rfl, k H _ (Step.refl _ _) rs (.bl _)⟩
  · cases e
    rw [dv.str.1, dw.str.1]
    exact .inr ⟨_, _, rfl, rfl, k H _ (Step.refl _ _) rs (.bl _)⟩
  · cases e⟩
theorem o_gt [Lams] : Op2 X (compareOp .Gt) fGt := ⟨_, op_gt, fun ρ H S v w t u z Q rs dv dw e k => by
  unfold fGt at e
  split at e
  · cases e
    rw [dv.int, dw.int]
    exact ⟨_, _, rfl, rfl, k H _ (Step.refl _ _) rs (.bl _)⟩
  · cases e⟩
theorem o_ge [Lams] : Op2 X (compareOp .GtE) fGe := ⟨_, op_ge, fun ρ H S v w t u z Q rs dv dw e k => by
  unfold fGe at e
  split at e
  · cases e
    rw [dv.int, dw.int]
    exact ⟨_, _, rfl, rfl, k H _ (Step.refl _ _) rs (.bl _)⟩
  · cases e⟩
theorem one_sign {c : Str} {n : Nat} (h : c.cps.toList = [n]) : c = ⟨#[n]⟩ := by
  obtain ⟨⟨l⟩⟩ := c
  have h' : l = [n] := h
  rw [h']
theorem o_in [Lams] : Op2 X (compareOp .In) fIn := ⟨_, op_in_sign.or op_in_seq, fun ρ H S v w t u z Q rs dv dw e k => by
  unfold fIn at e
  split at e
  · split at e
    · rename_i n hn
      cases e
      rw [dv.str.1, dw.str.1, one_sign hn]
      exact .inl ⟨_, _, rfl, rfl, k H _ (Step.refl _ _) rs (.bl _)⟩
    · cases e
  · split at e
    · rename_i h
      cases e
      obtain ⟨p, xs, rfl, h1, b1⟩ := dw.tuple
      have b := dv.flat h.1
      refine .inr ⟨p, xs, rfl, .inr (Br.sqT h1), flat_br b h.1, flat_all b1 h.2, ?_⟩
      rw [flat_inV b h.1 b1 h.2]
      exact k H _ (Step.refl _ _) rs (.bl _)
    · cases e
  · split at e
    · rename_i h
      cases e
      obtain ⟨p, xs, rfl, h1, b1⟩ := dw.seq
      have b := dv.flat h.1
      refine .inr ⟨p, xs, rfl, .inl h1, flat_br b h.1, flat_all b1 h.2, ?_⟩
      rw [flat_inV b h.1 b1 h.2]
      exact k H _ (Step.refl _ _) rs (.bl _)
    · cases e
  · cases e⟩
theorem o_notin [Lams] : Op2 X (compareOp .NotIn) fNotIn := ⟨_, op_notIn_sign.or op_notIn_seq, fun ρ H S v w t u z Q rs dv dw e k => by
  unfold fNotIn at e
  split at e
  · rename_i bb e1
    cases e
    unfold fIn at e1
    split at e1
    · split at e1
      · rename_i n hn
        cases e1
        rw [dv.str.1, dw.str.1, one_sign hn]
        exact .inl ⟨_, _, rfl, rfl, k H _ (Step.refl _ _) rs (.bl _)⟩
      · cases e1
    · split at e1
      · rename_i h
        cases e1
        obtain ⟨p, xs, rfl, h1, b1⟩ := dw.tuple
        have b := dv.flat h.1
        refine .inr ⟨p, xs, rfl, .inr (Br.sqT h1), flat_br b h.1, flat_all b1 h.2, ?_⟩
        rw [flat_inV b h.1 b1 h.2]
        exact k H _ (Step.refl _ _) rs (.bl _)
      · cases e1
    · split at e1
      · rename_i h
        cases e1
        obtain ⟨p, xs, rfl, h1, b1⟩ := dw.seq
        have b := dv.flat h.1
        refine .inr ⟨p, xs, rfl, .inl h1, flat_br b h.1, flat_all b1 h.2, ?_⟩
        rw [flat_inV b h.1 b1 h.2]
        exact k H _ (Step.refl _ _) rs (.bl _)
      · cases e1
    · cases e1
  · cases e⟩
/-- is None, is not None -/
def isNone : T → Bool
  | .none => true
  | _ => false
def fIsN (t u : T) : Option T := match u with
  | .none => some (.bool (isNone t))
  | _ => none
def fNotN (t u : T) : Option T := match u with
  | .none => some (.bool (!isNone t))
  | _ => none
theorem Dv.isN [Lams] {K : PySem.W.Frag} {ρ : List Addr} {H : Hp} {v : V} {t : T} (d : Dv K ρ H v t) : decide (v = V.non) = isNone t := by
  cases d with
  | t b => cases b <;> simp [isNone]
  | c _ _ => simp [isNone]
theorem o_isN [Lams] : Op2 X (compareOp .Is) fIsN := ⟨_, op_isN, fun ρ H S v w t u z Q rs dv dw e k => by
  unfold fIsN at e
  split at e
  · cases e
    refine ⟨dw.non, ?_⟩
    rw [dv.isN]
    exact k H _ (Step.refl _ _) rs (.bl _)
  · cases e⟩
theorem o_notN [Lams] : Op2 X (compareOp .IsNot) fNotN := ⟨_, op_notN, fun ρ H S v w t u z Q rs dv dw e k => by
  unfold fNotN at e
  split at e
  · cases e
    refine ⟨dw.non, ?_⟩
    rw [dv.isN]
    exact k H _ (Step.refl _ _) rs (.bl _)
  · cases e⟩
end
/-- - n -/
def eNeg (a : Sem) : Sem := fun L S => match a L S with
  | some (.d (.int i), S1) => some (.d (.int (-i)), S1)
  | _ => none
theorem pm_neg [Lams] {X : Cx} {a : Expr} {ma : Sem} {pos : Pos} (ha : PM X a ma) : PM X (.UnaryOp .USub a pos) (eNeg ma) := imp (pe_un un_neg ha) fun σ H Q ⟨ρ, L, S, x, S', rl, r, e, k⟩ => by
  unfold eNeg at e
  split at e
  · rename_i i S1 h1
    cases e
    refine ⟨ρ, L, S, _, _, rl, r, h1, fun ρ1 H1 v s1 r1 b1 => ?_⟩
    cases b1
    exact ⟨i, rfl, k ρ1 H1 _ s1 r1 (.int _)⟩
  · cases e

/-! ### subscripts, slices -/
def fIdx : T → T → Option T
  | .tuple ts, .int i => atI ts i
  | .list ts, .int i => atI ts i
  | .str z, .int i => if z.length ≤ 100000 then (match atI z.cps.toList i with | some c => some (.str ⟨#[c]⟩) | none => none) else none
  | _, _ => none
theorem BrA.atI [Lams] {K : PySem.W.Frag} {ρ : List Addr} {H : Hp} {vs : List V} {ts : List T} {i : Int} {t : T} (b : BrA K ρ H vs ts) (h : L2.atI ts i = some t) : ∃ v, L2.atI vs i = some v ∧ Br K ρ H v t := by
  unfold L2.atI at h ⊢
  rw [b.length]
  cases hx : ixN ts.length i with
  | none => rw [hx] at h; cases h
  | some j =>
    rw [hx] at h
    exact b.get h
theorem strOk_one {z : Str} {c : Nat} (h : PyData.strOk z = true) (hc : c ∈ z.cps.toList) : PyData.strOk ⟨#[c]⟩ = true := by
  have h2 := (Array.all_eq_true_iff_forall_mem.mp h) c (by simpa using hc)
  show (#[c]).all (· < 0x110000) = true
  simpa using h2
theorem atI_mem {α : Type} {xs : List α} {i : Int} {v : α} (h : L2.atI xs i = some v) : v ∈ xs := by
  obtain ⟨j, _, e, _⟩ := atI_get h
  exact List.mem_of_getElem? e
theorem pm_idx [Lams] {X : Cx} {a b : Expr} {ma mb : Sem} {pos : Pos} (ha : PM X a ma) (hb : PM X b mb) (hs : PlainIx b := by intro _ _; kernel_rfl) : PM X (.Subscript a b pos) (eBin fIdx ma mb) :=
  imp (pe_ix ix_seq ha hb hs) (tM_op fun ρ H S v w t u z Q rs dv dw e k => by
    unfold fIdx at e
    split at e
    · obtain ⟨p, xs, rfl, h1, b1⟩ := dv.tuple
      obtain ⟨y, h2, b2⟩ := b1.atI e
      rw [dw.int]
      exact .inr (.inl ⟨p, xs, _, y, rfl, rfl, Br.sqT h1, h2, k H y (Step.refl _ _) rs b2⟩)
    · obtain ⟨p, xs, rfl, h1, b1⟩ := dv.seq
      obtain ⟨y, h2, b2⟩ := b1.atI e
      rw [dw.int]
      exact .inl ⟨p, xs, _, y, rfl, rfl, h1, h2, k H y (Step.refl _ _) rs b2⟩
    · split at e
      · rename_i hl
        split at e
        · rename_i c hc
          cases e
          obtain ⟨rfl, ho⟩ := dv.str
          rw [dw.int]
          exact .inr (.inr ⟨_, _, c, rfl, rfl, line_of hl, hc, k H _ (Step.refl _ _) rs (.str _ (strOk_one ho (atI_mem hc)))⟩)
        · cases e
      · cases e
    · cases e)
def cutT (ts : List T) (lo hi : Option Int) : List T := (ts.drop (HT.sIx ts.length 0 lo)).take (HT.sIx ts.length ts.length hi - HT.sIx ts.length 0 lo)
def fSl : T → Option Int → Option Int → Option T
  | .tuple ts, lo, hi => some (.tuple (cutT ts lo hi))
  | .list ts, lo, hi => some (.list (cutT ts lo hi))
  | .str z, lo, hi => if z.length ≤ 100000 then some (.str (cutS z lo hi)) else none
  | _, _, _ => none
def ePart : Option Sem → Lc → So → Option (Option Int × So)
  | none, _, S => some (none, S)
  | some m, L, S => match m L S with
    | some (.d (.int i), S1) => some (some i, S1)
    | _ => none
def eSl (a : Sem) (lo hi : Option Sem) : Sem := fun L S => match a L S with
  | some (x, S1) => match ePart lo L S1 with
    | some (l, S2) => match ePart hi L S2 with
      | some (h, S3) => match deref S3 x with
        | some t => match fSl t l h with
          | some z => some (.d z, S3)
          | none => none
        | none => none
      | none => none
    | none => none
  | none => none
def PMO [Lams] (X : Cx) (e : Option Expr) (m : Option Sem) : Prop := PO X e (fun σ H Q => ∃ ρ L S o S', RelL X.K ρ H σ L ∧ Rel X.K ρ H S ∧ ePart m L S = some (o, S') ∧ ∀ ρ' H', Step ρ H ρ' H' → Rel X.K ρ' H' S' → Q o H')
theorem strOk_cut {z : Str} {lo hi : Option Int} (h : PyData.strOk z = true) : PyData.strOk (cutS z lo hi) = true := by
  unfold PyData.strOk cutS
  rw [Array.all_eq_true_iff_forall_mem]
  intro x hx
  have h1 : x ∈ ((z.cps.toList.drop (HT.sIx z.length 0 lo)).take (HT.sIx z.length z.length hi - HT.sIx z.length 0 lo)) := by simpa using hx
  have h2 : x ∈ z.cps.toList := List.mem_of_mem_drop (List.mem_of_mem_take h1)
  exact (Array.all_eq_true_iff_forall_mem.mp h) x (by simpa using h2)
section
variable {X : Cx} {pos p2 : Pos} {a : Expr} {ma : Sem}
theorem impO {e : Option Expr} {t t' : TO} (h : PO X e t) (i : ∀ σ H Q, t' σ H Q → t σ H Q) : PO X e t' := ⟨fun pins s σ H Q I q => h.run pins s σ H Q I (i σ H Q q)⟩
theorem pmo_none [Lams] : PMO X none none := impO po_none fun σ H Q ⟨ρ, L, S, o, S', rl, r, e, k⟩ => by
  cases e
  exact k ρ H (Step.refl _ _) r
theorem pmo_some [Lams] (h : PM X a ma) : PMO X (some a) (some ma) := impO (po_some h) fun σ H Q ⟨ρ, L, S, o, S', rl, r, e, k⟩ => by
  unfold ePart at e
  simp only at e
  split at e
  · rename_i i S1 h1
    cases e
    refine ⟨ρ, L, S, _, _, rl, r, h1, fun ρ1 H1 v s1 r1 b1 => ?_⟩
    cases b1
    exact ⟨i, rfl, k ρ1 H1 s1 r1⟩
  · cases e
theorem eSl_inv {lo hi : Option Sem} {L : Lc} {S S' : So} {w : Vl} (h : eSl ma lo hi L S = some (w, S')) :
    ∃ x S1 l S2 u t z, ma L S = some (x, S1) ∧ ePart lo L S1 = some (l, S2) ∧ ePart hi L S2 = some (u, S') ∧ deref S' x = some t ∧ fSl t l u = some z ∧ w = .d z := by
  unfold eSl at h
  split at h
  · rename_i x S1 h1
    split at h
    · rename_i l S2 h2
      split at h
      · rename_i u S3 h3
        split at h
        · rename_i t h4
          split at h
          · rename_i z h5
            cases h
            exact ⟨x, S1, l, S2, u, t, z, h1, h2, h3, h4, h5, rfl⟩
          · cases h
        · cases h
      · cases h
    · cases h
  · cases h
theorem BrA.cut [Lams] {K : PySem.W.Frag} {ρ : List Addr} {H : Hp} {vs : List V} {ts : List T} (b : BrA K ρ H vs ts) (lo hi : Option Int) : BrA K ρ H (cutV vs lo hi) (cutT ts lo hi) := by
  unfold cutV cutT
  rw [b.length]
  exact (b.drop _).take _
theorem cut_whole {vs : List V} {lo hi : Option Int} (h : HT.sIx vs.length 0 lo = 0 ∧ HT.sIx vs.length vs.length hi = vs.length) : cutV vs lo hi = vs := by
  unfold cutV
  rw [h.1, h.2, Nat.sub_zero, List.drop_zero, List.take_length]
theorem pm_slice [Lams] {elo ehi : Option Expr} {lo hi : Option Sem} (ha : PM X a ma) (hl : PMO X elo lo) (hh : PMO X ehi hi) : PM X (.Subscript a (.Slice elo ehi none p2) pos) (eSl ma lo hi) :=
  imp (pe_slice (sl_tupA.or (sl_list.or sl_str)) ha hl hh) fun σ H Q ⟨ρ, L, S, x, S', rl, r, e, k⟩ => by
    obtain ⟨y, S1, l, S2, u, t, z, h1, h2, h3, h4, h5, rfl⟩ := eSl_inv e
    refine ⟨ρ, L, S, y, S1, rl, r, h1, fun ρ1 H1 v s1 r1 b1 => ⟨ρ1, L, S1, l, S2, rl.mono s1, r1, h2, fun ρ2 H2 s2 r2 => ⟨ρ2, L, S2, u, S', (rl.mono s1).mono s2, r2, h3, fun ρ3 H3 s3 r3 => ?_⟩⟩⟩
    have dv := ((b1.mono s2).mono s3).dv r3 h4
    have st := (s1.trans s2).trans s3
    unfold fSl at h5
    split at h5
    · cases h5
      obtain ⟨p, xs, rfl, h1, b⟩ := dv.tuple
      refine .inl ⟨p, xs, rfl, Br.sqT h1, fun hw => ?_, fun _ n hn => ?_⟩
      · refine k ρ3 H3 _ st r3 (.tup h1 ?_)
        have q := b.cut l u
        rw [cut_whole hw] at q
        exact q
      · have s4 : Step ρ3 H3 ρ3 (upd H3 n (.tup (cutV xs l u))) := Step.newO hn
        exact k ρ3 _ _ (st.trans s4) (r3.new hn) (.tup (.inl ⟨.inl upd_same, r3.out hn⟩) ((b.cut l u).mono s4))
    · cases h5
      obtain ⟨p, xs, rfl, h1, b⟩ := dv.seq
      refine .inr (.inl ⟨p, xs, rfl, h1, fun n hn => ?_⟩)
      have s4 : Step ρ3 H3 ρ3 (upd H3 n (.lst (cutV xs l u))) := Step.newO hn
      exact k ρ3 _ _ (st.trans s4) (r3.new hn) (.lst ⟨upd_same, r3.out hn⟩ ((b.cut l u).mono s4))
    · split at h5
      · rename_i hl
        cases h5
        obtain ⟨rfl, ho⟩ := dv.str
        exact .inr (.inr ⟨_, rfl, line_of hl, k ρ3 H3 _ st r3 (.str _ (strOk_cut ho))⟩)
      · cases h5
    · cases h5
end
end Mn

/-! MnFn: defs' promises where no repr is under way (FnG), their entry, their calls, the law's call. -/
namespace Mn
open PySem PySem.Spec PyProof.Rows L2

abbrev SpG := List V → Hp → VK → Prop
def NoX : XK := fun _ _ _ => False
def NoCX : CXT := fun _ _ _ _ _ _ => False
/-- the def at f keeps its promise in every call with room in which no guarded built-in is under way -/
def FnG (P : Program) (w : World) (K : PySem.W.Frag) (mg : Str → Option Value) (base : Heap) (k : Nat) (f : Addr) (fd : FuncData) (ps : List Str) (sp : SpG) : Prop :=
  ∀ (A : Around) (outer : List Env) (s : Shared) (H : Hp) (args : Args) (us : List Value) (vs : List V) (Q : VK), Room k A → A.guards = some [] → Env0 P w K mg base A outer s H →
    us.length = ps.length → BindsTo s fd args (ps.zip us) → Vals vs us → sp vs H Q → codeAny (model P w) A (.call (.ref f) args) (CR NoCX outer P w H s Q NoX) s
theorem FnG.mono {P : Program} {w : World} {K : PySem.W.Frag} {mg : Str → Option Value} {base : Heap} {j k : Nat} {f : Addr} {fd : FuncData} {ps : List Str} {sp : SpG} (F : FnG P w K mg base j f fd ps sp) (h : j ≤ k) : FnG P w K mg base k f fd ps sp :=
  fun A outer s H args us vs Q hr => F A outer s H args us vs Q (hr.mono h)
theorem FnG.imp {P : Program} {w : World} {K : PySem.W.Frag} {mg : Str → Option Value} {base : Heap} {k : Nat} {f : Addr} {fd : FuncData} {ps : List Str} {sp sp' : SpG} (F : FnG P w K mg base k f fd ps sp) (h : ∀ vs H Q, sp' vs H Q → sp vs H Q) : FnG P w K mg base k f fd ps sp' :=
  fun A outer s H args us vs Q hr hg e0 hl hb r hs => F A outer s H args us vs Q hr hg e0 hl hb r (h _ _ _ hs)

/-- the context of a body -/
abbrev CxG (P : Program) (w : World) (K : PySem.W.Frag) (mg : Str → Option Value) (base : Heap) (N : List Str) (qual : Str) (st : Stmt) (f : Addr) (cdv : Value) (A : Around) (outer : List Env) (s : Shared) (H : Hp) : Cx :=
  (cxOf NoCX P w K mg base N qual (defScope st) f cdv A outer s H NoX).nox
section
variable {P : Program} {w : World} {K : PySem.W.Frag} {mg : Str → Option Value} {base : Heap}
theorem fnG_of {x qual : Str} {st : Stmt} {f : Addr} {fd : FuncData} {N ps : List Str} {k : Nat} {sp : SpG} (F : Fun K x qual st f fd) (S : FnScope N ps (defScope st))
    (hbody : ∀ (cdv : Value) (A : Around) (outer : List Env) (s : Shared) (H : Hp) (vs : List V) (Q : VK), Room k (A.deeper (envOfC qual (defScope st) s.heap.objs.size f cdv)) → A.guards = some [] → vs.length = ps.length → sp vs H Q →
      ∃ t, PSs (CxG P w K mg base N qual st f cdv A outer s H) (defBody st) t ∧ t { nx := fun _ H' => Q .non H', rt := Q } (start N vs) H) : FnG P w K mg base (k + 1) f fd ps sp := by
  intro A outer s H args us vs Q hr hg e0 hlu hb r hs
  obtain ⟨oc, od, kV, doc, pm, an, cdv, ct, osl, rfl, lk, hcd⟩ := F.ex
  have hlv : vs.length = ps.length := r.length.trans hlu
  have there : ∀ b o, base.get? b = some o → s.heap.get? b = some o := fun b o e => (e0.bs b o e).1
  refine Att.call_fn (e0.mod.kin.keeps there) (e0.mod.nolimit.keeps there) lk hcd hr.depth hb ?_ (fun s1 x => ?_) S.co S.gen S.kind
  · rw [List.all_eq_true]
    rintro ⟨n, u⟩ hm
    rcases S.par n (List.of_mem_zip hm).1 with q | q <;> simp [q]
  · obtain ⟨t, ht, hq⟩ := hbody cdv A outer s H vs Q (hr.deeper _) hg hlv hs
    have I0 := inv_start (CX := NoCX) (E := NoX) S hr.hd e0 hlv r x
    refine wpAny_mono (ht.nox.run [] s1 (start N vs) H _ I0 hq) (fun fl s2 hf => ?_) fun e s2 he => he
    cases fl with
    | next =>
      obtain ⟨_, H', J, q⟩ := hf
      exact ⟨V.non, H', J.os, J.bare, J.base, J.hok, rfl, q⟩
    | ret u =>
      obtain ⟨v, _, H', J, rv, q⟩ := hf
      exact ⟨v, H', J.os, J.bare, J.base, J.hok, rv, q⟩
    | brk => exact (hf.elim fun _ h => h.elim fun _ h => h.2).elim
    | cont => exact (hf.elim fun _ h => h.elim fun _ h => h.2).elim
end
section
variable {X : Cx} {k : Nat} {f : Addr} {fd : FuncData} {ps : List Str} {sp : SpG}
/-- the callee's run -/
theorem goG {pins : List (Addr × Obj)} {σ : L2.St} {H : Hp} {s : Shared} {Q : VK} {args : Args} {us : List Value} {vs : List V} {R : Result → Shared → Prop} (F : FnG X.prog X.w X.K X.mg X.base k f fd ps sp) (hr : Room k X.A) (hgd : X.A.guards = some [])
    (I : Inv X pins σ H s) (hl : us.length = ps.length) (hb : BindsTo s fd args (ps.zip us)) (r : Vals vs us) (h : sp vs H Q)
    (back : ∀ u s', EP X pins σ Q u s' → R (.ok (.ret u)) s') : codeAny (model X.prog X.w) X.A (.call (.ref f) args) R s :=
  codeAny_mono (F X.A X.stack s H args us vs Q hr hgd I.env0 hl hb r h) fun res s' hq => match res, hq with
    | .ok (.ret u), hq => back u s' (I.after hq)
    | .ok .next, hq => False.elim hq
    | .ok .brk, hq => False.elim hq
    | .ok .cont, hq => False.elim hq
    | .error _, hq => False.elim hq

def tCallG (sp : SpG) (n : Nat) (dvs : List V) (t : TA) : TE := fun σ H Q => t σ H fun vs H1 => (vs ++ dvs).length = n ∧ sp (vs ++ dvs) H1 Q
variable {x : Str} {p pos : Pos} {e : Expr} {es : List Expr} {t : TA} {ds : List Value} {dvs : List V}
theorem pe_callG (F : FnG X.prog X.w X.K X.mg X.base k f fd ps sp) (hr : Room k X.A) (hgd : X.A.guards = some []) (hg : Gl X x) (hm : X.mg x = some (.ref f)) (hk : PySem.W.keepIn X.K (.ref f) = true) (hb : Binds X.K fd ps ds) (hd : Vals dvs ds)
    (ha : PA X (e :: es) t) (hdb : (x == ("__debug__" : Str)) = false := by kernel_rfl) (he : starEach (e :: es) X.env = (false, eval e X.env) :: starEach es X.env := by kernel_rfl) (hpl : (backTo pos (starEach es X.env)).any (·.1) = false := by kernel_rfl) :
    PE X (.Call (.Name x p) (e :: es) [] pos) (tCallG sp ps.length dvs t) := ⟨fun pins s σ H Q I h => by
  refine wpAny_Call_Name_kw (ld_glob I hg hm (PySem.W.callWith_K (h₀ := X.base) I.mod.kin hk ?_ he hpl) hdb)
  refine thn (ha.run pos pins s σ H _ I h) fun us s1 ⟨vs, H1, I1, r, hn, q⟩ => ⟨I1.kIn, ?_⟩
  have r2 := r.append hd
  have hl : (us ++ ds).length = ps.length := r2.length.symm.trans hn
  exact wpAny_call (goG F hr hgd I1 hl (hb s1 us I1.kIn hl) r2 q fun u s' z => z)⟩
/-- f(), no argument -/
theorem pe_callG0 (F : FnG X.prog X.w X.K X.mg X.base k f fd ps sp) (hr : Room k X.A) (hgd : X.A.guards = some []) (hg : Gl X x) (hm : X.mg x = some (.ref f)) (hk : PySem.W.keepIn X.K (.ref f) = true) (hb : Binds X.K fd ps ds) (hd : Vals dvs ds)
    (hdb : (x == ("__debug__" : Str)) = false := by kernel_rfl) : PE X (.Call (.Name x p) [] [] pos) (tCallG sp ps.length dvs tNil) := ⟨fun pins s σ H Q I ⟨hn, q⟩ => by
  refine wpAny_Call_Name_kw (ld_glob I hg hm (PySem.W.callWith_K0 I.kIn hk ?_) hdb)
  have hl : ds.length = ps.length := hd.length.symm.trans hn
  exact wpAny_call (goG F hr hgd I hl (hb s [] I.kIn hl) hd q fun u s' z => z)⟩
/-! keywords: is tells, for each parameter, which of the values (the places first, then the keywords') it gets -/
def pick {α : Type} (is : List Nat) (xs : List α) : List α := is.filterMap fun i => xs[i]?
structure KwB (K : PySem.W.Frag) (fd : FuncData) (ps ks : List Str) (is : List Nat) (n : Nat) : Prop where
  to : ∀ (s : Shared) (us ws : List Value), K.In s.heap → us.length = n → ws.length = ks.length → BindsTo s fd ⟨us, ks.zip ws⟩ (ps.zip (pick is (us ++ ws)))
theorem pick_vals {is : List Nat} {vs : List V} {us : List Value} (r : Vals vs us) : Vals (pick is vs) (pick is us) := by
  induction is with
  | nil => exact .nil
  | cons i is ih =>
    unfold pick at ih ⊢
    rw [List.filterMap_cons, List.filterMap_cons]
    cases hv : vs[i]? with
    | none =>
      rw [r.none_of hv]
      exact ih
    | some v =>
      obtain ⟨u, hu, rv⟩ := r.get hv
      rw [hu]
      exact .cons rv ih
def tCallGK (sp : SpG) (is : List Nat) (n nk np : Nat) (t tk : TA) : TE := fun σ H Q => t σ H fun vs H1 => tk σ H1 fun zs H2 => vs.length = n ∧ zs.length = nk ∧ (pick is (vs ++ zs)).length = np ∧ sp (pick is (vs ++ zs)) H2 Q
variable {ks : List Str} {kws : List Keyword} {tk : TA} {is : List Nat} {n : Nat}
theorem kw_body {us : List Value} {pins : List (Addr × Obj)} {s1 : Shared} {σ : L2.St} {H1 : Hp} {vs : List V} {Q : VK} (F : FnG X.prog X.w X.K X.mg X.base k f fd ps sp) (hr : Room k X.A) (hgd : X.A.guards = some []) (hb : KwB X.K fd ps ks is n) (hkw : PK X kws tk)
    (hks : (backToKw pos (keywordEach kws X.env)).filterMap (·.1) = ks) (I1 : Inv X pins σ H1 s1) (r : Vals vs us) (q : tk σ H1 fun zs H2 => vs.length = n ∧ zs.length = ks.length ∧ (pick is (vs ++ zs)).length = ps.length ∧ sp (pick is (vs ++ zs)) H2 Q) :
    wpAny (model X.prog X.w) X.A (evalAll ((backToKw pos (keywordEach kws X.env)).map (·.2))) (fun ws s2 => X.K.In s2.heap ∧ wpAny (model X.prog X.w) X.A (call (.ref f) us (((backToKw pos (keywordEach kws X.env)).filterMap (·.1)).zip ws)) (EP X pins σ Q) X.xe s2) X.xe s1 := by
  refine thn (hkw.run pos pins s1 σ H1 _ I1 q) fun ws s2 ⟨zs, H2, I2, rz, l1, l2, l3, q2⟩ => ⟨I2.kIn, ?_⟩
  rw [hks]
  have r2 := pick_vals (is := is) (r.append rz)
  have hl : (pick is (us ++ ws)).length = ps.length := r2.length.symm.trans l3
  exact wpAny_call (goG F hr hgd I2 hl (hb.to s2 us ws I2.kIn (r.length.symm.trans l1) (rz.length.symm.trans l2)) r2 q2 fun u s' z => z)
theorem pe_callGK (F : FnG X.prog X.w X.K X.mg X.base k f fd ps sp) (hr : Room k X.A) (hgd : X.A.guards = some []) (hg : Gl X x) (hm : X.mg x = some (.ref f)) (hk : PySem.W.keepIn X.K (.ref f) = true) (hb : KwB X.K fd ps ks is n)
    (ha : PA X (e :: es) t) (hkw : PK X kws tk) (hall : (backToKw pos (keywordEach kws X.env)).all (·.1.isSome) = true := by kernel_rfl) (hks : (backToKw pos (keywordEach kws X.env)).filterMap (·.1) = ks := by kernel_rfl)
    (hdb : (x == ("__debug__" : Str)) = false := by kernel_rfl) (he : starEach (e :: es) X.env = (false, eval e X.env) :: starEach es X.env := by kernel_rfl)
    (hpl : ((backTo pos (starEach (e :: es) X.env)).any (·.1) || (backToKw pos (keywordEach kws X.env)).any (·.1.isNone)) = false := by kernel_rfl) : PE X (.Call (.Name x p) (e :: es) kws pos) (tCallGK sp is n ks.length ps.length t tk) := ⟨fun pins s σ H Q I h => by
  refine wpAny_Call_Name_kw (ld_glob I hg hm (PySem.W.callWith_KW (h₀ := X.base) I.mod.kin hk hall ?_ hpl he) hdb)
  exact thn (ha.run pos pins s σ H _ I h) fun us s1 ⟨vs, H1, I1, r, q⟩ => kw_body F hr hgd hb hkw hks I1 r q⟩
end
end Mn

/-! MnTop: the law's call from its promise (FnG). -/
namespace Mn
open PySem PySem.Spec PyProof.Rows L2
section
variable {P : Program} {w : World} {K : PySem.W.Frag} {mg mb : Str → Option Value} {k : Nat} {fa a : Addr} {fd : FuncData} {x : Str} {sp : SpG} {s₁ : Shared} {vs : List Value} {ns : List Int}
/-- the script's object, as the law gets it -/
abbrev scriptO (vs : List Value) : Obj := { cls := .type "list", data := .seq vs.toArray }
/-- what is tracked at the law's call: the script, unless the module has it written -/
def H0 (K : PySem.W.Frag) (a : Addr) (vs : List Value) (ns : List Int) : Hp := fun b => if b = a ∧ (K.lookup a).isNone = true then some (.frz (scriptO vs) (.lst (ns.map V.int))) else none
theorem H0_some {b : Addr} {u : HO} (h : H0 K a vs ns b = some u) : b = a ∧ K.lookup a = none ∧ u = .frz (scriptO vs) (.lst (ns.map V.int)) := by
  unfold H0 at h
  split at h
  · rename_i c
    cases h
    exact ⟨c.1, Option.isNone_iff_eq_none.mp c.2, rfl⟩
  · cases h
theorem H0_script (ha : ∀ o, K.lookup a = some o → o = scriptO vs) (hi : IntsAre vs ns) (hl : ns.length ≤ sizeLine) : (Rd (H0 K a vs ns) a (.lst (ns.map V.int))) ∨ ∀ H', SqL K H' a (ns.map V.int) := by
  cases hk : K.lookup a with
  | none => exact .inl (.inr ⟨scriptO vs, if_pos ⟨rfl, by rw [hk]; rfl⟩⟩)
  | some o =>
    refine .inr fun H' => .inr ⟨o, vs.toArray, 0, hk, ?_⟩
    rw [ha o hk]
    exact ⟨rfl, rfl, rfl, by rw [List.size_toArray, hi.length]; exact hl, by simpa using vals_ints hi⟩
theorem topG (KX : K.In s₁.heap) (hns : s₁.heap.Ns mainGlobals mg) (hb : s₁.heap.Ns builtinsNs mb) (hbb : ∀ x : Str, x ≠ "__name__" → mb x = bootBuiltins x) (hlim : s₁.heap.NoLimit) (hg : s₁.gens = #[])
    (ha : s₁.heap.get? a = some (scriptO vs)) (hi : IntsAre vs ns) (hl : ns.length ≤ sizeLine) (hr : Room k callerA)
    (F : ∀ base : Heap, K.In base → base.Ns mainGlobals mg → FnG P w K mg base k fa fd [x] sp) (hbind : ∀ (s : Shared) (u : Value), BindsTo s fd ⟨[u], []⟩ [(x, u)])
    (hsp : ∀ H : Hp, ((Rd H a (.lst (ns.map V.int))) ∨ ∀ H', SqL K H' a (ns.map V.int)) → sp [.ref a] H fun v _ => v = .bl true) :
    codeAny (model P w) callerA (.call (.ref fa) ⟨[.ref a], []⟩) (fun r s' => r = .ok (.ret (.bool true)) ∧ OldK s₁.heap s'.heap ∧ s'.os = s₁.os ∧ AllBare s'.gens) s₁ := by
  have hkA : ∀ o, K.lookup a = some o → o = scriptO vs := fun o e => by
    have q := KX a o e
    rw [ha] at q
    exact (Option.some.inj q).symm
  have out : ∀ b, H0 K a vs ns b ≠ none → b = a ∧ K.lookup a = none := fun b h => by
    cases q : H0 K a vs ns b with
    | none => exact absurd q h
    | some u => exact ⟨(H0_some q).1, (H0_some q).2.1⟩
  have hok : HOk P w (H0 K a vs ns) s₁.heap := fun b u h => by
    obtain ⟨rfl, _, rfl⟩ := H0_some h
    exact ⟨ha, by rw [List.length_map]; exact hl, vs, _, vals_ints hi, ha⟩
  have low : ∀ {b : Addr} {o : Obj}, s₁.heap.get? b = some o → (b = a → False) → (hidT s₁.heap (H0 K a vs ns)).get? b = some o := fun {b o} e n => by
    refine hidT_get e ?_
    cases q : H0 K a vs ns b with
    | none => rfl
    | some u => exact (n (H0_some q).1).elim
  have lowNs : ∀ {b : Addr} {m : Str → Option Value}, s₁.heap.Ns b m → (hidT s₁.heap (H0 K a vs ns)).Ns b m := fun {b m} ⟨o, es, ep, e, d, r⟩ => ⟨o, es, ep, low e (fun z => by
    subst z
    rw [ha] at e
    cases e
    have d' : Data.seq vs.toArray 0 = Data.dict es ep := d
    cases d'), d, r⟩
  have lowK : K.In (hidT s₁.heap (H0 K a vs ns)) := fun b o e => by
    cases q : H0 K a vs ns b with
    | none => exact hidT_get (KX b o e) q
    | some u =>
      obtain ⟨z1, z2, _⟩ := H0_some q
      rw [z1, z2] at e
      cases e
  have e0 : Env0 P w K mg (hidT s₁.heap (H0 K a vs ns)) callerA [] s₁ (H0 K a vs ns) := by
    obtain ⟨ml, l1, l2⟩ := hlim
    exact ⟨rfl, ⟨lowK, lowNs hns, ⟨mb, lowNs hb, hbb⟩, ⟨ml, lowNs l1, l2⟩⟩, fun b o e => of_hidT e, by rw [hidT_size]; exact Nat.le_refl _, trivial, fun b hb => absurd (show b ∈ ([] : List Addr) from hb) (by simp), hok, AllBare.of_eq hg⟩
  refine codeAny_mono (F _ lowK (lowNs hns) callerA [] s₁ (H0 K a vs ns) ⟨[.ref a], []⟩ [.ref a] [.ref a] _ hr rfl e0 rfl (hbind s₁ (.ref a)) (.cons rfl .nil) (hsp _ (H0_script hkA hi hl))) fun res s' h => ?_
  match res, h with
  | .ok (.ret u), ⟨v, H', h1, h2, h3, h4, h5, h6⟩ =>
    have e6 : v = .bl true := h6
    subst e6
    have e5 : u = Value.bool true := h5
    subst e5
    refine ⟨rfl, OldK.of_keep fun b o e => ?_, h1, h2⟩
    cases q : H0 K a vs ns b with
    | none => exact h3.keep b o e q (by intro z; cases z) (by simp)
    | some u =>
      obtain ⟨rfl, _, rfl⟩ := H0_some q
      have q2 := (h4 b _ (h3.frzs b _ _ q)).1
      rw [ha] at e
      cases e
      exact q2
  | .ok .next, h => exact False.elim h
  | .ok .brk, h => exact False.elim h
  | .ok .cont, h => exact False.elim h
  | .error e, h => exact False.elim h
end
/-- the goal that the head leaves, from the law's promise -/
theorem walkG {l : PySem.W.OpenLaw} {n k : Nat} {q : Program} {loose : List Str} {XP : (Str → Option Value) → Heap → Prop} {YP : World → Heap → Prop} {d : DefRec} {K : Params → PySem.W.Frag} {sp : World → SpG} {x : Str}
    (hn : l.most = some n) (hn2 : n ≤ sizeLine) (hdf : d.params.defaults = []) (hr : Room k callerA) (hY : ∀ (w : World) (h : Heap), YP w h → (K w.params).In h)
    (F : ∀ (w : World) (mg : Str → Option Value) (fa : Addr) (h : Heap), (K w.params).In h → h.Ns mainGlobals mg → mg d.name = some (.ref fa) →
      ∃ fd : FuncData, (∀ (s : Shared) (u : Value), BindsTo s fd ⟨[u], []⟩ [(x, u)]) ∧ ∀ base : Heap, (K w.params).In base → base.Ns mainGlobals mg → FnG l.prog w (K w.params) mg base k fa fd [x] (sp w))
    (hsp : ∀ (w : World) (H : Hp) (a : Addr) (ns : List Int), ns.length ≤ n → ((Rd H a (.lst (ns.map V.int))) ∨ ∀ H', SqL (K w.params) H' a (ns.map V.int)) → sp w [.ref a] H fun v _ => v = .bl true) :
    PySem.W.WalkO q loose XP YP l.row.toRowW d [] (fun f vs => PySem.call f vs) :=
  Att.attach_call hn hdf fun w s₀ s₁ mg mb fa o pm cd doc a vs ns G Y ho hd hcd hmg hobj hints hlen hg => by
    obtain ⟨fd, hb, hF⟩ := F w mg fa _ (hY w _ Y) G.T.g hmg
    exact topG (hY w _ Y) G.T.g G.T.b G.T.builtins G.T.nolimit hg hobj hints (Nat.le_trans hlen hn2) hr hF hb fun H h => hsp w H a ns hlen h
end Mn

/-! MnStm: statements, loops, comprehensions, defs. -/
namespace Mn
open PySem PySem.Spec PyProof.Rows L2

inductive Out where
  | nx (L : Lc) (S : So)
  | rt (x : Vl) (S : So)
  | bk (L : Lc) (S : So)
  | ct (L : Lc) (S : So)
abbrev Sts := Lc → So → Option Out
abbrev Fn := List Vl → So → Option (Vl × So)
def Post [Lams] (K : PySem.W.Frag) (ρ : List Addr) (H : Hp) (D : Ends) : Out → Prop
  | .nx L S => ∀ ρ' H' σ', Step ρ H ρ' H' → Rel K ρ' H' S → RelL K ρ' H' σ' L → D.nx σ' H'
  | .rt x S => ∀ ρ' H' v, Step ρ H ρ' H' → Rel K ρ' H' S → VB K ρ' H' v x → D.rt v H'
  | .bk L S => ∀ ρ' H' σ', Step ρ H ρ' H' → Rel K ρ' H' S → RelL K ρ' H' σ' L → D.bk σ' H'
  | .ct L S => ∀ ρ' H' σ', Step ρ H ρ' H' → Rel K ρ' H' S → RelL K ρ' H' σ' L → D.ct σ' H'
theorem Post.mono [Lams] {K : PySem.W.Frag} {ρ ρ1 : List Addr} {H H1 : Hp} {D : Ends} (s : Step ρ H ρ1 H1) : ∀ {o : Out}, Post K ρ H D o → Post K ρ1 H1 D o
  | .nx _ _, h => fun ρ' H' σ' t r l => h ρ' H' σ' (s.trans t) r l
  | .rt _ _, h => fun ρ' H' v t r l => h ρ' H' v (s.trans t) r l
  | .bk _ _, h => fun ρ' H' σ' t r l => h ρ' H' σ' (s.trans t) r l
  | .ct _ _, h => fun ρ' H' σ' t r l => h ρ' H' σ' (s.trans t) r l
def tS [Lams] (K : PySem.W.Frag) (m : Sts) : TS := fun D σ H => ∃ ρ L S o, RelL K ρ H σ L ∧ Rel K ρ H S ∧ m L S = some o ∧ Post K ρ H D o
def PSM [Lams] (X : Cx) (st : Stmt) (m : Sts) : Prop := PS X st (tS X.K m)
def PSsM [Lams] (X : Cx) (st : List Stmt) (m : Sts) : Prop := PSs X st (tS X.K m)
theorem impS {X : Cx} {st : Stmt} {t t' : TS} (h : PS X st t) (i : ∀ D σ H, t' D σ H → t D σ H) : PS X st t' := ⟨fun pins s σ H D I q => h.run pins s σ H D I (i D σ H q)⟩
theorem impSs {X : Cx} {st : List Stmt} {t t' : TS} (h : PSs X st t) (i : ∀ D σ H, t' D σ H → t D σ H) : PSs X st t' := ⟨fun pins s σ H D I q => h.run pins s σ H D I (i D σ H q)⟩

/-! ### blocks -/
def sNil : Sts := fun L S => some (.nx L S)
def sSeq (a b : Sts) : Sts := fun L S => match a L S with
  | some (.nx L1 S1) => b L1 S1
  | r => r
def sNever : Sts := fun _ _ => none
def sPass : Sts := fun L S => some (.nx L S)
def sSet (i : Nat) (m : Sem) : Sts := fun L S => match m L S with
  | some (x, S1) => some (.nx (L.set i (some x)) S1)
  | none => none
def sRet (m : Sem) : Sts := fun L S => match m L S with
  | some (x, S1) => some (.rt x S1)
  | none => none
def sDrop (m : Sem) : Sts := fun L S => match m L S with
  | some (_, S1) => some (.nx L S1)
  | none => none
def sIf (c : Sem) (a b : Sts) : Sts := fun L S => match c L S with
  | some (.d (.bool true), S1) => a L S1
  | some (.d (.bool false), S1) => b L S1
  | _ => none
def sBrk : Sts := fun L S => some (.bk L S)
def sCnt : Sts := fun L S => some (.ct L S)
theorem RelL.set [Lams] {K : PySem.W.Frag} {ρ : List Addr} {H : Hp} {σ : L2.St} {L : Lc} {i : Nat} {v : V} {x : Vl} (r : RelL K ρ H σ L) (b : VB K ρ H v x) : RelL K ρ H (σ.set i (some v)) (L.set i (some x)) := by
  refine ⟨by rw [List.length_set, List.length_set]; exact r.len, fun j y e => ?_⟩
  by_cases h : i = j
  · subst h
    have hi : i < L.length := by
      have := (List.getElem?_eq_some_iff.mp e).1
      rw [List.length_set] at this
      exact this
    rw [List.getElem?_set_self hi] at e
    cases e
    exact ⟨v, List.getElem?_set_self (by rw [r.len]; exact hi), b⟩
  · rw [List.getElem?_set_ne h] at e
    rw [List.getElem?_set_ne h]
    exact r.at_ j y e
section
variable {X : Cx} {pos : Pos} {st : Stmt} {rest : List Stmt} {ms mr : Sts} {e : Expr} {m : Sem}
theorem psm_nil [Lams] : PSsM X [] sNil := impSs pss_nil fun D σ H ⟨ρ, L, S, o, rl, r, e, k⟩ => by
  cases e
  exact k ρ H σ (Step.refl _ _) r rl
theorem tS_seq [Lams] {K : PySem.W.Frag} {a b : Sts} : ∀ D σ H, tS K (sSeq a b) D σ H → tSeq (tS K a) (tS K b) D σ H := fun D σ H ⟨ρ, L, S, o, rl, r, e, k⟩ => by
  unfold sSeq at e
  split at e
  · rename_i L1 S1 h1
    exact ⟨ρ, L, S, _, rl, r, h1, fun ρ1 H1 σ1 s1 r1 l1 => ⟨ρ1, L1, S1, o, l1, r1, e, k.mono s1⟩⟩
  · rename_i h1
    refine ⟨ρ, L, S, o, rl, r, e, ?_⟩
    cases o with
    | nx L1 S1 => exact absurd e (h1 L1 S1)
    | rt x S1 => exact k
    | bk L1 S1 => exact k
    | ct L1 S1 => exact k
theorem psm_cons [Lams] (h1 : PSM X st ms) (h2 : PSsM X rest mr) : PSsM X (st :: rest) (sSeq ms mr) := impSs (pss_cons h1 h2) tS_seq
theorem psm_one [Lams] (h1 : PSM X st ms) : PSsM X [st] ms := pss_one h1
theorem psm_never [Lams] : PSM X st sNever := impS ps_never fun D σ H ⟨ρ, L, S, o, rl, r, e, k⟩ => by cases e
theorem psms_never [Lams] : PSsM X rest sNever := impSs pss_never fun D σ H ⟨ρ, L, S, o, rl, r, e, k⟩ => by cases e
theorem psm_pass [Lams] : PSM X (.Pass pos) sPass := impS ps_pass fun D σ H ⟨ρ, L, S, o, rl, r, e, k⟩ => by
  cases e
  exact k ρ H σ (Step.refl _ _) r rl
theorem psm_brk [Lams] : PSM X (.Break pos) sBrk := impS ps_break fun D σ H ⟨ρ, L, S, o, rl, r, e, k⟩ => by
  cases e
  exact k ρ H σ (Step.refl _ _) r rl
theorem psm_cnt [Lams] : PSM X (.Continue pos) sCnt := impS ps_continue fun D σ H ⟨ρ, L, S, o, rl, r, e, k⟩ => by
  cases e
  exact k ρ H σ (Step.refl _ _) r rl
theorem tS_set [Lams] {K : PySem.W.Frag} {i : Nat} : ∀ D σ H, tS K (sSet i m) D σ H → tAsg (tM K m) (gName i) D σ H := fun D σ H ⟨ρ, L, S, o, rl, r, e, k⟩ => by
  unfold sSet at e
  split at e
  · rename_i x S1 h1
    cases e
    exact ⟨ρ, L, S, x, S1, rl, r, h1, fun ρ1 H1 v s1 r1 b1 => k ρ1 H1 _ s1 r1 ((rl.mono s1).set b1)⟩
  · cases e
theorem psm_set [Lams] {i : Nat} {x : Str} {pos' : Pos} (hN : X.N.Nodup) (he : PM X e m) (hi : X.N[i]? = some x := by kernel_rfl) (hx : Loc X.env.scope x := by first | exact Or.inl rfl | exact Or.inr rfl) (hs : swapsWith e (some (.Name x pos')) pos.line X.env = pure false := by kernel_rfl)
    (hf : X.fn x = true ∨ X.env.scope.names.lookup x = some .local := by first | exact .inl rfl | exact .inr rfl | assumption) : PSM X (.Assign [.Name x pos'] e pos) (sSet i m) := impS (ps_set hN hi hx he hs hf) tS_set
theorem psm_ret [Lams] (he : PM X e m) : PSM X (.Return (some e) pos) (sRet m) := impS (ps_ret he) fun D σ H ⟨ρ, L, S, o, rl, r, e, k⟩ => by
  unfold sRet at e
  split at e
  · rename_i x S1 h1
    cases e
    exact ⟨ρ, L, S, x, S1, rl, r, h1, fun ρ1 H1 v s1 r1 b1 => k ρ1 H1 v s1 r1 b1⟩
  · cases e
theorem psm_expr [Lams] (he : PM X e m) (hs : swapsWith e none pos.line X.env = pure false := by kernel_rfl) : PSM X (.Expr e pos) (sDrop m) := impS (ps_expr he hs) fun D σ H ⟨ρ, L, S, o, rl, r, e, k⟩ => by
  unfold sDrop at e
  split at e
  · rename_i x S1 h1
    cases e
    exact ⟨ρ, L, S, x, S1, rl, r, h1, fun ρ1 H1 v s1 r1 b1 => k ρ1 H1 σ s1 r1 (rl.mono s1)⟩
  · cases e
theorem psm_if [Lams] {c : Expr} {a b : List Stmt} {mc : Sem} {ma mb : Sts} (hc : PMT X c mc) (ha : PSsM X a ma) (hb : PSsM X b mb) : PSM X (.If c a b pos) (sIf mc ma mb) := impS (ps_if hc ha hb) fun D σ H ⟨ρ, L, S, o, rl, r, e, k⟩ => by
  obtain ⟨c, S1, h1, h2⟩ := bool_inv (p := fun S1 => ma L S1) (q := fun S1 => mb L S1) e
  refine tMT_bool rl r h1 fun ρ1 H1 s1 r1 => ?_
  cases c with
  | true =>
    rw [if_pos rfl] at h2 ⊢
    exact ⟨ρ1, L, S1, o, rl.mono s1, r1, h2, k.mono s1⟩
  | false =>
    rw [if_neg Bool.false_ne_true] at h2 ⊢
    exact ⟨ρ1, L, S1, o, rl.mono s1, r1, h2, k.mono s1⟩
end

/-! ### a, b = x, y; i += e -/
def sPar (i j : Nat) (r : Sems) : Sts := fun L S => match r L S with
  | some ([x, y], S1) => some (.nx ((L.set i (some x)).set j (some y)) S1)
  | _ => none
def sAug (i : Nat) (f : T → T → Option T) (m : Sem) : Sts := fun L S => match L[i]? with
  | some (some (.d t)) => match m L S with
    | some (.d u, S1) => match f t u with
      | some z => some (.nx (L.set i (some (.d z))) S1)
      | none => none
    | _ => none
  | _ => none
section
variable {X : Cx} {pos : Pos} {e : Expr} {m : Sem}
theorem psm_par [Lams] {i j : Nat} {x y : Str} {a b : Expr} {mr : Sems} {px py pt : Pos} {kt k2 pt2} (hc : X.calm = true) (hN : X.N.Nodup) (ha : PMA X [a, b] mr) (hi : X.N[i]? = some x := by kernel_rfl) (hj : X.N[j]? = some y := by kernel_rfl) (hij : i ≠ j := by decide)
    (hx : X.env.scope.names.lookup x = some .local := by kernel_rfl) (hy : X.env.scope.names.lookup y = some .local := by kernel_rfl)
    (hw : swappedStores [.Tuple [.Name x px, .Name y py] kt pt] (.Tuple [a, b] k2 pt2) X.env = pure (some [x, y]) := by kernel_rfl)
    (hs : swapsWithSole [.Tuple [.Name x px, .Name y py] kt pt] (.Tuple [a, b] k2 pt2) pos.line X.env = pure false := by kernel_rfl) :
    PSM X (.Assign [.Tuple [.Name x px, .Name y py] kt pt] (.Tuple [a, b] k2 pt2) pos) (sPar i j mr) := impS (ps_par hc hN hi hj hij hx hy ha hw hs) fun D σ H ⟨ρ, L, S, o, rl, r, e, k⟩ => by
  unfold sPar at e
  split at e
  · rename_i x y S1 h1
    cases e
    refine ⟨ρ, L, S, _, S1, rl, r, h1, fun ρ1 H1 vs s1 r1 b1 => ?_⟩
    cases b1 with
    | cons c1 b1 => cases b1 with
      | cons c2 b1 =>
        cases b1
        exact ⟨_, _, rfl, k ρ1 H1 _ s1 r1 (((rl.mono s1).set c1).set c2)⟩
  · cases e
theorem psm_aug [Lams] {i : Nat} {x : Str} {op : Operator} {g : Int → Int → Int} {f : T → T → Option T} {pos' : Pos} (hN : X.N.Nodup) (ho : PIp X op (ipI g)) (hf0 : ∀ t u z, f t u = some z → ∃ a b, t = .int a ∧ u = .int b ∧ z = .int (g a b)) (he : PM X e m) (hi : X.N[i]? = some x := by kernel_rfl)
    (hx : Loc X.env.scope x := by first | exact Or.inl rfl | exact Or.inr rfl) (hf : X.fn x = true ∨ X.env.scope.names.lookup x = some .local := by first | exact .inl rfl | exact .inr rfl | assumption) :
    PSM X (.AugAssign (.Name x pos') op e pos) (sAug i f m) := impS (ps_aug hN hi hx he ho hf) fun D σ H ⟨ρ, L, S, o, rl, r, e, k⟩ => by
  unfold sAug at e
  split at e
  · rename_i t ht
    split at e
    · rename_i u S1 h1
      split at e
      · rename_i z hz
        cases e
        obtain ⟨a, b, rfl, rfl, rfl⟩ := hf0 t u z hz
        obtain ⟨v, hv, bv⟩ := rl.at_ i _ ht
        cases bv
        refine ⟨_, hv, ρ, L, S, _, S1, rl, r, h1, fun ρ1 H1 w s1 r1 b1 => ?_⟩
        cases b1
        exact ⟨a, b, rfl, rfl, k ρ1 H1 _ s1 r1 ((rl.mono s1).set (x := .d (.int (g a b))) (.int _))⟩
      · cases e
    · cases e
  · cases e
end
def fAddI : T → T → Option T
  | .int a, .int b => some (.int (a + b))
  | _, _ => none
theorem fAddI_ok : ∀ t u z, fAddI t u = some z → ∃ a b, t = .int a ∧ u = .int b ∧ z = .int (a + b) := fun t u z h => by
  unfold fAddI at h
  split at h
  · cases h; exact ⟨_, _, rfl, rfl, rfl⟩
  · cases h

/-! ### targets -/
abbrev Tg := Vl → Lc → So → Option (Lc × So)
def gM [Lams] (K : PySem.W.Frag) (m : Tg) : TG := fun v σ H Q => ∃ ρ L S x L' S', RelL K ρ H σ L ∧ Rel K ρ H S ∧ VB K ρ H v x ∧ m x L S = some (L', S') ∧ ∀ ρ' H' σ', Step ρ H ρ' H' → Rel K ρ' H' S' → RelL K ρ' H' σ' L' → Q σ' H'
def PGM [Lams] (X : Cx) (tg : Expr) (m : Tg) : Prop := PG X tg (gM X.K m)
def gsM [Lams] (K : PySem.W.Frag) (m : List T → Lc → So → Option (Lc × So)) : TGs := fun vs σ H Q => ∃ ρ L S ts L' S', RelL K ρ H σ L ∧ Rel K ρ H S ∧ BrA K ρ H vs ts ∧ m ts L S = some (L', S') ∧ ∀ ρ' H' σ', Step ρ H ρ' H' → Rel K ρ' H' S' → RelL K ρ' H' σ' L' → Q σ' H'
def PGsM [Lams] (X : Cx) (tgs : List Expr) (m : List T → Lc → So → Option (Lc × So)) : Prop := PGs X tgs (gsM X.K m)
theorem impG {X : Cx} {tg : Expr} {t t' : TG} (h : PG X tg t) (i : ∀ v σ H Q, t' v σ H Q → t v σ H Q) : PG X tg t' := ⟨fun pins s σ H v u Q I r q => h.run pins s σ H v u Q I r (i v σ H Q q)⟩
theorem impGs {X : Cx} {tg : List Expr} {t t' : TGs} (h : PGs X tg t) (i : ∀ v σ H Q, t' v σ H Q → t v σ H Q) : PGs X tg t' := ⟨fun pins s σ H v u Q I r q => h.run pins s σ H v u Q I r (i v σ H Q q)⟩
def tName (i : Nat) : Tg := fun x L S => some (L.set i (some x), S)
def tgNil : List T → Lc → So → Option (Lc × So) := fun ts L S => match ts with
  | [] => some (L, S)
  | _ => none
def tgCons (g : Tg) (r : List T → Lc → So → Option (Lc × So)) : List T → Lc → So → Option (Lc × So) := fun ts L S => match ts with
  | t :: us => match g (.d t) L S with
    | some (L1, S1) => r us L1 S1
    | none => none
  | [] => none
def tTuple (n : Nat) (r : List T → Lc → So → Option (Lc × So)) : Tg := fun x L S => match x with
  | .d (.tuple ts) => if ts.length = n then r ts L S else none
  | _ => none
/-- o[i] = v, a cell's list -/
def tSubL (o i : Sem) : Tg := fun x L S => match x with
  | .d t => match o L S with
    | some (.r n, S1) => match i L S1 with
      | some (.d (.int k), S2) => match S2[n]? with
        | some (.lst ts) => match ixN ts.length k with
          | some j => some (L, S2.set n (.lst (ts.set j t)))
          | none => none
        | _ => none
      | _ => none
    | _ => none
  | _ => none
theorem BrA.set [Lams] {K : PySem.W.Frag} {ρ : List Addr} {H : Hp} {v : V} {t : T} (b : Br K ρ H v t) : ∀ {vs : List V} {ts : List T} (j : Nat), BrA K ρ H vs ts → BrA K ρ H (vs.set j v) (ts.set j t)
  | _, _, _, .nil => .nil
  | _, _, 0, .cons _ a => .cons b a
  | _, _, j + 1, .cons c a => .cons c (BrA.set b j a)
section
variable {X : Cx} {pos : Pos} {e : Expr} {m : Sem}
theorem pgm_name [Lams] (i : Nat) {x : Str} (hN : X.N.Nodup) (hi : X.N[i]? = some x := by kernel_rfl) (hx : Loc X.env.scope x := by first | exact Or.inl rfl | exact Or.inr rfl) (hf : X.fn x = true ∨ X.env.scope.names.lookup x = some .local := by first | exact .inl rfl | exact .inr rfl | assumption) :
    PGM X (.Name x pos) (tName i) := impG (pg_name hN hi hx hf) fun v σ H Q ⟨ρ, L, S, x, L', S', rl, r, b, e, k⟩ => by
  cases e
  exact k ρ H _ (Step.refl _ _) r (rl.set b)
theorem pgsm_nil [Lams] : PGsM X [] tgNil := impGs pgs_nil fun v σ H Q ⟨ρ, L, S, x, L', S', rl, r, b, e, k⟩ => by
  unfold tgNil at e
  split at e
  · cases e
    cases b
    exact ⟨rfl, k ρ H _ (Step.refl _ _) r rl⟩
  · cases e
theorem pgsm_cons [Lams] {es : List Expr} {g : Tg} {gr : List T → Lc → So → Option (Lc × So)} (h1 : PGM X e g) (h2 : PGsM X es gr) (hs : (assignEach (e :: es) X.env).map (·.2) = assign e X.env :: (assignEach es X.env).map (·.2) := by kernel_rfl) : PGsM X (e :: es) (tgCons g gr) :=
  impGs (pgs_cons h1 h2 hs) fun v σ H Q ⟨ρ, L, S, x, L', S', rl, r, b, e, k⟩ => by
    unfold tgCons at e
    split at e
    · rename_i t us
      split at e
      · rename_i L1 S1 h1
        cases b with
        | cons b1 b2 => exact ⟨_, _, rfl, ρ, L, S, .d t, L1, S1, rl, r, b1, h1, fun ρ1 H1 σ1 s1 r1 l1 => ⟨ρ1, L1, S1, us, L', S', l1, r1, b2.mono s1, e, fun ρ2 H2 σ2 s2 r2 l2 => k ρ2 H2 σ2 (s1.trans s2) r2 l2⟩⟩
      · cases e
    · cases e
theorem pgm_tup [Lams] {es : List Expr} {kk : Nat} {gr : List T → Lc → So → Option (Lc × So)} {n : Nat} (hc : X.calm = true) (h : PGsM X es gr) (hn : (assignEach es X.env).length = n := by kernel_rfl) (hst : (assignEach es X.env).findIdx? (·.1) = none := by kernel_rfl) : PGM X (.Tuple es kk pos) (tTuple n gr) :=
  impG (pg_tup hc h hn hst) fun v σ H Q ⟨ρ, L, S, x, L', S', rl, r, b, e, k⟩ => by
    unfold tTuple at e
    split at e
    · rename_i ts
      split at e
      · rename_i hl
        obtain ⟨a, xs, rfl, h1, b1⟩ := (Dv.t b : Dv X.K ρ H v (.tuple ts)).tuple
        exact ⟨a, xs, rfl, Br.sqT h1, b1.length.trans hl, ρ, L, S, ts, L', S', rl, r, b1, e, k⟩
      · cases e
    · cases e
theorem pgm_sub [Lams] {o i : Expr} {mo mi : Sem} (ho : PM X o mo) (hi : PM X i mi) (ha : ∀ v, assign (.Subscript o i pos) X.env v = (do
      let ov ← holding [v] (eval o X.env)
      let iv ← holding [v, ov] (eval i X.env)
      standAt pos
      holding [v, ov, iv] (setItem ov iv v)
      release [v, ov, iv] []) := by intro _; kernel_rfl) : PGM X (.Subscript o i pos) (tSubL mo mi) := impG (pg_sub ho hi set_list ha) fun v σ H Q ⟨ρ, L, S, x, L', S', rl, r, b, e, k⟩ => by
  unfold tSubL at e
  split at e
  · rename_i t
    split at e
    · rename_i n S1 h1
      split at e
      · rename_i j S2 h2
        split at e
        · rename_i ts h3
          split at e
          · rename_i jj h4
            cases e
            refine ⟨ρ, L, S, _, S1, rl, r, h1, fun ρ1 H1 w1 s1 r1 b1 => ⟨ρ1, L, S1, _, S2, rl.mono s1, r1, h2, fun ρ2 H2 w2 s2 r2 b2 => ?_⟩⟩
            cases b2
            obtain ⟨a, ha, rfl⟩ := b1.mono s2
            obtain ⟨c, hc, q⟩ := r2.at_ ha
            rw [h3] at hc
            cases hc
            obtain ⟨xs, hx, bx⟩ := q
            refine ⟨a, xs, j, jj, rfl, rfl, hx, by rw [bx.length]; exact h4, ?_⟩
            have st := Step.put (ρ := ρ2) (H := H2) (o := .lst (xs.set jj v)) (List.mem_of_getElem? ha) hx
            have bt : Br X.K ρ H v t := b
            exact k ρ2 _ _ ((s1.trans s2).trans st) (r2.put ha ⟨_, upd_same, (BrA.set ((bt.mono s1).mono s2) jj bx).mono st⟩ hx) (((rl.mono s1).mono s2).mono st)
          · cases e
        · cases e
      · cases e
    · cases e
  · cases e
def sAsg (m : Sem) (g : Tg) : Sts := fun L S => match m L S with
  | some (x, S1) => match g x L S1 with
    | some (L2, S2) => some (.nx L2 S2)
    | none => none
  | none => none
theorem psm_asg [Lams] {tg : Expr} {g : Tg} (he : PM X e m) (hg : PGM X tg g) (hs : swapsWithSole [tg] e pos.line X.env = pure false := by kernel_rfl) (hw : swappedStores [tg] e X.env = pure none := by kernel_rfl)
    (h1 : (assignEach [tg] X.env).map (·.2) = [assign tg X.env] := by kernel_rfl) : PSM X (.Assign [tg] e pos) (sAsg m g) := impS (ps_asg he hg hs hw h1) fun D σ H ⟨ρ, L, S, o, rl, r, e, k⟩ => by
  unfold sAsg at e
  split at e
  · rename_i x S1 h1
    split at e
    · rename_i L2 S2 h2
      cases e
      exact ⟨ρ, L, S, x, S1, rl, r, h1, fun ρ1 H1 v s1 r1 b1 => ⟨ρ1, L, S1, x, L2, S2, rl.mono s1, r1, b1, h2, fun ρ2 H2 σ2 s2 r2 l2 => k ρ2 H2 σ2 (s1.trans s2) r2 l2⟩⟩
    · cases e
  · cases e
end

/-! ### loops -/
def whN (c : Sem) (b : Sts) : Nat → Sts
  | 0 => fun _ _ => none
  | n + 1 => fun L S => match c L S with
    | some (.d (.bool true), S1) => (match b L S1 with
      | some (.nx L2 S2) => whN c b n L2 S2
      | some (.ct L2 S2) => whN c b n L2 S2
      | some (.bk L2 S2) => some (.nx L2 S2)
      | r => r)
    | some (.d (.bool false), S1) => some (.nx L S1)
    | _ => none
def sWhile (c : Sem) (b : Sts) : Sts := whN c b 1000000
section
variable {X : Cx} {pos : Pos}
theorem psm_while [Lams] {c : Expr} {body : List Stmt} {mc : Sem} {mb : Sts} (hp : PassesOwn (model X.prog X.w) X.A X.env X.xe) (hc : PMT X c mc) (hb : PSsM X body mb) : PSM X (.While c body [] pos) (sWhile mc mb) := impS (ps_while hp hc hb) fun D σ H ⟨ρ, L, S, o, rl, r, e, k⟩ => by
  refine ⟨fun n σ H => ∃ ρ L S o, RelL X.K ρ H σ L ∧ Rel X.K ρ H S ∧ whN mc mb n L S = some o ∧ Post X.K ρ H D o, ⟨1000000, ρ, L, S, o, rl, r, e, k⟩, ?_⟩
  rintro n σ H ⟨ρ, L, S, o, rl, r, e, k⟩
  cases n with
  | zero => cases e
  | succ n =>
    obtain ⟨cc, S1, h1, h2⟩ := bool_inv (p := fun S1 => (match mb L S1 with
      | some (.nx L2 S2) => whN mc mb n L2 S2
      | some (.ct L2 S2) => whN mc mb n L2 S2
      | some (.bk L2 S2) => some (.nx L2 S2)
      | r => r)) (q := fun S1 => some (.nx L S1)) e
    refine tMT_bool rl r h1 fun ρ1 H1 s1 r1 => ?_
    cases cc with
    | false =>
      rw [if_neg Bool.false_ne_true] at h2 ⊢
      cases h2
      exact k ρ1 H1 σ s1 r1 (rl.mono s1)
    | true =>
      rw [if_pos rfl] at h2 ⊢
      refine ⟨fun σ' H' => ∃ ρ L S o, RelL X.K ρ H' σ' L ∧ Rel X.K ρ H' S ∧ whN mc mb n L S = some o ∧ Post X.K ρ H' D o, fun σ' H' w => ⟨n, Nat.lt_succ_self n, w⟩, ?_⟩
      split at h2
      · rename_i L2 S2 h3
        exact ⟨ρ1, L, S1, _, rl.mono s1, r1, h3, fun ρ2 H2 σ2 s2 r2 l2 => ⟨ρ2, L2, S2, o, l2, r2, h2, k.mono (s1.trans s2)⟩⟩
      · rename_i L2 S2 h3
        exact ⟨ρ1, L, S1, _, rl.mono s1, r1, h3, fun ρ2 H2 σ2 s2 r2 l2 => ⟨ρ2, L2, S2, o, l2, r2, h2, k.mono (s1.trans s2)⟩⟩
      · rename_i L2 S2 h3
        cases h2
        exact ⟨ρ1, L, S1, _, rl.mono s1, r1, h3, fun ρ2 H2 σ2 s2 r2 l2 => k ρ2 H2 σ2 (s1.trans s2) r2 l2⟩
      · rename_i h3 h4 h5
        refine ⟨ρ1, L, S1, o, rl.mono s1, r1, h2, ?_⟩
        cases o with
        | nx L2 S2 => exact absurd h2 (h3 L2 S2)
        | ct L2 S2 => exact absurd h2 (h4 L2 S2)
        | bk L2 S2 => exact absurd h2 (h5 L2 S2)
        | rt x S2 => exact fun ρ2 H2 v s2 r2 b2 => k ρ2 H2 v (s1.trans s2) r2 b2
end
/-- what an iterator yields -/
structure JOk [Lams] (K : PySem.W.Frag) (J : It) (ts : List T) (C : List Addr → Hp → Prop) : Prop where
  mono : ∀ {ρ ρ' H H'}, Step ρ H ρ' H' → C ρ H → C ρ' H'
  go : ∀ {ρ H i}, C ρ H → i < ts.length → J.go i H
  stop : ∀ {ρ H i}, C ρ H → ts.length ≤ i → J.stop i H
  yld : ∀ {ρ H S i x H' t}, C ρ H → Rel K ρ H S → J.yld i H x H' → ts[i]? = some t → Step ρ H ρ H' ∧ Rel K ρ H' S ∧ Br K ρ H' x t
abbrev SemI := Lc → So → Option (List T × So)
def tI [Lams] (K : PySem.W.Frag) (m : SemI) : TI := fun σ H R => ∃ ρ L S ts S', RelL K ρ H σ L ∧ Rel K ρ H S ∧ m L S = some (ts, S') ∧ ∀ ρ' H' J C, Step ρ H ρ' H' → Rel K ρ' H' S' → JOk K J ts C → C ρ' H' → R J H'
def PIM [Lams] (X : Cx) (tg iter : Expr) (m : SemI) : Prop := PI X tg iter (tI X.K m)
theorem impI {X : Cx} {tg iter : Expr} {t t' : TI} (h : PI X tg iter t) (i : ∀ σ H R, t' σ H R → t σ H R) : PI X tg iter t' := ⟨fun pins s σ H R I q => h.run pins s σ H R I (i σ H R q)⟩
def iTupM (m : Sem) : SemI := fun L S => match m L S with
  | some (.d (.tuple ts), S1) => some (ts, S1)
  | _ => none
def iLstM (m : Sem) : SemI := fun L S => match m L S with
  | some (.d (.list ts), S1) => some (ts, S1)
  | _ => none
def intsT (n : Nat) : List T := (List.range n).map fun i => PyData.int (i : Nat)
def iRngM (r : Sems) : SemI := fun L S => match r L S with
  | some ([.d (.int n)], S1) => if -100000000 < n ∧ n < 100000000 then some (intsT n.toNat, S1) else none
  | _ => none
theorem ints_get {n i : Nat} (h : i < n) : (intsT n)[i]? = some (.int (i : Nat)) := by
  unfold intsT
  rw [List.getElem?_map, List.getElem?_range h]
  rfl
theorem ints_len {n : Nat} : (intsT n).length = n := by unfold intsT; simp
section
variable {X : Cx} {tg : Expr} {a : Expr} {ma : Sem}
theorem pim_tup [Lams] (h : PM X a ma) : PIM X tg a (iTupM ma) := impI (pi_tup h) fun σ H R ⟨ρ, L, S, ts, S', rl, r, e, k⟩ => by
  unfold iTupM at e
  split at e
  · rename_i us S1 h1
    cases e
    refine ⟨ρ, L, S, _, _, rl, r, h1, fun ρ1 H1 v s1 r1 b1 => ?_⟩
    obtain ⟨p, xs, rfl, h2, b2⟩ := (Dv.t b1 : Dv X.K ρ1 H1 v (.tuple ts)).tuple
    refine ⟨p, rfl, ⟨xs, Br.sqT h2⟩, k ρ1 H1 _ (fun ρ H => Tk X.K ρ H p xs ∧ BrA X.K ρ H xs ts) s1 r1 ⟨fun s c => ⟨c.1.mono s, c.2.mono s⟩, fun {ρ H i} c hi => ?_, fun {ρ H i} c hi => ⟨xs, Br.sqT c.1, by rw [c.2.length]; exact hi⟩, fun {ρ H S i x H' t} c rr y ht => ?_⟩ ⟨h2, b2⟩⟩
    · obtain ⟨v, hv, _⟩ := c.2.get (List.getElem?_eq_getElem hi)
      exact ⟨xs, v, Br.sqT c.1, hv⟩
    · obtain ⟨rfl, y⟩ := y
      obtain ⟨v, hv, bv⟩ := c.2.get ht
      have := y xs (Br.sqT c.1)
      rw [hv] at this
      cases this
      exact ⟨Step.refl _ _, rr, bv⟩
  · cases e
theorem pim_lst [Lams] (h : PM X a ma) : PIM X tg a (iLstM ma) := impI (pi_list h) fun σ H R ⟨ρ, L, S, ts, S', rl, r, e, k⟩ => by
  unfold iLstM at e
  split at e
  · rename_i us S1 h1
    cases e
    refine ⟨ρ, L, S, _, _, rl, r, h1, fun ρ1 H1 v s1 r1 b1 => ?_⟩
    have b1' : Br X.K ρ1 H1 v (.list ts) := b1
    cases b1' with
    | @lst p xs _ h2 b2 =>
      refine ⟨p, rfl, ⟨xs, Br.sqL h2⟩, k ρ1 H1 _ (fun ρ H => Lk ρ H p xs ∧ BrA X.K ρ H xs ts) s1 r1 ⟨fun s c => ⟨c.1.mono s, c.2.mono s⟩, fun {ρ H i} c hi => ?_, fun {ρ H i} c hi => ⟨xs, Br.sqL c.1, by rw [c.2.length]; exact hi⟩, fun {ρ H S i x H' t} c rr y ht => ?_⟩ ⟨h2, b2⟩⟩
      · obtain ⟨v, hv, _⟩ := c.2.get (List.getElem?_eq_getElem hi)
        exact ⟨xs, v, Br.sqL c.1, hv⟩
      · obtain ⟨rfl, y⟩ := y
        obtain ⟨v, hv, bv⟩ := c.2.get ht
        have := y xs (Br.sqL c.1)
        rw [hv] at this
        cases this
        exact ⟨Step.refl _ _, rr, bv⟩
  · cases e
theorem pim_rng [Lams] {mr : Sems} {p pos : Pos} (hg : Gl X "range") (hm : X.mg "range" = none) (ha : PMA X [a] mr) (hs : starEach [a] X.env = [(false, eval a X.env)] := by kernel_rfl) : PIM X tg (.Call (.Name "range" p) [a] [] pos) (iRngM mr) :=
  impI (pi_range1 hg hm ha hs) fun σ H R ⟨ρ, L, S, ts, S', rl, r, e, k⟩ => by
    unfold iRngM at e
    split at e
    · rename_i n S1 h1
      split at e
      · rename_i hn
        cases e
        refine ⟨ρ, L, S, _, _, rl, r, h1, fun ρ1 H1 vs s1 r1 b1 => ?_⟩
        cases b1 with
        | cons c1 b1 =>
          cases b1
          cases c1
          refine ⟨n, rfl, by omega, by omega, k ρ1 H1 _ (fun _ _ => True) s1 r1 ⟨fun _ _ => trivial, fun {ρ H i} _ hi => by rw [ints_len] at hi; exact hi, fun {ρ H i} _ hi => by rw [ints_len] at hi; exact hi, fun {ρ H S i x H' t} _ rr y ht => ?_⟩ trivial⟩
          obtain ⟨rfl, rfl⟩ := y
          have hi : i < n.toNat := by
            have := (List.getElem?_eq_some_iff.mp ht).1
            rw [ints_len] at this
            exact this
          rw [ints_get hi] at ht
          cases ht
          refine ⟨Step.refl _ _, rr, ?_⟩
          rw [Int.zero_add]
          exact .int _
      · cases e
    · cases e
end
end Mn

/-! MnLoop: for, comprehensions, defs, their calls. -/
namespace Mn
open PySem PySem.Spec PyProof.Rows L2

/-! ### for -/
def forN (g : Tg) (b : Sts) : List T → Sts
  | [] => fun L S => some (.nx L S)
  | t :: r => fun L S => match g (.d t) L S with
    | some (L1, S1) => (match b L1 S1 with
      | some (.nx L2 S2) => forN g b r L2 S2
      | some (.ct L2 S2) => forN g b r L2 S2
      | some (.bk L2 S2) => some (.nx L2 S2)
      | r => r)
    | none => none
def sFor (src : SemI) (g : Tg) (b : Sts) : Sts := fun L S => match src L S with
  | some (ts, S1) => forN g b ts L S1
  | none => none
section
variable {X : Cx} {pos : Pos}
theorem psm_for [Lams] {tg iter : Expr} {body : List Stmt} {src : SemI} {g : Tg} {mb : Sts} (hp : PassesOwn (model X.prog X.w) X.A X.env X.xe) (hc : X.calm = true) (hi : PIM X tg iter src) (hg : PGM X tg g) (hb : PSsM X body mb)
    (hs : ∀ x, foldedSetIterable iter X.env x = pure x := by intro _; kernel_rfl) : PSM X (.For tg iter body [] pos) (sFor src g mb) := impS (ps_for hp hc hi hg hb hs) fun D σ H ⟨ρ, L, S, o, rl, r, e, k⟩ => by
  unfold sFor at e
  split at e
  · rename_i ts S1 h1
    refine ⟨ρ, L, S, ts, S1, rl, r, h1, fun ρ1 H1 J C s1 r1 jk c1 => ?_⟩
    refine ⟨fun i n σ H => n = ts.length - i ∧ i ≤ ts.length ∧ ∃ ρ L S o, RelL X.K ρ H σ L ∧ Rel X.K ρ H S ∧ C ρ H ∧ forN g mb (ts.drop i) L S = some o ∧ Post X.K ρ H D o,
      ⟨ts.length, by simp, Nat.zero_le _, ρ1, L, S1, o, rl.mono s1, r1, c1, e, k.mono s1⟩, ?_⟩
    rintro i n σ H ⟨rfl, hi, ρ, L, S, o, rl, r, c, e, k⟩
    by_cases hlt : i < ts.length
    · rw [List.drop_eq_getElem_cons hlt] at e
      refine .inr ⟨jk.go c hlt, fun σ' H' => ∃ ρ L S o, RelL X.K ρ H' σ' L ∧ Rel X.K ρ H' S ∧ C ρ H' ∧ forN g mb (ts.drop (i + 1)) L S = some o ∧ Post X.K ρ H' D o, fun σ' H' w => ⟨ts.length - (i + 1), by omega, rfl, hlt, w⟩, fun x H' y => ?_⟩
      obtain ⟨s2, r2, b2⟩ := jk.yld c r y (List.getElem?_eq_getElem hlt)
      unfold forN at e
      split at e
      · rename_i L1 S2 h2
        refine ⟨ρ, L, S, .d ts[i], L1, S2, rl.mono s2, r2, b2, h2, fun ρ3 H3 σ3 s3 r3 l3 => ?_⟩
        have s23 := s2.trans s3
        split at e
        · rename_i L4 S4 h4
          exact ⟨ρ3, L1, S2, _, l3, r3, h4, fun ρ5 H5 σ5 s5 r5 l5 => ⟨ρ5, L4, S4, o, l5, r5, jk.mono (s23.trans s5) c, e, k.mono (s23.trans s5)⟩⟩
        · rename_i L4 S4 h4
          exact ⟨ρ3, L1, S2, _, l3, r3, h4, fun ρ5 H5 σ5 s5 r5 l5 => ⟨ρ5, L4, S4, o, l5, r5, jk.mono (s23.trans s5) c, e, k.mono (s23.trans s5)⟩⟩
        · rename_i L4 S4 h4
          cases e
          exact ⟨ρ3, L1, S2, _, l3, r3, h4, fun ρ5 H5 σ5 s5 r5 l5 => k ρ5 H5 σ5 (s23.trans s5) r5 l5⟩
        · rename_i h4 h5 h6
          refine ⟨ρ3, L1, S2, o, l3, r3, e, ?_⟩
          cases o with
          | nx L4 S4 => exact absurd e (h4 L4 S4)
          | ct L4 S4 => exact absurd e (h5 L4 S4)
          | bk L4 S4 => exact absurd e (h6 L4 S4)
          | rt x S4 => exact fun ρ5 H5 v s5 r5 b5 => k ρ5 H5 v (s23.trans s5) r5 b5
      · cases e
    · have hn : ts.drop i = [] := List.drop_eq_nil_of_le (by omega)
      rw [hn] at e
      cases e
      exact .inl ⟨jk.stop c (by omega), k ρ H σ (Step.refl _ _) r rl⟩
  · cases e
end

/-! ### comprehensions -/
def wipeL (L : Lc) : List Nat → Lc
  | [] => L
  | i :: r => (wipeL L r).set i none
/-- a comprehension's target: what it does to the names -/
abbrev TgF := T → Lc → Option Lc
structure TgC [Lams] (K : PySem.W.Frag) (vs : List Nat) (g : TG) (f : TgF) : Prop where
  run : ∀ {ρ : List Addr} {H : Hp} {σ : L2.St} {L L1 : Lc} {v : V} {t : T} {Q : L2.St → Hp → Prop}, RelL K ρ H σ L → Br K ρ H v t → f t L = some L1 → (∀ σ', RelL K ρ H σ' L1 → wipe σ' vs = wipe σ vs → Q σ' H) → g v σ H Q
def fName (i : Nat) : TgF := fun t L => some (L.set i (some (.d t)))
def fNames : List Nat → List T → Lc → Lc
  | i :: is, t :: ts, L => fNames is ts (L.set i (some (.d t)))
  | _, _, L => L
def fTup (is : List Nat) : TgF := fun t L => match t with
  | .tuple ts => if ts.length = is.length then some (fNames is ts L) else none
  | _ => none
theorem wipe_get {σ : L2.St} {j : Nat} : ∀ {vs : List Nat}, j ∈ vs → j < σ.length → (wipe σ vs)[j]? = some none
  | v :: vs, h, hj => by
    unfold wipe
    by_cases e : v = j
    · subst e
      rw [List.getElem?_set_self (by rw [wipe_length]; exact hj)]
    · rw [List.getElem?_set_ne e]
      rcases List.mem_cons.mp h with h | h
      · exact absurd h.symm e
      · exact wipe_get h hj
theorem wipe_set {σ : L2.St} {i : Nat} {x : Option V} {vs : List Nat} (h : i ∈ vs) : wipe (σ.set i x) vs = wipe σ vs := by
  apply List.ext_getElem?
  intro j
  by_cases hj : j < σ.length
  · by_cases hm : j ∈ vs
    · rw [wipe_get hm (by rw [List.length_set]; exact hj), wipe_get hm hj]
    · rw [wipe_out hm, wipe_out hm, List.getElem?_set_ne (fun z : i = j => hm (by rw [← z]; exact h))]
  · rw [List.getElem?_eq_none (by rw [wipe_length, List.length_set]; omega), List.getElem?_eq_none (by rw [wipe_length]; omega)]
theorem wipe_wipe {σ : L2.St} {vs : List Nat} : wipe (wipe σ vs) vs = wipe σ vs := by
  apply List.ext_getElem?
  intro j
  by_cases hj : j < σ.length
  · by_cases hm : j ∈ vs
    · rw [wipe_get hm (by rw [wipe_length]; exact hj), wipe_get hm hj]
    · rw [wipe_out hm]
  · rw [List.getElem?_eq_none (by rw [wipe_length, wipe_length]; omega), List.getElem?_eq_none (by rw [wipe_length]; omega)]
theorem tgc_name [Lams] {K : PySem.W.Frag} {vs : List Nat} {i : Nat} (h : i ∈ vs) : TgC K vs (gName i) (fName i) := ⟨fun rl b e k => by
  cases e
  exact k _ (rl.set (x := .d _) b) (wipe_set h)⟩
/-- the readings of several names -/
def gNames : List Nat → TGs
  | [] => gNil
  | i :: is => gCons (gName i) (gNames is)
theorem gNames_run [Lams] {K : PySem.W.Frag} {vs : List Nat} {ρ : List Addr} {H : Hp} : ∀ {is : List Nat} {xs : List V} {ts : List T} {σ : L2.St} {L : Lc} {Q : L2.St → Hp → Prop}, (∀ i ∈ is, i ∈ vs) → BrA K ρ H xs ts → ts.length = is.length → RelL K ρ H σ L →
    (∀ σ', RelL K ρ H σ' (fNames is ts L) → wipe σ' vs = wipe σ vs → Q σ' H) → gNames is xs σ H Q
  | [], _, _, σ, L, Q, _, .nil, _, rl, k => ⟨rfl, k σ rl rfl⟩
  | [], _, _, σ, L, Q, _, .cons _ _, hl, rl, k => by cases hl
  | i :: is, _, _, σ, L, Q, _, .nil, hl, rl, k => by cases hl
  | i :: is, _, _, σ, L, Q, hm, .cons (v := v) (t := t) b a, hl, rl, k => by
    refine ⟨_, _, rfl, ?_⟩
    exact gNames_run (fun j hj => hm j (List.mem_cons_of_mem _ hj)) a (by simpa using hl) (rl.set (i := i) (x := .d t) b) fun σ' r' w => k σ' r' (w.trans (wipe_set (hm i (List.mem_cons_self ..))))
theorem tgc_tup [Lams] {K : PySem.W.Frag} {vs is : List Nat} {n : Nat} (hn : is.length = n) (h : ∀ i ∈ is, i ∈ vs) : TgC K vs (gTup K n (gNames is)) (fTup is) := ⟨fun {ρ H σ L L1 v t Q} rl b e k => by
  unfold fTup at e
  split at e
  · split at e
    · rename_i ts hl
      cases e
      obtain ⟨a, xs, rfl, h1, b1⟩ := (Dv.t b : Dv K ρ H v (.tuple ts)).tuple
      exact ⟨a, xs, rfl, Br.sqT h1, b1.length.trans (hl.trans hn), gNames_run h b1 hl rl fun σ' r' w => k σ' r' w⟩
    · cases e
  · cases e⟩
theorem wipeL_len {L : Lc} : ∀ {vs : List Nat}, (wipeL L vs).length = L.length
  | [] => rfl
  | v :: vs => by unfold wipeL; rw [List.length_set]; exact wipeL_len
theorem wipeL_some {L : Lc} {i : Nat} {x : Vl} : ∀ {vs : List Nat}, (wipeL L vs)[i]? = some (some x) → L[i]? = some (some x) ∧ i ∉ vs
  | [], h => ⟨h, by simp⟩
  | v :: vs, h => by
    unfold wipeL at h
    by_cases e : v = i
    · subst e
      by_cases hj : v < (wipeL L vs).length
      · rw [List.getElem?_set_self hj] at h; cases h
      · rw [List.getElem?_eq_none (by rw [List.length_set]; omega)] at h; cases h
    · rw [List.getElem?_set_ne e] at h
      obtain ⟨h1, h2⟩ := wipeL_some h
      exact ⟨h1, fun z => (List.mem_cons.mp z).elim (fun z => e z.symm) h2⟩
theorem RelL.wipe [Lams] {K : PySem.W.Frag} {ρ : List Addr} {H : Hp} {σ : L2.St} {L : Lc} (r : RelL K ρ H σ L) (vs : List Nat) : RelL K ρ H (L2.wipe σ vs) (wipeL L vs) := by
  refine ⟨by rw [wipe_length, wipeL_len]; exact r.len, fun i x e => ?_⟩
  obtain ⟨h1, h2⟩ := wipeL_some e
  obtain ⟨v, h3, h4⟩ := r.at_ i x h1
  exact ⟨v, by rw [wipe_out h2]; exact h3, h4⟩
def cmpN (f : TgF) (vs : List Nat) (tt elt : Sem) (n0 : Nat) : List T → Lc → So → Option So
  | [], _, S => some S
  | t :: r, L, S => match f t (wipeL L vs) with
    | some L1 => (match tt L1 S with
      | some (.d (.bool true), S2) => (match elt L1 S2 with
        | some (.d y, S3) => (match S3[n0]? with
          | some (.lst acc) => if acc.length < 100000 then cmpN f vs tt elt n0 r L (S3.set n0 (.lst (acc ++ [y]))) else none
          | _ => none)
        | _ => none)
      | some (.d (.bool false), S2) => cmpN f vs tt elt n0 r L S2
      | _ => none)
    | none => none
def eComp (src : SemI) (f : TgF) (vs : List Nat) (tt elt : Sem) : Sem := fun L S => match src L S with
  | some (ts, S1) => (match cmpN f vs tt elt S1.length ts L (S1 ++ [.lst []]) with
    | some S2 => (match S2[S1.length]? with
      | some (.lst ys) => some (.d (.list ys), S2.take S1.length)
      | _ => none)
    | none => none)
  | none => none
/-- the tests of a comprehension -/
def PMTs [Lams] (X : Cx) (ifs : List Expr) (m : Sem) : Prop := PTs X ifs (tMT X.K m)
def eYes : Sem := eC (.bool true)
theorem pmts_nil [Lams] {X : Cx} : PMTs X [] eYes := ⟨fun pins s σ H Q I ⟨ρ, L, S, x, S', rl, r, e, k⟩ => by
  cases e
  obtain ⟨b, e1, q⟩ := k ρ H (.bl true) (Step.refl _ _) r (.bl true)
  cases e1
  exact pts_nil.run pins s σ H Q I q⟩
theorem pmts_one [Lams] {X : Cx} {c : Expr} {m : Sem} (h : PMT X c m) : PMTs X [c] m := pts_one h
section
variable {X : Cx} {pos : Pos}
theorem tM_comp [Lams] {src : SemI} {f : TgF} {g : TG} {vs : List Nat} {mt me : Sem} {K : PySem.W.Frag} (hg : TgC K vs g f) : ∀ σ H Q, tM K (eComp src f vs mt me) σ H Q → tLc (tI K src) g (tMT K mt) (tM K me) vs σ H Q := fun σ H Q ⟨ρ, L, S, x, S', rl, r, e, k⟩ => by
  unfold eComp at e
  split at e
  · rename_i ts S1 h1
    split at e
    · rename_i S2 h2
      split at e
      · rename_i ys h3
        cases e
        refine ⟨ρ, L, S, ts, S1, rl, r, h1, fun ρ1 H1 J C s1 r1 jk c1 D hD => ?_⟩
        have hl1 : S1.length = ρ1.length := r1.len.symm
        -- the state at turn i, from the state where D is the cell S1.length
        let Wd : Nat → Hp → Prop := fun i H => ∃ ρ S, ρ[S1.length]? = some D ∧ Step ρ1 H1 ρ H ∧ (ρ1 ++ [D]) <+: ρ ∧ Rel K ρ H S ∧ C ρ H ∧ cmpN f vs mt me S1.length (ts.drop i) L S = some S2
        have st0 : Step ρ1 H1 (ρ1 ++ [D]) (upd H1 D (.lst [])) := Step.cell hD
        refine ⟨fun i n H => n = ts.length - i ∧ i ≤ ts.length ∧ Wd i H, ⟨ts.length, by simp, Nat.zero_le _, ρ1 ++ [D], S1 ++ [.lst []], ?_, st0, List.prefix_refl _, r1.alloc (c := .lst []) hD ⟨[], upd_same, .nil⟩, jk.mono st0 c1, by rw [List.drop_zero]; exact h2⟩, ?_⟩
        · rw [hl1, List.getElem?_append_right (Nat.le_refl _), Nat.sub_self]
          rfl
        rintro i n H ⟨rfl, hi, ρ, S, hd, st, pre, r, c, e⟩
        by_cases hlt : i < ts.length
        · rw [List.drop_eq_getElem_cons hlt] at e
          refine .inr ⟨jk.go c hlt, Wd (i + 1), fun H' w => ⟨ts.length - (i + 1), by omega, rfl, hlt, w⟩, fun x H' y => ?_⟩
          obtain ⟨s2, r2, b2⟩ := jk.yld c r y (List.getElem?_eq_getElem hlt)
          unfold cmpN at e
          split at e
          · rename_i L1 h4
            have rlw := ((rl.mono s1).mono (st.trans s2)).wipe vs
            refine hg.run rlw b2 h4 fun σ' rl' hw => ⟨hw.trans ?_, ?_⟩
            · exact wipe_wipe
            split at e
            · rename_i S3 h5
              refine tMT_bool rl' r2 h5 fun ρ3 H3 s3 r3 => ?_
              rw [if_pos rfl]
              split at e
              · rename_i yy S4 h6
                split at e
                · rename_i acc h7
                  split at e
                  · rename_i hz
                    refine ⟨ρ3, L1, S3, _, S4, rl'.mono s3, r3, h6, fun ρ4 H4 v s4 r4 b4 => ?_⟩
                    have s24 := (s2.trans s3).trans s4
                    have hd4 : ρ4[S1.length]? = some D := by
                      obtain ⟨more, rfl⟩ := s24.pre
                      rw [List.getElem?_append_left (List.getElem?_eq_some_iff.mp hd).1]
                      exact hd
                    obtain ⟨accv, ha, ba⟩ := r4.cell _ _ _ hd4 h7
                    have b4' : Br K ρ4 H4 v yy := b4
                    have s5 : Step ρ4 H4 ρ4 (upd H4 D (.lst (accv ++ [v]))) := Step.put (List.mem_of_getElem? hd4) ha
                    have st5 : Step ρ1 H1 ρ4 (upd H4 D (.lst (accv ++ [v]))) := (st.trans s24).trans s5
                    refine ⟨accv, ha, ?_, ρ4, _, hd4, st5, pre.trans s24.pre, r4.put (c := .lst (acc ++ [yy])) hd4 ⟨_, upd_same, (ba.append (.cons b4' .nil)).mono s5⟩ ha, jk.mono (s24.trans s5) c, e⟩
                    exact Nat.lt_of_lt_of_le (by rw [ba.length]; exact hz) (by decide)
                  · cases e
                · cases e
              · cases e
            · rename_i S3 h5
              refine tMT_bool rl' r2 h5 fun ρ3 H3 s3 r3 => ?_
              rw [if_neg Bool.false_ne_true]
              have s23 := s2.trans s3
              have hd3 : ρ3[S1.length]? = some D := by
                obtain ⟨more, rfl⟩ := s23.pre
                rw [List.getElem?_append_left (List.getElem?_eq_some_iff.mp hd).1]
                exact hd
              exact ⟨ρ3, S3, hd3, st.trans s23, pre.trans s23.pre, r3, jk.mono s23 c, e⟩
            · cases e
          · cases e
        · have hn : ts.drop i = [] := List.drop_eq_nil_of_le (by omega)
          rw [hn] at e
          cases e
          refine .inl ⟨jk.stop c (by omega), ?_⟩
          obtain ⟨xs, hx, bx⟩ := r.cell _ _ _ hd h3
          have pre1 : ρ1 <+: ρ := st.pre
          have sub1 : ∀ a, a ∈ ρ1 → a ∈ ρ := fun a h => pre1.subset h
          refine k ρ1 H (.ref D) (s1.trans st.cut) ?_ ?_
          · have q := r.cut pre1
            rw [← hl1] at q
            exact q
          · exact .lst ⟨hx, fun z => by
              have q := r1.tr z
              obtain ⟨o, q⟩ := q
              rw [hD] at q
              cases q⟩ (bx.fewer sub1)
      · cases e
    · cases e
  · cases e
theorem pm_comp [Lams] {elt tg iter : Expr} {ifs : List Expr} {scope : Scope} {own : List (Str × Nat)} {src : SemI} {f : TgF} {g : TG} {mt me : Sem} (hc : X.calm = true) (hN : X.N.Nodup) (hi : PIM X tg iter src) (ok : BlkOk X.N X.env.scope scope own) (hgf : TgC X.K (own.map (·.2)) g f)
    (hg : ∀ (s : Shared) (H : Hp) (C : Addr) (cl : List (Str × Addr)) (fp : List Addr), PG (X.blk s H scope (compEnvC scope cl C X.env) fp) tg g) (ht : ∀ (s : Shared) (H : Hp) (C : Addr) (cl : List (Str × Addr)) (fp : List Addr), PMTs (X.blk s H scope (compEnvC scope cl C X.env) fp) ifs mt)
    (he : ∀ (s : Shared) (H : Hp) (C : Addr) (cl : List (Str × Addr)) (fp : List Addr), PM (X.blk s H scope (compEnvC scope cl C X.env) fp) elt me) (hs : ∀ x, foldedSetIterable iter X.env x = pure x := by intro _; kernel_rfl) :
    PM X (.ListComp elt [⟨tg, iter, ifs, 0⟩] scope pos) (eComp src f (own.map (·.2)) mt me) := imp (pe_lc (tt := tMT X.K mt) (te := tM X.K me) hc hN hi ok hg (fun s H C cl fp => ht s H C cl fp) (fun s H C cl fp => he s H C cl fp) hs) (tM_comp hgf)
theorem psm_setComp [Lams] {i : Nat} {y : Str} {py spos : Pos} {elt tg iter : Expr} {ifs : List Expr} {scope : Scope} {own : List (Str × Nat)} {src : SemI} {f : TgF} {g : TG} {mt me : Sem} (hc : X.calm = true) (hN : X.N.Nodup) (hy : X.N[i]? = some y) (hyl : X.env.scope.names.lookup y = some .local)
    (hsw : swapsWith (.ListComp elt [⟨tg, iter, ifs, 0⟩] scope pos) (some (.Name y py)) spos.line X.env = pure true) (hi : PIM X tg iter src) (ok : BlkOk X.N X.env.scope scope own) (hgf : TgC X.K (own.map (·.2)) g f)
    (hg : ∀ (s : Shared) (H : Hp) (C : Addr) (cl : List (Str × Addr)) (fp : List Addr), PG (X.blk s H scope (compEnvC scope cl C X.env) fp) tg g) (ht : ∀ (s : Shared) (H : Hp) (C : Addr) (cl : List (Str × Addr)) (fp : List Addr), PMTs (X.blk s H scope (compEnvC scope cl C X.env) fp) ifs mt)
    (he : ∀ (s : Shared) (H : Hp) (C : Addr) (cl : List (Str × Addr)) (fp : List Addr), PM (X.blk s H scope (compEnvC scope cl C X.env) fp) elt me) (hs : ∀ x, foldedSetIterable iter X.env x = pure x := by intro _; kernel_rfl) :
    PSM X (.Assign [.Name y py] (.ListComp elt [⟨tg, iter, ifs, 0⟩] scope pos) spos) (sSet i (eComp src f (own.map (·.2)) mt me)) :=
  impS (ps_setLc (tt := tMT X.K mt) (te := tM X.K me) hc hN hy hyl hsw hi ok hg (fun s H C cl fp => ht s H C cl fp) (fun s H C cl fp => he s H C cl fp) hs) fun D σ H h => by
    obtain ⟨ρ, L, S, x, S', rl, r, e, k⟩ := tS_set D σ H h
    exact tM_comp hgf σ H _ ⟨ρ, L, S, x, S', rl, r, e, k⟩
end

/-! ### defs -/
def startL (n : Nat) (xs : List Vl) : Lc := xs.map some ++ List.replicate (n - xs.length) none
def run (np n : Nat) (b : Sts) : Fn := fun xs S => if xs.length = np then (match b (startL n xs) S with
  | some (.nx _ S') => some (.d .none, S')
  | some (.rt x S') => some (x, S')
  | _ => none) else none
/-- the cells made on the way are left; a list made there is handed back as a tree -/
def fin (n : Nat) : Vl → So → Option (Vl × So)
  | .d t, S => some (.d t, S.take n)
  | .s ns, S => some (.s ns, S.take n)
  | .t x, S => some (.t x, S.take n)
  | .r m, S => if m < n then some (.r m, S.take n) else (match S[m]? with
    | some (.lst ts) => some (.d (.list ts), S.take n)
    | _ => none)
  | .f _ _, _ => none
  | .g _, _ => none
  | .u _, _ => none
  | .p _, _ => none
  | .q _, _ => none
/-- .. as a new cell -/
def finR (n : Nat) : Vl → So → Option (Vl × So)
  | .r m, S => if m < n then none else (match S[m]? with
    | some c => some (.r n, S.take n ++ [c])
    | none => none)
  | _, _ => none
def runT (np n : Nat) (b : Sts) : Fn := fun xs S => match run np n b xs S with
  | some (x, S') => fin S.length x S'
  | none => none
def runR (np n : Nat) (b : Sts) : Fn := fun xs S => match run np n b xs S with
  | some (x, S') => finR S.length x S'
  | none => none
def spM [Lams] (K : PySem.W.Frag) (F : Fn) : SpG := fun vs H Q => ∃ ρ S xs x S', Rel K ρ H S ∧ VBs K ρ H vs xs ∧ F xs S = some (x, S') ∧ ∀ ρ' H' v, Step ρ H ρ' H' → Rel K ρ' H' S' → VB K ρ' H' v x → Q v H'
theorem VBs.get [Lams] {K : PySem.W.Frag} {ρ : List Addr} {H : Hp} : ∀ {vs : List V} {xs : List Vl} {i : Nat} {x : Vl}, VBs K ρ H vs xs → xs[i]? = some x → ∃ v, vs[i]? = some v ∧ VB K ρ H v x
  | _, _, _, _, .nil, e => by simp at e
  | _, _, 0, _, .cons h _, e => by simp at e; subst e; exact ⟨_, rfl, h⟩
  | _, _, i + 1, x, .cons _ a, e => by
    obtain ⟨v, h1, h2⟩ := VBs.get (i := i) (x := x) a (by simpa using e)
    exact ⟨v, by simpa using h1, h2⟩
theorem relL_start [Lams] {K : PySem.W.Frag} {ρ : List Addr} {H : Hp} {N : List Str} {vs : List V} {xs : List Vl} (b : VBs K ρ H vs xs) : RelL K ρ H (L2.start N vs) (startL N.length xs) := by
  have hl := b.length
  refine ⟨by unfold L2.start startL; simp [hl], fun i x e => ?_⟩
  unfold startL at e
  by_cases hi : i < xs.length
  · rw [List.getElem?_append_left (by simpa using hi), List.getElem?_map] at e
    obtain ⟨y, hy, e'⟩ := Option.map_eq_some_iff.mp e
    cases e'
    obtain ⟨v, h1, h2⟩ := b.get hy
    refine ⟨v, ?_, h2⟩
    unfold L2.start
    rw [List.getElem?_append_left (by rw [List.length_map, hl]; exact hi), List.getElem?_map, h1]
    rfl
  · rw [List.getElem?_append_right (by simpa using hi), List.getElem?_replicate] at e
    split at e <;> cases e
section
variable {P : Program} {w : World} {K : PySem.W.Frag} {mg : Str → Option Value} {base : Heap}
theorem okG [Lams] {x qual : Str} {st : Stmt} {f : Addr} {fd : FuncData} {N ps : List Str} {k : Nat} {b : Sts} (F : Fun K x qual st f fd) (S : FnScope N ps (defScope st))
    (hb : ∀ (cdv : Value) (A : Around) (outer : List Env) (s : Shared) (H : Hp), Room k (A.deeper (envOfC qual (defScope st) s.heap.objs.size f cdv)) → A.guards = some [] → PSsM (CxG P w K mg base N qual st f cdv A outer s H) (defBody st) b) :
    FnG P w K mg base (k + 1) f fd ps (spM K (run ps.length N.length b)) := fnG_of F S fun cdv A outer s H vs Q hr hg hl h => by
  obtain ⟨ρ, S0, xs, y, S', r, bx, e, k⟩ := h
  refine ⟨_, hb cdv A outer s H hr hg, ?_⟩
  unfold run at e
  split at e
  · split at e
    · rename_i L1 S1 h1
      cases e
      exact ⟨ρ, _, S0, _, relL_start bx, r, h1, fun ρ1 H1 σ1 s1 r1 l1 => k ρ1 H1 _ s1 r1 .non⟩
    · rename_i v S1 h1
      cases e
      exact ⟨ρ, _, S0, _, relL_start bx, r, h1, fun ρ1 H1 v s1 r1 b1 => k ρ1 H1 v s1 r1 b1⟩
    · cases e
  · cases e
theorem fin_ok [Lams] {ρ ρ' : List Addr} {H H' : Hp} {S S' S2 : So} {x y : Vl} {v : V} (r : Rel K ρ H S) (st : Step ρ H ρ' H') (r' : Rel K ρ' H' S') (b : VB K ρ' H' v x) (e : fin S.length x S' = some (y, S2)) : Step ρ H ρ H' ∧ Rel K ρ H' S2 ∧ VB K ρ H' v y := by
  have q := r'.cut st.pre
  rw [r.len] at q
  cases x with
  | d t => cases e; exact ⟨st.cut, q, (show Br K ρ' H' v t from b).fewer st.sub⟩
  | s ns =>
    cases e
    obtain ⟨a, e1, e2⟩ := b
    exact ⟨st.cut, q, a, e1, e2.imp (fun ⟨z1, z2⟩ => ⟨z1, fun z => z2 (st.sub a z)⟩) id⟩
  | t z => cases e; exact ⟨st.cut, q, b⟩
  | f n m => cases e
  | g n => cases e
  | u n => cases e
  | p n => cases e
  | q n => cases e
  | r m =>
    obtain ⟨a, ha, rfl⟩ := b
    unfold fin at e
    simp only at e
    split at e
    · rename_i hm
      cases e
      refine ⟨st.cut, q, a, ?_, rfl⟩
      obtain ⟨more, rfl⟩ := st.pre
      rw [List.getElem?_append_left (by rw [r.len]; exact hm)] at ha
      exact ha
    · rename_i hm
      split at e
      · rename_i ts hc
        cases e
        obtain ⟨xs, h1, h2⟩ := r'.cell _ _ _ ha hc
        refine ⟨st.cut, q, .lst ⟨h1, fun z => ?_⟩ (h2.fewer st.sub)⟩
        obtain ⟨j, hj⟩ := List.getElem?_of_mem z
        have h3 := (List.getElem?_eq_some_iff.mp hj).1
        obtain ⟨more, rfl⟩ := st.pre
        have h4 : (ρ ++ more)[j]? = some a := by rw [List.getElem?_append_left h3]; exact hj
        have := nodup_at r'.nd h4 ha
        rw [r.len] at h3
        omega
      · cases e
theorem FnG.toT [Lams] {f : Addr} {fd : FuncData} {ps : List Str} {k np n : Nat} {b : Sts} (F : FnG P w K mg base k f fd ps (spM K (run np n b))) : FnG P w K mg base k f fd ps (spM K (runT np n b)) := F.imp fun vs H Q ⟨ρ, S, xs, x, S2, r, bx, e, k⟩ => by
  unfold runT at e
  split at e
  · rename_i y S' h1
    refine ⟨ρ, S, xs, y, S', r, bx, h1, fun ρ' H' v st r' b' => ?_⟩
    obtain ⟨z1, z2, z3⟩ := fin_ok r st r' b' e
    exact k ρ H' v z1 z2 z3
  · cases e
theorem FnG.toR [Lams] {f : Addr} {fd : FuncData} {ps : List Str} {k np n : Nat} {b : Sts} (F : FnG P w K mg base k f fd ps (spM K (run np n b))) : FnG P w K mg base k f fd ps (spM K (runR np n b)) := F.imp fun vs H Q ⟨ρ, S, xs, x, S2, r, bx, e, k⟩ => by
  unfold runR at e
  split at e
  · rename_i y S' h1
    refine ⟨ρ, S, xs, y, S', r, bx, h1, fun ρ' H' v st r' b' => ?_⟩
    cases y with
    | r m =>
      obtain ⟨a, ha, rfl⟩ := b'
      unfold finR at e
      simp only at e
      split at e
      · cases e
      · rename_i hm
        split at e
        · rename_i c hc
          cases e
          have q := r'.cutOne st.pre ha (by rw [r.len]; omega) hc
          rw [r.len] at q
          have hout : a ∉ ρ := fun z => by
            obtain ⟨j, hj⟩ := List.getElem?_of_mem z
            have h3 := (List.getElem?_eq_some_iff.mp hj).1
            obtain ⟨more, rfl⟩ := st.pre
            have h4 : (ρ ++ more)[j]? = some a := by rw [List.getElem?_append_left h3]; exact hj
            have := nodup_at r'.nd h4 ha
            rw [r.len] at h3
            omega
          refine k (ρ ++ [a]) H' (.ref a) ⟨List.prefix_append _ _, fun b hb hn => ?_, st.keep, st.gone, st.frz⟩ q ⟨a, by rw [← r.len, List.getElem?_append_right (Nat.le_refl _), Nat.sub_self]; rfl, rfl⟩
          rcases List.mem_append.mp hb with hb | hb
          · exact absurd hb hn
          · rw [List.mem_singleton.mp hb]
            exact st.new a (List.mem_of_getElem? ha) hout
        · cases e
    | d t => cases e
    | s t => cases e
    | t t => cases e
    | f t u => cases e
    | g t => cases e
    | u t => cases e
    | p t => cases e
    | q t => cases e
  · cases e
end

/-! ### calls of defs -/
def eCall (F : Fn) (r : Sems) : Sem := fun L S => match r L S with
  | some (xs, S1) => F xs S1
  | none => none
def eCallK (F : Fn) (is : List Nat) (r rk : Sems) : Sem := fun L S => match r L S with
  | some (xs, S1) => (match rk L S1 with
    | some (zs, S2) => F (pick is (xs ++ zs)) S2
    | none => none)
  | none => none
theorem run_len {np n : Nat} {b : Sts} {xs : List Vl} {S : So} {y : Vl × So} (h : run np n b xs S = some y) : xs.length = np := by
  unfold run at h
  split at h
  · assumption
  · cases h
theorem runT_len {np n : Nat} {b : Sts} {xs : List Vl} {S : So} {y : Vl × So} (h : runT np n b xs S = some y) : xs.length = np := by
  unfold runT at h
  split at h
  · rename_i h1; exact run_len h1
  · cases h
theorem runR_len {np n : Nat} {b : Sts} {xs : List Vl} {S : So} {y : Vl × So} (h : runR np n b xs S = some y) : xs.length = np := by
  unfold runR at h
  split at h
  · rename_i h1; exact run_len h1
  · cases h
def FnLen (F : Fn) (n : Nat) : Prop := ∀ xs S y, F xs S = some y → xs.length = n
theorem pick_vbs [Lams] {K : PySem.W.Frag} {ρ : List Addr} {H : Hp} {is : List Nat} {vs : List V} {xs : List Vl} (b : VBs K ρ H vs xs) : VBs K ρ H (pick is vs) (pick is xs) := by
  induction is with
  | nil => exact .nil
  | cons i is ih =>
    unfold pick at ih ⊢
    rw [List.filterMap_cons, List.filterMap_cons]
    cases hx : xs[i]? with
    | none =>
      have : vs[i]? = none := List.getElem?_eq_none (by rw [b.length]; exact List.getElem?_eq_none_iff.mp hx)
      rw [this]
      exact ih
    | some x =>
      obtain ⟨v, hv, bv⟩ := b.get hx
      rw [hv]
      exact .cons bv ih
theorem VBs.append [Lams] {K : PySem.W.Frag} {ρ : List Addr} {H : Hp} : ∀ {vs ws : List V} {xs ys : List Vl}, VBs K ρ H vs xs → VBs K ρ H ws ys → VBs K ρ H (vs ++ ws) (xs ++ ys)
  | _, _, _, _, .nil, b => b
  | _, _, _, _, .cons h a, b => .cons h (VBs.append a b)
def PMK [Lams] (X : Cx) (kws : List Keyword) (m : Sems) : Prop := PK X kws (tA X.K m)
section
variable {X : Cx} {pos p kpos : Pos} {k : Nat} {f : Addr} {fd : FuncData} {ps ks : List Str} {F : Fn} {x : Str} {e : Expr} {es : List Expr} {m mk : Sems} {kws : List Keyword} {is : List Nat} {n : Nat} {nm : Option Str} {me : Sem}
theorem impK {t t' : TA} (h : PK X kws t) (i : ∀ σ H Q, t' σ H Q → t σ H Q) : PK X kws t' := ⟨fun pos pins s σ H Q I q => h.run pos pins s σ H Q I (i σ H Q q)⟩
theorem pmk_nil [Lams] : PMK X [] aNil := impK pk_nil fun σ H Q ⟨ρ, L, S, xs, S', rl, r, e, k⟩ => by
  cases e
  exact k ρ H [] (Step.refl _ _) r .nil
theorem pmk_cons [Lams] (ha : PM X e me) (hr : PMK X kws m) : PMK X (⟨nm, e, kpos⟩ :: kws) (aCons me m) := impK (pk_cons ha hr) fun σ H Q ⟨ρ, L, S, xs, S', rl, r, e, k⟩ => by
  obtain ⟨x, S1, ys, h1, h2, rfl⟩ := aCons_inv e
  exact ⟨ρ, L, S, x, S1, rl, r, h1, fun ρ1 H1 v s1 r1 b1 => ⟨ρ1, L, S1, ys, S', rl.mono s1, r1, h2, fun ρ2 H2 vs s2 r2 b2 => k ρ2 H2 (v :: vs) (s1.trans s2) r2 (.cons (b1.mono s2) b2)⟩⟩
theorem pm_call [Lams] (G : FnG X.prog X.w X.K X.mg X.base k f fd ps (spM X.K F)) (hl : FnLen F ps.length) (hr : Room k X.A) (hgd : X.A.guards = some []) (hg : Gl X x) (hm : X.mg x = some (.ref f)) (hk : PySem.W.keepIn X.K (.ref f) = true) (hb : Binds X.K fd ps [])
    (ha : PMA X (e :: es) m) (hdb : (x == ("__debug__" : Str)) = false := by kernel_rfl) (he : starEach (e :: es) X.env = (false, eval e X.env) :: starEach es X.env := by kernel_rfl) (hpl : (backTo pos (starEach es X.env)).any (·.1) = false := by kernel_rfl) :
    PM X (.Call (.Name x p) (e :: es) [] pos) (eCall F m) := imp (pe_callG G hr hgd hg hm hk hb .nil ha hdb he hpl) fun σ H Q ⟨ρ, L, S, y, S', rl, r, e, k⟩ => by
  unfold eCall at e
  split at e
  · rename_i xs S1 h1
    refine ⟨ρ, L, S, xs, S1, rl, r, h1, fun ρ1 H1 vs s1 r1 b1 => ?_⟩
    show (vs ++ []).length = ps.length ∧ spM X.K F (vs ++ []) H1 Q
    rw [List.append_nil]
    exact ⟨b1.length.trans (hl _ _ _ e), ρ1, S1, xs, y, S', r1, b1, e, fun ρ' H' v s2 r2 b2 => k ρ' H' v (s1.trans s2) r2 b2⟩
  · cases e
theorem pm_call0 [Lams] (G : FnG X.prog X.w X.K X.mg X.base k f fd ps (spM X.K F)) (hl : FnLen F ps.length) (hr : Room k X.A) (hgd : X.A.guards = some []) (hg : Gl X x) (hm : X.mg x = some (.ref f)) (hk : PySem.W.keepIn X.K (.ref f) = true) (hb : Binds X.K fd ps [])
    (hdb : (x == ("__debug__" : Str)) = false := by kernel_rfl) : PM X (.Call (.Name x p) [] [] pos) (eCall F aNil) := imp (pe_callG0 G hr hgd hg hm hk hb .nil hdb) fun σ H Q ⟨ρ, L, S, y, S', rl, r, e, k⟩ => by
  have e' : F [] S = some (y, S') := e
  exact ⟨hl _ _ _ e', ρ, S, [], y, S', r, .nil, e', fun ρ' H' v s2 r2 b2 => k ρ' H' v s2 r2 b2⟩
theorem pm_callK [Lams] {nk : Nat} (G : FnG X.prog X.w X.K X.mg X.base k f fd ps (spM X.K F)) (hl : FnLen F ps.length) (hr : Room k X.A) (hgd : X.A.guards = some []) (hg : Gl X x) (hm : X.mg x = some (.ref f)) (hk : PySem.W.keepIn X.K (.ref f) = true) (hb : KwB X.K fd ps ks is n)
    (ha : PMA X (e :: es) m) (hkw : PMK X kws mk) (hn : ∀ L S xs S', m L S = some (xs, S') → xs.length = n) (hnk : ∀ L S xs S', mk L S = some (xs, S') → xs.length = ks.length)
    (hall : (backToKw pos (keywordEach kws X.env)).all (·.1.isSome) = true := by kernel_rfl) (hks : (backToKw pos (keywordEach kws X.env)).filterMap (·.1) = ks := by kernel_rfl)
    (hdb : (x == ("__debug__" : Str)) = false := by kernel_rfl) (he : starEach (e :: es) X.env = (false, eval e X.env) :: starEach es X.env := by kernel_rfl)
    (hpl : ((backTo pos (starEach (e :: es) X.env)).any (·.1) || (backToKw pos (keywordEach kws X.env)).any (·.1.isNone)) = false := by kernel_rfl) :
    PM X (.Call (.Name x p) (e :: es) kws pos) (eCallK F is m mk) := imp (pe_callGK G hr hgd hg hm hk hb ha hkw hall hks hdb he hpl) fun σ H Q ⟨ρ, L, S, y, S', rl, r, e, k⟩ => by
  unfold eCallK at e
  split at e
  · rename_i xs S1 h1
    split at e
    · rename_i zs S2 h2
      refine ⟨ρ, L, S, xs, S1, rl, r, h1, fun ρ1 H1 vs s1 r1 b1 => ⟨ρ1, L, S1, zs, S2, rl.mono s1, r1, h2, fun ρ2 H2 ws s2 r2 b2 => ?_⟩⟩
      have b := pick_vbs (is := is) ((b1.mono s2).append b2)
      exact ⟨b1.length.trans (hn _ _ _ _ h1), b2.length.trans (hnk _ _ _ _ h2), b.length.trans (hl _ _ _ e), ρ2, S2, _, y, S', r2, b, e, fun ρ' H' v s3 r3 b3 => k ρ' H' v ((s1.trans s2).trans s3) r3 b3⟩
    · cases e
  · cases e
end
end Mn

/-! MnBlt: calls of built-ins and of methods, dicts, isinstance, repr. -/
namespace Mn
open PySem PySem.Spec PyProof.Rows L2

/-! ### built-ins on trees -/
inductive DvA [Lams] (K : PySem.W.Frag) (ρ : List Addr) (H : Hp) : List V → List T → Prop
  | nil : DvA K ρ H [] []
  | cons {v : V} {vs : List V} {t : T} {ts : List T} : Dv K ρ H v t → DvA K ρ H vs ts → DvA K ρ H (v :: vs) (t :: ts)
def derefs (S : So) : List Vl → Option (List T)
  | [] => some []
  | x :: r => match deref S x with
    | some t => match derefs S r with
      | some ts => some (t :: ts)
      | none => none
    | none => none
theorem VBs.dv [Lams] {K : PySem.W.Frag} {ρ : List Addr} {H : Hp} {S : So} (r : Rel K ρ H S) : ∀ {vs : List V} {xs : List Vl} {ts : List T}, VBs K ρ H vs xs → derefs S xs = some ts → DvA K ρ H vs ts
  | _, _, _, .nil, e => by cases e; exact .nil
  | _, _, ts, .cons b a, e => by
    unfold derefs at e
    split at e
    · rename_i t h1
      split at e
      · rename_i us h2
        cases e
        exact .cons (b.dv r h1) (VBs.dv r a h2)
      · cases e
    · cases e
def CallOk [Lams] (X : Cx) (f : Value) (F : List T → Option T) : Prop := ∃ r, CallR X f r ∧ ∀ (ρ : List Addr) (H : Hp) (S : So) (vs : List V) (ts : List T) (z : T) (Q : VK), Rel X.K ρ H S → DvA X.K ρ H vs ts → F ts = some z →
  (∀ H' y, Step ρ H ρ H' → Rel X.K ρ H' S → Br X.K ρ H' y z → Q y H') → r vs H Q
def eBlt (F : List T → Option T) (r : Sems) : Sem := fun L S => match r L S with
  | some (xs, S1) => (match derefs S1 xs with
    | some ts => (match F ts with
      | some z => some (.d z, S1)
      | none => none)
    | none => none)
  | none => none
theorem eBlt_inv {F : List T → Option T} {r : Sems} {L : Lc} {S S' : So} {w : Vl} (h : eBlt F r L S = some (w, S')) : ∃ xs ts z, r L S = some (xs, S') ∧ derefs S' xs = some ts ∧ F ts = some z ∧ w = .d z := by
  unfold eBlt at h
  split at h
  · rename_i xs S1 h1
    split at h
    · rename_i ts h2
      split at h
      · rename_i z h3
        cases h
        exact ⟨xs, ts, z, h1, h2, h3, rfl⟩
      · cases h
    · cases h
  · cases h
section
variable {X : Cx} {p pos : Pos} {x : Str} {e : Expr} {es : List Expr} {m : Sems} {F : List T → Option T}
theorem tM_blt [Lams] {K : PySem.W.Frag} {r : List V → Hp → VK → Prop} (hr : ∀ (ρ : List Addr) (H : Hp) (S : So) (vs : List V) (ts : List T) (z : T) (Q : VK), Rel K ρ H S → DvA K ρ H vs ts → F ts = some z → (∀ H' y, Step ρ H ρ H' → Rel K ρ H' S → Br K ρ H' y z → Q y H') → r vs H Q) :
    ∀ σ H Q, tM K (eBlt F m) σ H Q → tCB r (tA K m) σ H Q := fun σ H Q ⟨ρ, L, S, x, S', rl, rs, e, k⟩ => by
  obtain ⟨xs, ts, z, h1, h2, h3, rfl⟩ := eBlt_inv e
  exact ⟨ρ, L, S, xs, S', rl, rs, h1, fun ρ1 H1 vs s1 r1 b1 => hr ρ1 H1 S' vs ts z Q r1 (b1.dv r1 h2) h3 fun H' y s r b => k ρ1 H' y (s1.trans s) r b⟩
theorem pm_blt [Lams] {id : String} (hc : CallOk X (.builtin id) F) (hg : Gl X x) (hm : X.mg x = none) (hv : bootBuiltins x = some (.builtin id)) (ha : PMA X (e :: es) m) (hn : x ≠ "__name__" := by decide +kernel) (hdb : (x == ("__debug__" : Str)) = false := by kernel_rfl)
    (he : starEach (e :: es) X.env = (false, eval e X.env) :: starEach es X.env := by kernel_rfl) (hpl : (backTo pos (starEach es X.env)).any (·.1) = false := by kernel_rfl) : PM X (.Call (.Name x p) (e :: es) [] pos) (eBlt F m) := by
  obtain ⟨r, h1, h2⟩ := hc
  exact imp (pe_callB h1 hg hm hv ha hn hdb he hpl) (tM_blt h2)
theorem pm_ty [Lams] {T : String} (hc : CallOk X (.type T) F) (hg : Gl X x) (hm : X.mg x = none) (hv : bootBuiltins x = some (.type T)) (ha : PMA X (e :: es) m) (hn : x ≠ "__name__" := by decide +kernel) (hdb : (x == ("__debug__" : Str)) = false := by kernel_rfl)
    (he : starEach (e :: es) X.env = (false, eval e X.env) :: starEach es X.env := by kernel_rfl) (hpl : (backTo pos (starEach es X.env)).any (·.1) = false := by kernel_rfl) : PM X (.Call (.Name x p) (e :: es) [] pos) (eBlt F m) := by
  obtain ⟨r, h1, h2⟩ := hc
  exact imp (pe_callTy h1 hg hm hv ha hn hdb he hpl) (tM_blt h2)
end
def bLen : List T → Option T
  | [.str x] => if x.length ≤ 100000 then some (.int (x.length : Nat)) else none
  | [.tuple ts] => some (.int (ts.length : Nat))
  | [.list ts] => some (.int (ts.length : Nat))
  | _ => none
def boolsT : List T → Option (List Bool)
  | [] => some []
  | .bool b :: r => match boolsT r with
    | some bs => some (b :: bs)
    | none => none
  | _ :: _ => none
def bAll : List T → Option T
  | [.list ts] => match boolsT ts with
    | some bs => some (.bool (bs.all id))
    | none => none
  | _ => none
def bAny : List T → Option T
  | [.list ts] => match boolsT ts with
    | some bs => some (.bool (bs.any id))
    | none => none
  | _ => none
def bMax2 : List T → Option T
  | [.int i, .int j] => some (.int (if j > i then j else i))
  | _ => none
def bMin2 : List T → Option T
  | [.int i, .int j] => some (.int (if j < i then j else i))
  | _ => none
def bAbs : List T → Option T
  | [.int i] => some (.int (if i < 0 then -i else i))
  | _ => none
def bInt : List T → Option T
  | [.int i] => some (.int i)
  | _ => none
def bDivmod : List T → Option T
  | [.int i, .int j] => if 0 < j ∧ j < 1073741824 then some (.tuple [.int (i / j), .int (i % j)]) else none
  | _ => none
def bTuple : List T → Option T
  | [.tuple ts] => some (.tuple ts)
  | [.list ts] => some (.tuple ts)
  | _ => none
def bList : List T → Option T
  | [.tuple ts] => some (.list ts)
  | [.list ts] => some (.list ts)
  | _ => none
theorem bools_br [Lams] {K : PySem.W.Frag} {ρ : List Addr} {H : Hp} : ∀ {vs : List V} {ts : List T} {bs : List Bool}, BrA K ρ H vs ts → boolsT ts = some bs → vs = bs.map V.bl
  | _, _, _, .nil, e => by cases e; rfl
  | _, _, bs, .cons (t := t) b a, e => by
    cases b with
    | bl c =>
      unfold boolsT at e
      split at e
      · rename_i cs h
        cases e
        rw [bools_br a h]
        rfl
      · cases e
    | non => cases e
    | int _ => cases e
    | str _ _ => cases e
    | tup _ _ => cases e
    | lst _ _ => cases e
section
variable {X : Cx}
theorem c_len [Lams] : CallOk X (.builtin "len") bLen := ⟨_, call_len, fun ρ H S vs ts z Q rs dv e k => by
  unfold bLen at e
  split at e
  · split at e
    · rename_i x hl
      cases e
      cases dv with
      | cons d a =>
        cases a
        obtain ⟨rfl, _⟩ := d.str
        exact ⟨_, _, rfl, ⟨line_of hl, rfl⟩, k H _ (Step.refl _ _) rs (.int _)⟩
    · cases e
  · cases e
    cases dv with
    | cons d a =>
      cases a
      obtain ⟨p, xs, rfl, h1, b1⟩ := d.tuple
      exact ⟨_, _, rfl, .inr ⟨xs, Br.sqT h1, b1.length.symm⟩, k H _ (Step.refl _ _) rs (.int _)⟩
  · cases e
    cases dv with
    | cons d a =>
      cases a
      obtain ⟨p, xs, rfl, h1, b1⟩ := d.seq
      exact ⟨_, _, rfl, .inl ⟨xs, h1, b1.length.symm⟩, k H _ (Step.refl _ _) rs (.int _)⟩
  · cases e⟩
theorem c_all [Lams] (hc : X.calm = true) : CallOk X (.builtin "all") bAll := ⟨_, cr_all hc, fun ρ H S vs ts z Q rs dv e k => by
  unfold bAll at e
  split at e
  · split at e
    · rename_i us bs hb
      cases e
      cases dv with
      | cons d a =>
        cases a
        obtain ⟨p, xs, rfl, h1, b1⟩ := d.seq
        rw [bools_br b1 hb] at h1
        exact ⟨p, bs, rfl, h1, k H _ (Step.refl _ _) rs (.bl _)⟩
    · cases e
  · cases e⟩
theorem c_any [Lams] (hc : X.calm = true) : CallOk X (.builtin "any") bAny := ⟨_, cr_any hc, fun ρ H S vs ts z Q rs dv e k => by
  unfold bAny at e
  split at e
  · split at e
    · rename_i us bs hb
      cases e
      cases dv with
      | cons d a =>
        cases a
        obtain ⟨p, xs, rfl, h1, b1⟩ := d.seq
        rw [bools_br b1 hb] at h1
        exact ⟨p, bs, rfl, h1, k H _ (Step.refl _ _) rs (.bl _)⟩
    · cases e
  · cases e⟩
theorem c_max2 [Lams] (hc : X.calm = true) : CallOk X (.builtin "max") bMax2 := ⟨_, call_max2 hc, fun ρ H S vs ts z Q rs dv e k => by
  unfold bMax2 at e
  split at e
  · cases e
    cases dv with
    | cons d a => cases a with
      | cons d' a =>
        cases a
        rw [d.int, d'.int]
        exact ⟨_, _, rfl, k H _ (Step.refl _ _) rs (.int _)⟩
  · cases e⟩
theorem c_min2 [Lams] (hc : X.calm = true) : CallOk X (.builtin "min") bMin2 := ⟨_, call_min2 hc, fun ρ H S vs ts z Q rs dv e k => by
  unfold bMin2 at e
  split at e
  · cases e
    cases dv with
    | cons d a => cases a with
      | cons d' a =>
        cases a
        rw [d.int, d'.int]
        exact ⟨_, _, rfl, k H _ (Step.refl _ _) rs (.int _)⟩
  · cases e⟩
theorem c_abs [Lams] : CallOk X (.builtin "abs") bAbs := ⟨_, call_abs, fun ρ H S vs ts z Q rs dv e k => by
  unfold bAbs at e
  split at e
  · cases e
    cases dv with
    | cons d a =>
      cases a
      rw [d.int]
      exact ⟨_, rfl, k H _ (Step.refl _ _) rs (.int _)⟩
  · cases e⟩
theorem c_int [Lams] : CallOk X (.type "int") bInt := ⟨_, call_int1, fun ρ H S vs ts z Q rs dv e k => by
  unfold bInt at e
  split at e
  · cases e
    cases dv with
    | cons d a =>
      cases a
      rw [d.int]
      exact .inl ⟨_, rfl, k H _ (Step.refl _ _) rs (.int _)⟩
  · cases e⟩
theorem c_divmod [Lams] : CallOk X (.builtin "divmod") bDivmod := ⟨_, call_divmod, fun ρ H S vs ts z Q rs dv e k => by
  unfold bDivmod at e
  split at e
  · split at e
    · rename_i i j hc
      cases e
      cases dv with
      | cons d a => cases a with
        | cons d' a =>
          cases a
          rw [d.int, d'.int]
          refine ⟨_, _, rfl, hc, fun n hn => ?_⟩
          exact k _ _ (Step.newO hn) (rs.new hn) (.tup (.inl ⟨.inl upd_same, rs.out hn⟩) (.cons (.int _) (.cons (.int _) .nil)))
    · cases e
  · cases e⟩
theorem c_tuple [Lams] : CallOk X (.type "tuple") bTuple := ⟨_, call_tuple_of, fun ρ H S vs ts z Q rs dv e k => by
  unfold bTuple at e
  split at e
  · cases e
    cases dv with
    | cons d a =>
      cases a
      obtain ⟨p, xs, rfl, h1, b1⟩ := d.tuple
      exact ⟨p, xs, rfl, .inr ⟨Br.sqT h1, k H _ (Step.refl _ _) rs (.tup h1 b1)⟩⟩
  · cases e
    cases dv with
    | cons d a =>
      cases a
      obtain ⟨p, xs, rfl, h1, b1⟩ := d.seq
      refine ⟨p, xs, rfl, .inl ⟨h1, fun n hn => ?_⟩⟩
      have st : Step ρ H ρ (upd H n (.tup xs)) := Step.newO hn
      exact k _ _ st (rs.new hn) (.tup (.inl ⟨.inl upd_same, rs.out hn⟩) (b1.mono st))
  · cases e⟩
theorem c_list [Lams] : CallOk X (.type "list") bList := ⟨_, call_list_of, fun ρ H S vs ts z Q rs dv e k => by
  unfold bList at e
  split at e
  · cases e
    cases dv with
    | cons d a =>
      cases a
      obtain ⟨p, xs, rfl, h1, b1⟩ := d.tuple
      refine ⟨p, xs, rfl, .inr (Br.sqT h1), fun n hn => ?_⟩
      have st : Step ρ H ρ (upd H n (.lst xs)) := Step.newO hn
      exact k _ _ st (rs.new hn) (.lst ⟨upd_same, rs.out hn⟩ (b1.mono st))
  · cases e
    cases dv with
    | cons d a =>
      cases a
      obtain ⟨p, xs, rfl, h1, b1⟩ := d.seq
      refine ⟨p, xs, rfl, .inl h1, fun n hn => ?_⟩
      have st : Step ρ H ρ (upd H n (.lst xs)) := Step.newO hn
      exact k _ _ st (rs.new hn) (.lst ⟨upd_same, rs.out hn⟩ (b1.mono st))
  · cases e⟩
end

/-! ### isinstance -/
def isiT (c : String) : T → Bool
  | .int _ => c == "int"
  | .bool _ => c == "int" || c == "bool"
  | .str _ => c == "str"
  | .tuple _ => c == "tuple"
  | .list _ => c == "list"
  | _ => false
def eIsi (c : String) (m : Sem) : Sem := fun L S => match m L S with
  | some (.d t, S1) => some (.d (.bool (isiT c t)), S1)
  | _ => none
/-- what the written part answers of the built-in classes -/
structure IsiK (K : PySem.W.Frag) (c : String) : Prop where
  non : PySem.W.kitOne K (.type "NoneType") (.type c) = some false
  bl : PySem.W.kitOne K (.type "bool") (.type c) = some (c == "int" || c == "bool")
  int : PySem.W.kitOne K (.type "int") (.type c) = some (c == "int")
  str : PySem.W.kitOne K (.type "str") (.type c) = some (c == "str")
  tup : PySem.W.kitOne K (.type "tuple") (.type c) = some (c == "tuple")
  lst : PySem.W.kitOne K (.type "list") (.type c) = some (c == "list")
theorem Tk.ty [Lams] {K : PySem.W.Frag} {ρ : List Addr} {H : Hp} {a : Addr} {xs : List V} (h : Tk K ρ H a xs) : TyX K H (.ref a) (.type "tuple") := by
  rcases h with ⟨h | ⟨o, h⟩, _⟩ | h
  · exact .base (.tup h)
  · exact .fTuple h
  · rcases h (fun _ => none) with (h | ⟨o, h⟩) | ⟨o, its, n, h1, h2, _⟩
    · cases h
    · cases h
    · exact .kTuple h1 h2
section
variable {X : Cx} {p pos p2 : Pos} {e : Expr} {m : Sem}
theorem pm_isi [Lams] {c : String} {cn : Str} (I : IsiK X.K c) (hg : Gl X "isinstance") (hm : X.mg "isinstance" = none) (hg2 : Gl X cn) (hm2 : X.mg cn = none) (hv2 : bootBuiltins cn = some (.type c)) (he : PM X e m) (hn2 : cn ≠ "__name__" := by decide +kernel) (hd2 : (cn == ("__debug__" : Str)) = false := by kernel_rfl)
    (hs : starEach [e, .Name cn p2] X.env = (false, eval e X.env) :: starEach [.Name cn p2] X.env := by kernel_rfl) (hs2 : starEach [.Name cn p2] X.env = (false, eval (.Name cn p2) X.env) :: starEach [] X.env := by kernel_rfl) (hpl : (backTo pos (starEach [.Name cn p2] X.env)).any (·.1) = false := by kernel_rfl) :
    PM X (.Call (.Name "isinstance" p) [e, .Name cn p2] [] pos) (eIsi c m) :=
  imp (pe_callB (id := "isinstance") call_isi hg hm (by decide +kernel) (pa_cons he (pa_cons (pe_bltn hg2 hm2 hv2 (v := .ty c) rfl hn2 hd2) pa_nil hs2) hs) (by decide) (by decide) hs hpl) fun σ H Q ⟨ρ, L, S, x, S', rl, r, e, k⟩ => by
    unfold eIsi at e
    split at e
    · rename_i t S1 h1
      cases e
      refine ⟨ρ, L, S, _, _, rl, r, h1, fun ρ1 H1 v s1 r1 b1 => ?_⟩
      have fin : Q (.bl (isiT c t)) H1 := k ρ1 H1 _ s1 r1 (.bl _)
      cases (show Br X.K ρ1 H1 v t from b1) with
      | non => exact ⟨_, _, _, _, _, rfl, .ty c, .base .non, I.non, fin⟩
      | bl b => exact ⟨_, _, _, _, _, rfl, .ty c, .base (.bl b), I.bl, fin⟩
      | int i => exact ⟨_, _, _, _, _, rfl, .ty c, .base (.int i), I.int, fin⟩
      | str x h => exact ⟨_, _, _, _, _, rfl, .ty c, .base (.str x), I.str, fin⟩
      | tup h b => exact ⟨_, _, _, _, _, rfl, .ty c, h.ty, I.tup, fin⟩
      | lst h b => exact ⟨_, _, _, _, _, rfl, .ty c, .base (.lst h.1), I.lst, fin⟩
    · cases e
end

/-! ### methods of lists in cells -/
def ePop (o : Sem) : Sem := fun L S => match o L S with
  | some (.r n, S1) => (match S1[n]? with
    | some (.lst ts) => (match ts[ts.length - 1]? with
      | some t => some (.d t, S1.set n (.lst ts.dropLast))
      | none => none)
    | _ => none)
  | _ => none
/-- the cell that o tells, a list's, ahead of what a tells -/
def eCell (o a : Sem) (L : Lc) (S : So) : Option (Nat × Vl × List T × So) := match o L S with
  | some (.r n, S1) => (match S1[n]? with
    | some (.lst _) => (match a L S1 with
      | some (x, S2) => (match S2[n]? with
        | some (.lst ts) => some (n, x, ts, S2)
        | _ => none)
      | none => none)
    | _ => none)
  | _ => none
def eApp (o a : Sem) : Sem := fun L S => match eCell o a L S with
  | some (n, .d t, ts, S2) => if ts.length < 100000 then some (.d .none, S2.set n (.lst (ts ++ [t]))) else none
  | _ => none
def eExt (o a : Sem) : Sem := fun L S => match eCell o a L S with
  | some (n, x, ts, S2) => (match deref S2 x with
    | some (.list us) => if ts.length + us.length ≤ 100000 then some (.d .none, S2.set n (.lst (ts ++ us))) else none
    | some (.tuple us) => if ts.length + us.length ≤ 100000 then some (.d .none, S2.set n (.lst (ts ++ us))) else none
    | _ => none)
  | none => none
theorem eCell_inv {o a : Sem} {L : Lc} {S S2 : So} {n : Nat} {x : Vl} {ts : List T} (h : eCell o a L S = some (n, x, ts, S2)) : ∃ S1 us, o L S = some (.r n, S1) ∧ S1[n]? = some (.lst us) ∧ a L S1 = some (x, S2) ∧ S2[n]? = some (.lst ts) := by
  unfold eCell at h
  split at h
  · rename_i m S1 h1
    split at h
    · rename_i us h2
      split at h
      · rename_i y S3 h3
        split at h
        · rename_i vs h4
          cases h
          exact ⟨S1, us, h1, h2, h3, h4⟩
        · cases h
      · cases h
    · cases h
  · cases h
theorem extend_tup (l : Addr) (xs : Array Value) (n : Nat) (b : Addr) (ys : Array Value) (n2 : Nat) (dd : Option Addr) (sl : Array (Option Value)) (h0 : ¬(!xs.isEmpty && Builtin.List.listTooLong (xs.size + ys.size)) = true) (h1 : xs.size ≤ sizeLine) (h2 : (xs ++ ys).size ≤ sizeLine + 1) :
    Meets (Builtin.«list.extend» ⟨[.ref l, .ref b], []⟩) (fun _ R s => s.heap.get? l = some { cls := .type "list", dict := none, data := .seq xs n, slots := #[] } ∧ s.heap.get? b = some { cls := .type "tuple", dict := dd, data := .seq ys n2, slots := sl } ∧
      R (.ok (.ret Value.none)) { s with heap := s.heap.update l (Obj.mapSeq fun x => x ++ ys), toks := s.toks }) :=
  .of_wp fun prog w A R s q => by
    obtain ⟨hp, g, d, tk, os⟩ := s
    obtain ⟨q1, q2, q3⟩ := q
    have k1 := AutoSeq1.sub_tuple_tuple
    have k2 := AutoSeq1.sub_list_list
    have k3 := AutoSeq1.sub_tuple_list
    wp_walk using (wpAny_updateSeq q1 rfl (hz := h1) (_hz' := h2)), AutoSeq1.wpAny_loadPart' q1, AutoSeq1.wpAny_loadPart' q2
    exact ⟨_, rfl, q3⟩
section
variable {X : Cx}
def rExtT (K : PySem.W.Frag) : V → List V → Hp → VK → Prop := fun x vs H Q => ∃ l b xs zs, x = .ref l ∧ vs = [.ref b] ∧ H l = some (.lst xs) ∧ SqT K H b zs ∧ xs.length + zs.length ≤ sizeLine ∧ Q .non (upd H l (.lst (xs ++ zs)))
/-- xs.extend(a tuple) -/
theorem mt_extT : MtR X "list.extend" (rExtT X.K) := by
  intro pins s σ H x vs v us Q I rx rv h
  obtain ⟨l, b, xs, zs, rfl, rfl, hH, hB, hz, q⟩ := h
  cases rx
  obtain ⟨u, rfl, ru⟩ := rv.one
  cases ru
  obtain ⟨z, its, n, r, hl, e⟩ := I.lstM hH
  obtain ⟨its2, r2, ⟨⟨c2, dd, dt, sl⟩, e2, hc2, n2, hd2⟩, hz2⟩ := I.tuple hB
  have hc2' : c2 = .type "tuple" := hc2
  have hd2' : dt = .seq its2.toArray n2 := hd2
  subst hc2' hd2'
  have hl2 := r2.length
  have hsum : its.toArray.size + its2.toArray.size ≤ sizeLine := by simp only [List.size_toArray]; omega
  refine call_meets F.slot_list_extend ⟨_, e, rfl⟩ F.entry_list_extend (F.args_list_extend_2 _ _) (extend_tup l its.toArray n b its2.toArray n2 dd sl ?_ ?_ ?_) ⟨e, e2, ?_⟩
  · rw [notLongL hsum, Bool.and_false]
    exact Bool.false_ne_true
  · simp only [List.size_toArray]; omega
  · rw [Array.size_append]; omega
  · refine ⟨.non, _, I.lset (its' := its ++ its2) hH e (by simp) (r.append r2) ?_, rfl, q⟩
    rw [List.length_append]
    omega
variable {apos cpos : Pos} {o e : Expr} {mo me : Sem}
theorem tyV_cell {K : PySem.W.Frag} {H : Hp} {a : Addr} {xs : List V} (h : H a = some (.lst xs)) : tyV K "list" (.ref a) H := .inl ⟨rfl, _, .inl (.inl h)⟩
theorem pm_pop [Lams] (ho : PM X o mo) (hbase : attributeBase o "pop" X.env (eval o X.env) = eval o X.env := by kernel_rfl) (hline : (apos.endLine == cpos.line) = true := by kernel_rfl) : PM X (.Call (.Attribute o "pop" apos) [] [] cpos) (ePop mo) :=
  imp (pe_bm0 F.plainAttrs_list F.slot_list_pop F.type_list_pop mt_pop ho hbase hline) fun σ H Q ⟨ρ, L, S, x, S', rl, r, e, k⟩ => by
    unfold ePop at e
    split at e
    · rename_i n S1 h1
      split at e
      · rename_i ts h2
        split at e
        · rename_i t h3
          cases e
          refine ⟨ρ, L, S, _, S1, rl, r, h1, fun ρ1 H1 v s1 r1 b1 => ?_⟩
          obtain ⟨a, ha, rfl⟩ := b1
          obtain ⟨xs, hx, bx⟩ := r1.cell _ _ _ ha h2
          obtain ⟨v, hv, bv⟩ := bx.get h3
          refine ⟨tyV_cell hx, a, xs, v, rfl, rfl, hx, by rw [bx.length]; exact hv, ?_⟩
          have st := Step.put (ρ := ρ1) (H := H1) (o := .lst xs.dropLast) (List.mem_of_getElem? ha) hx
          exact k ρ1 _ _ (s1.trans st) (r1.put ha ⟨_, upd_same, bx.dropLast.mono st⟩ hx) (bv.mono st)
        · cases e
      · cases e
    · cases e
/-- the readings of o and a, ahead of what the method does -/
theorem tM_cell [Lams] {K : PySem.W.Frag} {σ : L2.St} {H : Hp} {ρ : List Addr} {L : Lc} {S S2 : So} {n : Nat} {x : Vl} {ts : List T} {r : V → List V → Hp → VK → Prop} {Q : VK} (rl : RelL K ρ H σ L) (rs : Rel K ρ H S) (h : eCell mo me L S = some (n, x, ts, S2))
    (k : ∀ ρ' H' a xs v, Step ρ H ρ' H' → Rel K ρ' H' S2 → ρ'[n]? = some a → H' a = some (.lst xs) → BrA K ρ' H' xs ts → VB K ρ' H' v x → r (.ref a) [v] H' Q) : tBM K "list" r (tM K mo) (tCons (tM K me) tNil) σ H Q := by
  obtain ⟨S1, us, h1, h2, h3, h4⟩ := eCell_inv h
  refine ⟨ρ, L, S, _, S1, rl, rs, h1, fun ρ1 H1 v s1 r1 b1 => ?_⟩
  obtain ⟨a, ha, rfl⟩ := b1
  obtain ⟨xs, hx, bx⟩ := r1.cell _ _ _ ha h2
  refine ⟨tyV_cell hx, ρ1, L, S1, x, S2, rl.mono s1, r1, h3, fun ρ2 H2 v2 s2 r2 b2 => ?_⟩
  have ha2 : ρ2[n]? = some a := by
    obtain ⟨more, rfl⟩ := s2.pre
    rw [List.getElem?_append_left (List.getElem?_eq_some_iff.mp ha).1]
    exact ha
  obtain ⟨ys, hy, bY⟩ := r2.cell _ _ _ ha2 h4
  exact k ρ2 H2 a ys v2 (s1.trans s2) r2 ha2 hy bY b2
theorem pm_app [Lams] (ho : PM X o mo) (ha : PM X e me) (hbase : attributeBase o "append" X.env (eval o X.env) = eval o X.env := by kernel_rfl)
    (hfew : ((backTo cpos (starEach [e] X.env)).all (fun x => !x.1) && (backToKw cpos (keywordEach [] X.env)).all (fun x => x.1.isSome) && decide ([e].length + ([] : List Keyword).length + (if ([] : List Keyword).isEmpty then 0 else 1) < 30)) = true := by kernel_rfl)
    (hline : (apos.endLine == cpos.line) = true := by kernel_rfl) (hs : starEach [e] X.env = (false, eval e X.env) :: starEach [] X.env := by kernel_rfl) (hplain : (backTo cpos (starEach [] X.env)).any (·.1) = false := by kernel_rfl) : PM X (.Call (.Attribute o "append" apos) [e] [] cpos) (eApp mo me) :=
  imp (pe_bm F.plainAttrs_list F.slot_list_append F.type_list_append mt_append ho (pa_cons ha pa_nil hs) hbase hfew hline hs hplain) fun σ H Q ⟨ρ, L, S, x, S', rl, r, e, k⟩ => by
    unfold eApp at e
    split at e
    · rename_i n t ts S2 h1
      split at e
      · rename_i hz
        cases e
        refine tM_cell rl r h1 fun ρ1 H1 a xs v s1 r1 ha hx bx bv => ?_
        have bv' : Br X.K ρ1 H1 v t := bv
        have st := Step.put (ρ := ρ1) (H := H1) (o := .lst (xs ++ [v])) (List.mem_of_getElem? ha) hx
        exact ⟨a, xs, v, rfl, rfl, hx, Nat.lt_of_lt_of_le (by rw [bx.length]; exact hz) (by decide), k ρ1 _ _ (s1.trans st) (r1.put ha ⟨_, upd_same, (bx.append (.cons bv' .nil)).mono st⟩ hx) .non⟩
      · cases e
    · cases e
theorem pm_ext [Lams] (ho : PM X o mo) (ha : PM X e me) (hbase : attributeBase o "extend" X.env (eval o X.env) = eval o X.env := by kernel_rfl)
    (hfew : ((backTo cpos (starEach [e] X.env)).all (fun x => !x.1) && (backToKw cpos (keywordEach [] X.env)).all (fun x => x.1.isSome) && decide ([e].length + ([] : List Keyword).length + (if ([] : List Keyword).isEmpty then 0 else 1) < 30)) = true := by kernel_rfl)
    (hline : (apos.endLine == cpos.line) = true := by kernel_rfl) (hs : starEach [e] X.env = (false, eval e X.env) :: starEach [] X.env := by kernel_rfl) (hplain : (backTo cpos (starEach [] X.env)).any (·.1) = false := by kernel_rfl) : PM X (.Call (.Attribute o "extend" apos) [e] [] cpos) (eExt mo me) :=
  imp (pe_bm F.plainAttrs_list F.slot_list_extend F.type_list_extend ((show MtR X "list.extend" rExtend from mt_extend).or mt_extT) ho (pa_cons ha pa_nil hs) hbase hfew hline hs hplain) fun σ H Q ⟨ρ, L, S, x, S', rl, r, e, k⟩ => by
    unfold eExt at e
    split at e
    · rename_i n y ts S2 h1
      refine tM_cell rl r h1 fun ρ1 H1 a xs v s1 r1 ha hx bx bv => ?_
      split at e
      · rename_i us h2
        split at e
        · rename_i hz
          cases e
          obtain ⟨b, ys, rfl, h3, by_⟩ := (bv.dv r1 h2).list
          have st := Step.put (ρ := ρ1) (H := H1) (o := .lst (xs ++ ys)) (List.mem_of_getElem? ha) hx
          exact .inl ⟨a, b, xs, ys, rfl, rfl, hx, h3, line_of (by rw [bx.length, by_.length]; exact hz), k ρ1 _ _ (s1.trans st) (r1.put ha ⟨_, upd_same, (bx.append by_).mono st⟩ hx) .non⟩
        · cases e
      · rename_i us h2
        split at e
        · rename_i hz
          cases e
          obtain ⟨b, ys, rfl, h3, by_⟩ := (bv.dv r1 h2).tuple
          have st := Step.put (ρ := ρ1) (H := H1) (o := .lst (xs ++ ys)) (List.mem_of_getElem? ha) hx
          exact .inr ⟨a, b, xs, ys, rfl, rfl, hx, Br.sqT h3, line_of (by rw [bx.length, by_.length]; exact hz), k ρ1 _ _ (s1.trans st) (r1.put ha ⟨_, upd_same, (bx.append by_).mono st⟩ hx) .non⟩
        · cases e
      · cases e
    · cases e
end
end Mn

/-! MnEnum: enumerate(tuple). -/
namespace PySem
open Sem (wp)
open AutoSeq1 (wpAny_loadPart')
theorem Mn_meets_enumT (l : Addr) (items : Array Value) (n : Nat) (dct : Option Addr) (sl : Array (Option Value)) :
    Meets (Builtin.«enumerate.__new__» ⟨[.type "enumerate", .ref l], []⟩) (fun _ R s => s.heap.get? l = some { cls := .type "tuple", dict := dct, data := .seq items n, slots := sl } ∧
      R (.ok (.ret (.ref (s.heap.push { cls := .type "tuple_iterator", data := .fields #[.ref l, .int 0 0] }).objs.size)))
        { s with heap := (s.heap.push { cls := .type "tuple_iterator", data := .fields #[.ref l, .int 0 0] }).push { cls := .type "enumerate", data := .fields #[.none, .bool false, .ref s.heap.objs.size, rawInt 0, .none, .none] } }) :=
  .of_wp fun prog w A R s h => by
    obtain ⟨hp, g, d, tk, os⟩ := s
    obtain ⟨hl, h⟩ := h
    have hsub := sub_enumerate
    have hL : Heap.IsTuple (Shared.heap ⟨hp, g, d, tk, os⟩) l items := ⟨_, hl, rfl, n, rfl⟩
    wp_walk using wpAny_loadPart' hl
    refine wpAny_stack_any fun st => wpAny_pure ?_
    split
    · rename_i c _ _ _ _ _
      cases (c == Value.type "enumerate")
      · wp_walk using wpAny_loadPart' hl, wpAny_pyIter_tuple hL
        exact ⟨_, rfl, h⟩
      · wp_walk using wpAny_loadPart' hl, wpAny_pyIter_tuple hL
        exact ⟨_, rfl, h⟩
    · wp_walk using wpAny_loadPart' hl, wpAny_pyIter_tuple hL
      exact ⟨_, rfl, h⟩
section
variable {prog : Program} {w : World} {A : Around} {E : Value → Shared → Prop} {s : Shared}
theorem Mn_call_enumT {l : Addr} {items : Array Value} {Q : Value → Shared → Prop} (hL : s.heap.IsTuple l items)
    (h : ∀ h', IsEnum h' (s.heap.objs.size + 1) s.heap.objs.size 0 .none → h'.IsTupleIter s.heap.objs.size l 0 → h'.objs.size = s.heap.objs.size + 2 → (∀ b o, s.heap.get? b = some o → h'.get? b = some o) →
      Q (.ref (s.heap.objs.size + 1)) { s with heap := h' }) : wpAny (model prog w) A (call (.type "enumerate") [.ref l]) Q E s := by
  obtain ⟨⟨c, dct, dt, sl⟩, hl, hc, n, hd⟩ := hL
  replace hc : c = .type "tuple" := hc
  replace hd : dt = .seq items n := hd
  subst hc hd
  refine callType_new F.called_enumerate (by decide) (F.typeCall_enumerate_1 _) (F.newCall_enumerate_1 _) (fun obj => F.args_object_init_2 obj _) F.entry_enumerate_new (Mn_meets_enumT l items n dct sl) ⟨hl, ?_⟩
  have hz : (s.heap.push { cls := .type "tuple_iterator", data := .fields #[.ref l, .int 0 0] }).objs.size = s.heap.objs.size + 1 := Heap.size_push ..
  show _ ∧ _
  rw [hz]
  have he : IsEnum ((s.heap.push { cls := .type "tuple_iterator", data := .fields #[.ref l, .int 0 0] }).push
      { cls := .type "enumerate", data := .fields #[.none, .bool false, .ref s.heap.objs.size, rawInt 0, .none, .none] }) (s.heap.objs.size + 1) s.heap.objs.size 0 .none := by
    have q := Heap.get?_push_size (s.heap.push { cls := .type "tuple_iterator", data := .fields #[.ref l, .int 0 0] })
      (o := { cls := .type "enumerate", data := .fields #[.none, .bool false, .ref s.heap.objs.size, rawInt 0, .none, .none] }) rfl
    rw [hz] at q
    exact q
  refine ⟨⟨_, he, rfl⟩, h _ he ⟨_, Heap.get?_push_of_some _ (Heap.get?_push_size _ rfl), rfl, rfl⟩ (by rw [Heap.size_push, hz]) fun b o x => Heap.get?_push_of_some _ (Heap.get?_push_of_some _ x)⟩
end
end PySem

namespace Mn
open PySem PySem.Spec PyProof.Rows L2
def ItE (K : PySem.W.Frag) (a : Addr) : It :=
  ⟨fun i H => ∃ (xs : List V) (x : V), SqT K H a xs ∧ xs[i]? = some x, fun i H v H' => ∃ t x, v = .ref t ∧ H t = none ∧ H' = upd H t (.tup [.int (i : Nat), x]) ∧ ∀ xs, SqT K H a xs → xs[i]? = some x, fun i H => ∃ xs : List V, SqT K H a xs ∧ xs.length ≤ i⟩
theorem turn_enumT {P : Program} {w : World} {K : PySem.W.Frag} {elts : List Expr} {kk : Nat} {tpos : Pos} (a e it : Addr) :
    Turn P w K (.Tuple elts kk tpos) (ItE K a) [e, it] e (fun i h => (∃ old, IsEnum h e it ((i : Nat) : Int) old) ∧ h.IsTupleIter it a i ∧ e ≠ it) where
  mem := by simp
  obj := fun i h st b hb => by
    obtain ⟨⟨old, he⟩, ⟨o, ho, hc, hd⟩, _⟩ := st
    have e' : b = e ∨ b = it := by simpa using hb
    rcases e' with z | z
    · rw [z]; exact ⟨_, he, fun v q => nomatch q⟩
    · rw [z]; exact ⟨o, ho, fun v q => by rw [hd] at q; cases q⟩
  keep := fun i h h' st k => let ⟨⟨old, he⟩, hi, hne⟩ := st; ⟨⟨old, k e (by simp) _ he⟩, hi.at fun o q => k it (by simp) o q, hne⟩
  item := by
    intro X hP hw hK hc i pins s σ H E I hf st hg
    subst hP hw hK
    obtain ⟨⟨old, he⟩, hit, hne⟩ := st
    obtain ⟨xs, x, hq, hx⟩ := hg
    obtain ⟨its, rv, p, hz⟩ := I.tuple hq
    obtain ⟨u, hu, ru⟩ := rv.get hx
    have hel : e < s.heap.objs.size := Heap.lt_size he
    have hil : it < s.heap.objs.size := by obtain ⟨_, q, _⟩ := hit; exact Heap.lt_size q
    have p2 : s.heap.IsTuple a its.toArray := p
    have hpe : ∀ b, (b = e ∨ b = it) → a ≠ b := fun b hb z => by
      obtain ⟨o, ho, hc2, n2, hd2⟩ := p2
      rcases hb with y | y
      · rw [z, y] at ho
        have he2 : s.heap.get? e = some _ := he
        rw [he2] at ho
        cases ho
        cases hd2
      · rw [z, y] at ho
        obtain ⟨o2, ho2, hc3, hd3⟩ := hit
        rw [ho2] at ho
        cases ho
        rw [hd3] at hd2
        cases hd2
    have D := Draws.tuple (prog := X.prog) (w := X.w) (A := X.A.in1) (I.ok.hd hc) it a (hpe it (.inr rfl)) its.toArray
    have hlt : i < its.toArray.size := by
      rw [List.size_toArray, ← rv.length]
      exact (List.getElem?_eq_some_iff.mp hx).1
    refine wpAny_pyNext_enum_itemD (A := X.A) D he ⟨hit, p2⟩ hlt hne (by simp only [List.mem_cons, List.not_mem_nil, or_false]; exact fun z => z.elim hne fun z => hpe e (.inl rfl) z.symm) fun y h' tk hy ho hst hT hsz hk => ?_
    have hyu : y = u := by
      have hu' : its.toArray[i]? = some u := by simpa using hu
      rw [hu'] at hy
      exact (Option.some.inj hy).symm
    subst hyu
    refine ⟨_, rfl, wpAny_letOwnedTupleGo_enum (s := { s with heap := h', toks := tk + 1 }) ho fun h'' he' sb => ?_⟩
    have hT2 : h''.get? s.heap.objs.size = some { cls := .type "tuple", data := .seq #[.int i tk, y] } := (sb.2 _ (Nat.ne_of_gt hel)).trans hT
    have new : ObjOk X.prog X.w (upd H s.heap.objs.size (.tup [.int (i : Nat), x])) h'' s.heap.objs.size (.tup [.int (i : Nat), x]) :=
      ⟨by show 2 ≤ sizeLine; decide, [.int i tk, y], .cons ⟨_, rfl⟩ (.cons ru .nil), ⟨_, hT2, rfl, _, rfl⟩⟩
    have I1 : Inv X pins σ (upd H s.heap.objs.size (.tup [.int (i : Nat), x])) { s with heap := h'', toks := tk + 1 } :=
      I.turnedNew (ch := [e, it]) (fun b ob hb q => (sb.2 b (fun z => hb (by simp [z]))).trans (hk b ob (fun z => hb (by simp [z])) (fun z => hb (by simp [z])) q)) hf (Nat.le_refl _) new
    refine ⟨.ref s.heap.objs.size, _, I1, rfl, ⟨_, x, rfl, I.hok.fresh (Nat.le_refl _), rfl, fun ys hy => by rw [I.tuple_inj hy hq]; exact hx⟩, ⟨⟨y, ?_⟩, hst.1.at fun o q => (sb.2 it (Ne.symm hne)).trans q, hne⟩, fun b hb => ?_⟩
    · have e1 : ((i + 1 : Nat) : Int) = (i : Int) + 1 := by omega
      rw [e1]; exact he'
    · have hb' : b < s.heap.objs.size := by
        have e' : b = e ∨ b = it := by simpa using hb
        rcases e' with z | z
        · rw [z]; exact hel
        · rw [z]; exact hil
      rw [upd_ne (Nat.ne_of_lt hb')]
      exact (hf b hb).1
  done := by
    intro X hP hw hK hc i pins s σ H E I hf st hg
    subst hP hw hK
    obtain ⟨⟨old, he⟩, hit, hne⟩ := st
    obtain ⟨xs, hq, hx⟩ := hg
    obtain ⟨its, rv, p, hz⟩ := I.tuple hq
    obtain ⟨f0, f1, f2, f3, f4, f5⟩ := hf it (by simp)
    have hl := rv.length
    have hT : s.TypeIs (.ref e) "enumerate" := ⟨_, he, rfl⟩
    unfold pyNext
    refine wpAny_bind (wpAny_attempt (wpAny_callSpecial?_slot (name := Str.ofString "__next__") hT F.slot_enumerate_next (wpAny_call_entry F.slot_enumerate_next hT F.entry_enumerate_next ?_ (F.args_enumerate_next_1 _))))
    show wpAny _ _ (field (.ref e) 2 >>= _) _ _ _
    refine wpAny_bind (wpAny_field he rfl (x := .ref it) rfl ?_)
    refine wpAny_bind (wpAny_nextOf_tuple_end (A := X.A.in1) (I.ok.hd hc) hit p (by simp; omega) fun h' x he' hx' => ?_)
    obtain ⟨o, ho, hcl⟩ := hx'
    refine wpAny_bind (wpAny_isInstance (T := "StopIteration") (b := true) ⟨o, ho, hcl⟩ isSubtype_stop ?_)
    exact wpAny_pure ⟨rfl, I.turned (t' := s.toks) (fun b o hb q => he' b o hb q) f0 f1 f3 f4 f5⟩
  self := fun A i s Q E st h => let ⟨⟨_, he⟩, _⟩ := st; wpAny_pyIter_enum he h
def iEn (K : PySem.W.Frag) (ta : TA) : TI := fun σ H R => ta σ H fun vs H1 => ∃ a xs, vs = [.ref a] ∧ SqT K H1 a xs ∧ R (ItE K a) H1
theorem pi_en {X : Cx} {e : Expr} {ta : TA} {p pos tpos : Pos} {elts : List Expr} {kk : Nat} (hg : Gl X "enumerate") (hm : X.mg "enumerate" = none) (ha : PA X [e] ta) (hs : starEach [e] X.env = [(false, eval e X.env)] := by kernel_rfl) :
    PI X (.Tuple elts kk tpos) (.Call (.Name "enumerate" p) [e] [] pos) (iEn X.K ta) := by
  refine ⟨fun pins s σ H R I h => ?_⟩
  refine Call_ (ld_blt I hg hm boot_enumerate (PyProof.Rows.callWith_type1 (thn (ha.run pos pins s σ H _ I h) fun us s1 ⟨vs, H1, I1, r1, a, xs, ex, hq, q⟩ => ?_) hs rfl))
  subst ex
  cases r1 with
  | cons r rr =>
    cases rr
    cases r
    obtain ⟨its, rv, pt, hz⟩ := I1.tuple hq
    refine Mn_call_enumT pt fun h' he hit hsz hk => wpAny_pyIter_enum he ?_
    refine ⟨s1.heap.objs.size + 1, [s1.heap.objs.size + 1, s1.heap.objs.size], _, _, H1, rfl, I1.kept (t' := s1.toks) hk, turn_enumT a _ _, ⟨⟨.none, he⟩, hit, Nat.succ_ne_self _⟩, fun b hb => ?_, q⟩
    have hle : s1.heap.objs.size ≤ b := by
      rcases List.mem_cons.mp hb with z | z
      · rw [z]; exact Nat.le_succ _
      · rw [List.mem_singleton.mp z]; exact Nat.le_refl _
    exact I1.fpOk hle (I1.hok.fresh hle)
/-- enumerate of a tuple: pairs of a place and an item -/
def pairsT : Nat → List T → List T
  | _, [] => []
  | i, t :: r => .tuple [.int (i : Nat), t] :: pairsT (i + 1) r
theorem pairsT_get : ∀ {ts : List T} {i j : Nat}, (pairsT i ts)[j]? = ts[j]?.map fun t => .tuple [.int ((i + j : Nat) : Int), t]
  | [], _, _ => by simp [pairsT]
  | t :: r, i, 0 => by simp [pairsT]
  | t :: r, i, j + 1 => by
    unfold pairsT
    rw [List.getElem?_cons_succ, List.getElem?_cons_succ, pairsT_get (ts := r)]
    have e : i + 1 + j = i + (j + 1) := by omega
    rw [e]
theorem pairsT_len : ∀ {ts : List T} {i : Nat}, (pairsT i ts).length = ts.length
  | [], _ => rfl
  | t :: r, i => by unfold pairsT; rw [List.length_cons, List.length_cons, pairsT_len]
def iEnM (m : Sem) : SemI := fun L S => match m L S with
  | some (.d (.tuple ts), S1) => some (pairsT 0 ts, S1)
  | _ => none
theorem pim_en [Lams] {X : Cx} {e : Expr} {m : Sem} {p pos tpos : Pos} {elts : List Expr} {kk : Nat} (hg : Gl X "enumerate") (hm : X.mg "enumerate" = none) (he : PM X e m) (hs : starEach [e] X.env = [(false, eval e X.env)] := by kernel_rfl) :
    PIM X (.Tuple elts kk tpos) (.Call (.Name "enumerate" p) [e] [] pos) (iEnM m) :=
  impI (pi_en hg hm (pa_cons he pa_nil hs) hs) fun σ H R ⟨ρ, L, S, ts, S', rl, r, e, k⟩ => by
    unfold iEnM at e
    split at e
    · rename_i us S1 h1
      cases e
      refine ⟨ρ, L, S, _, _, rl, r, h1, fun ρ1 H1 v s1 r1 b1 => ?_⟩
      obtain ⟨a, xs, rfl, h2, b2⟩ := (Dv.t b1 : Dv X.K ρ1 H1 v (.tuple us)).tuple
      refine ⟨a, xs, rfl, Br.sqT h2, k ρ1 H1 _ (fun ρ H => Tk X.K ρ H a xs ∧ BrA X.K ρ H xs us) s1 r1 ⟨fun s c => ⟨c.1.mono s, c.2.mono s⟩, fun {ρ H i} c hi => ?_, fun {ρ H i} c hi => ?_, fun {ρ H S i x H' t} c rr y ht => ?_⟩ ⟨h2, b2⟩⟩
      · rw [pairsT_len] at hi
        obtain ⟨v, hv, _⟩ := c.2.get (List.getElem?_eq_getElem hi)
        exact ⟨xs, v, Br.sqT c.1, hv⟩
      · rw [pairsT_len] at hi
        exact ⟨xs, Br.sqT c.1, by rw [c.2.length]; exact hi⟩
      · obtain ⟨p, z, rfl, hp, rfl, y⟩ := y
        rw [pairsT_get] at ht
        cases hu : us[i]? with
        | none => rw [hu] at ht; cases ht
        | some u =>
          rw [hu] at ht
          obtain ⟨v, hv, bv⟩ := c.2.get hu
          have ez := y xs (Br.sqT c.1)
          rw [hv] at ez
          obtain rfl : v = z := Option.some.inj ez
          have et : t = .tuple [.int ((0 + i : Nat) : Int), u] := (Option.some.inj ht).symm
          rw [Nat.zero_add] at et
          subst et
          have st : Step ρ H ρ (upd H p (.tup [.int (i : Nat), v])) := Step.newO hp
          exact ⟨st, rr.new hp, .tup (.inl ⟨.inl upd_same, rr.out hp⟩) (.cons (.int _) (.cons (bv.mono st) .nil))⟩
    · cases e
end Mn

/-! MnSet: sorted(set(xs)), xs texts: sets of texts with their order. -/
namespace Mn
open PySem PySem.Spec PyProof.Rows L2
/-- the text of a set's entry -/
def keyS (e : Int × Value) : Str := match e.2 with
  | .str x _ => x
  | _ => Str.empty
/-- the set of the texts of L at a -/
structure SetS (P : Program) (w : World) (h : Heap) (a : Addr) (L : List Str) : Prop where
  ex : ∃ o es ep t, h.get? a = some o ∧ o.ExactSet ∧ o.data = .set es ep t ∧ ElemsOf (PySem.strKind P w) es.toList ∧ (es.toList.map keyS).Nodup ∧ (∀ k, k ∈ L ↔ k ∈ es.toList.map keyS) ∧
    es.size < scanBound ∧ es.size ≤ L.length ∧ t.fits es.size = true ∧ Ris t.place.toList ∧ (w.params.followText "set-order" = true ∨ t.led = true)
section
variable {P : Program} {w : World} {A : Around} {E : Value → Shared → Prop} {s : Shared} {a : Addr} {L : List Str}
theorem key_is {l : List (Int × Value)} (g : ElemsOf (PySem.strKind P w) l) {e : Int × Value} (he : e ∈ l) : ∃ t, e.2 = .str (keyS e) t := by
  obtain ⟨⟨k, h1, _⟩, _⟩ := g e he
  obtain ⟨t, h2⟩ := Value.isStrOf_shape (x := k) (v := e.2) h1
  refine ⟨t, ?_⟩
  unfold keyS
  rw [h2]
theorem key_iff {l : List (Int × Value)} (g : ElemsOf (PySem.strKind P w) l) {e : Int × Value} (he : e ∈ l) (k : Str) : (PySem.strKind P w).is k e.2 = true ↔ keyS e = k := by
  obtain ⟨t, h⟩ := key_is g he
  rw [h]
  constructor
  · intro q
    obtain ⟨t2, h2⟩ := Value.isStrOf_shape (x := k) (v := .str (keyS e) t) q
    injection h2
  · intro q
    rw [q]
    exact strKind_is P w k t
theorem SetS.at {h h' : Heap} (R : SetS P w h a L) (k : ∀ o, h.get? a = some o → h'.get? a = some o) : SetS P w h' a L := by
  obtain ⟨o, es, ep, t, ho, r⟩ := R.ex
  exact ⟨o, es, ep, t, k o ho, r⟩
/-- the entries are laid -/
theorem SetS.lay {h : Heap} {o : Obj} {es : Array (Int × Value)} {ep : Nat} {t : SetTable} (ho : h.get? a = some o) (hex : o.ExactSet) (hd : o.data = .set es ep t) (es2 : Array (Int × Value)) (t2 : SetTable)
    (g : ElemsOf (PySem.strKind P w) es2.toList) (nd : (es2.toList.map keyS).Nodup) (hm : ∀ k, k ∈ L ↔ k ∈ es2.toList.map keyS) (hb : es2.size < scanBound) (hl : es2.size ≤ L.length) (hf : t2.fits es2.size = true) (hr : Ris t2.place.toList)
    (hled : w.params.followText "set-order" = true ∨ t2.led = true) : SetS P w (h.update a (Obj.putSet es2 t2)) a L :=
  ⟨_, es2, _, t2, store_at ho hd, hex, rfl, g, nd, hm, hb, hl, hf, hr, hled⟩
theorem adds {k : Str} {tk : Tok} {Q : Bool → Shared → Prop} (R : SetS P w s.heap a L) (room : L.length + 1 < scanBound)
    (hQ : ∀ b h', Heap.SameBut a s.heap h' → SetS P w h' a (k :: L) → Q b { s with heap := h' }) : wpAny (model P w) A (setAddHashed a (.str k tk) ((PySem.strKind P w).hash k)) Q E s := by
  obtain ⟨o, es, ep, t, ho, hex, hd, g, nd, hm, hb, hL, hf, hr, hl⟩ := R.ex
  have hkey : (PySem.strKind P w).is k (.str k tk) = true := strKind_is P w k tk
  have hsc : (Value.str k tk).scannable = true := rfl
  unfold setAddHashed setAddHashedIn
  refine wpAny_holding (wpAny_bind (wpAny_setState_of ho hd hf ?_))
  dsimp only
  rw [byScan_of hsc hb g]
  simp only [↓reduceIte]
  unfold setAddByScan
  refine wpAny_bind ?_
  refine wpAny_bind (wpAny_rule ?_)
  refine wpAny_bind (wpAny_setScan_of hkey ho hd hf g ?_)
  cases hfi : List.findIdx? (fun e => (PySem.strKind P w).is k e.2) es.toList with
  | some j =>
    dsimp only
    obtain ⟨hj, pj, _⟩ := List.findIdx?_eq_some_iff_getElem.mp hfi
    have hk : k ∈ es.toList.map keyS := List.mem_map.mpr ⟨_, List.getElem_mem hj, (key_iff g (List.getElem_mem hj) k).1 pj⟩
    refine wpAny_pure (wpAny_pure (hQ _ s.heap (Heap.SameBut.refl a s.heap) ⟨o, es, ep, t, ho, hex, hd, g, nd, fun i => ?_, hb, Nat.le_succ_of_le hL, hf, hr, hl⟩))
    rw [List.mem_cons, hm i]
    exact ⟨fun z => z.elim (fun z => z ▸ hk) id, .inr⟩
  | none =>
    dsimp only
    have hnk : k ∉ es.toList.map keyS := fun z => by
      obtain ⟨e, he, q⟩ := List.mem_map.mp z
      have c := List.findIdx?_eq_none_iff.mp hfi e he
      rw [(key_iff g he k).2 q] at c
      cases c
    have hgw : ∀ (b : Bool) {s₁ : Shared} {Q' : Unit → Shared → Prop}, Q' () s₁ → wpAny (model P w) A (match b with | true => rule "set.scan.the-table-gave-way" | false => pure ()) Q' E s₁ :=
      fun b s₁ Q' q => by cases b <;> first | exact wpAny_pure q | exact wpAny_rule q
    have pm := layNew_perm t es ((PySem.strKind P w).hash k) (.str k tk)
    have hf1 := layNew_fits t es ((PySem.strKind P w).hash k) (.str k tk)
    have hr1 := layNew_ris t es ((PySem.strKind P w).hash k) (.str k tk) hr
    have hl1 := layNew_led t es ((PySem.strKind P w).hash k) (.str k tk)
    generalize layNew t es ((PySem.strKind P w).hash k) (.str k tk) = Z at pm hf1 hr1 hl1 ⊢
    obtain ⟨es1, t1, wasDummy, gave⟩ := Z
    dsimp only at pm hf1 hr1 hl1 ⊢
    rw [Array.toList_push] at pm
    have pc : es1.toList.Perm (((PySem.strKind P w).hash k, Value.str k tk) :: es.toList) := pm.trans (List.perm_append_singleton _ _)
    have pk : (es1.toList.map keyS).Perm (k :: es.toList.map keyS) := pc.map keyS
    have g1 : ElemsOf (PySem.strKind P w) es1.toList := fun e he => by
      rcases List.mem_cons.mp (pc.mem_iff.mp he) with z | z
      · rw [z]; exact ⟨⟨k, hkey, rfl⟩, hsc⟩
      · exact g e z
    have nd1 : (es1.toList.map keyS).Nodup := pk.nodup_iff.mpr (List.nodup_cons.mpr ⟨hnk, nd⟩)
    have m1 : ∀ i, i ∈ k :: L ↔ i ∈ es1.toList.map keyS := fun i => by rw [List.mem_cons, hm i, pk.mem_iff, List.mem_cons]
    have hsz : es1.size = es.size + 1 := by rw [← Array.length_toList, pc.length_eq, List.length_cons, Array.length_toList]
    have hb1 : es1.size < scanBound := by omega
    have hL1 : es1.size ≤ (k :: L).length := by rw [List.length_cons]; omega
    have lay : ∀ {t2 : SetTable}, t2.fits es1.size = true → Ris t2.place.toList → (w.params.followText "set-order" = true ∨ t2.led = true) → ∀ {R : Option Bool → Shared → Prop} {gg : Bool → PySem.Sem Unit},
        (∀ (b : Bool) (s₁ : Shared) (Q' : Unit → Shared → Prop), Q' () s₁ → wpAny (model P w) A (gg b) Q' E s₁) → (∀ h', Heap.SameBut a s.heap h' → SetS P w h' a (k :: L) → R (some true) { s with heap := h' }) →
        wpAny (model P w) A (do
          storeSet a es1 t2
          if (!wasDummy && t2.tooFull) = true then do
            gg (relayAll t2 es1 (SetTable.grown es1.size)).2.2
            storeSet a (relayAll t2 es1 (SetTable.grown es1.size)).1 (relayAll t2 es1 (SetTable.grown es1.size)).2.1
            pure (some true)
          else pure (some true)) R E s := by
      intro t2 f2 r2 l2 R gg hg hR
      refine wpAny_bind (wpAny_storeSet_of ho hd ?_ (fits_of_scanBound hb1))
      have sb1 := Heap.SameBut.update s.heap a (Obj.putSet es1 t2)
      have ho1 := store_at (es' := es1) (t' := t2) ho hd
      by_cases hfull : (!wasDummy && t2.tooFull) = true
      · rw [if_pos hfull]
        have pm2 := relayAll_perm t2 es1 (SetTable.grown es1.size)
        have f3 := relayAll_fits t2 es1 (SetTable.grown es1.size)
        have r3 := relayAll_ris t2 es1 (SetTable.grown es1.size)
        have l3 := relayAll_led t2 es1 (SetTable.grown es1.size)
        generalize relayAll t2 es1 (SetTable.grown es1.size) = Y at pm2 f3 r3 l3 ⊢
        obtain ⟨es2, t3, gv⟩ := Y
        dsimp only at pm2 f3 r3 l3 ⊢
        have z2 : es2.size = es1.size := by rw [← Array.length_toList, pm2.length_eq, Array.length_toList]
        have b2 : es2.size < scanBound := by rw [z2]; exact hb1
        refine wpAny_bind (hg _ _ _ (wpAny_bind (wpAny_storeSet_of ho1 rfl (wpAny_pure (hR _ (sb1.trans (Heap.SameBut.update _ a _)) ?_)) (fits_of_scanBound b2))))
        exact SetS.lay ho1 hex rfl es2 t3 (fun e he => g1 e (pm2.mem_iff.mp he)) ((pm2.map keyS).nodup_iff.mpr nd1) (fun i => (m1 i).trans (pm2.map keyS).mem_iff.symm) b2 (by rw [z2]; exact hL1) f3 r3 (l2.imp id fun z => by rw [l3]; exact z)
      · rw [if_neg hfull]
        exact wpAny_pure (hR _ sb1 (SetS.lay ho hex hd es1 t2 g1 nd1 m1 hb1 hL1 f2 r2 l2))
    have hled : w.params.followText "set-order" = true ∨ t1.led = true := hl.imp id fun z => by rw [hl1]; exact z
    refine wpAny_bind (hgw _ ?_)
    split
    · refine wpAny_bind ?_
      rw [hashByValue_scannable 8 hsc]
      refine wpAny_pure ?_
      refine lay ?_ ?_ ?_ ?_ ?_
      · first | (split <;> first | exact hf1 | exact SetTable.fits_plain_off hf1) | exact hf1
      · first | (split <;> exact hr1) | exact hr1
      · first | (split <;> exact hled) | exact hled
      · intro b s₁ Q' q; cases b <;> first | exact wpAny_pure q | exact wpAny_rule q
      · intro h' sb r; dsimp only; exact wpAny_pure (hQ _ h' sb r)
    · refine wpAny_bind (wpAny_pure ?_)
      simp only [↓reduceIte]
      refine lay hf1 hr1 hled ?_ ?_
      · intro b s₁ Q' q; cases b <;> first | exact wpAny_pure q | exact wpAny_rule q
      · intro h' sb r; dsimp only; exact wpAny_pure (hQ _ h' sb r)
/-- set.update's loop over texts -/
theorem update_texts {I : Addr} {fp wr : List Addr} {G : Array GenState → Array GenState → Prop} {n : Nat} {Pv : Nat → Value → Prop} {St : Nat → Shared → Prop} {R : Result → Shared → Prop}
    (W : WalksS P w A.in1 I fp wr G n Pv St) (S : Addr) (hSf : S ∉ fp) (xs : List Str) (hn : n = xs.length) (hb : xs.length + 1 < scanBound) (hval : ∀ i v, Pv i v → ∃ k t, xs[i]? = some k ∧ v = .str k t) :
    ∀ (k i : Nat) (s : Shared), n - i = k → i ≤ n → St i s → SetS P w s.heap S (xs.take i).reverse →
      (∀ s', Moved (S :: wr) G s s' → SetS P w s'.heap S xs.reverse → R (.ok (.ret .none)) s') → codeAny (model P w) A (.builtin "set.update.loop" ⟨[.ref S, .ref I], []⟩) R s := by
  have hSw : S ∉ wr := fun h => hSf (W.sub _ h)
  intro k
  induction k with
  | zero =>
    intro i s hk' hi hst hS hR
    have hin : i = n := by omega
    subst hin
    refine codeAny_builtin F.entry_set_update_loop ?_
    rw [Around.under_plainId F.plain_set_update_loop _]
    show wpAny _ A.in1 (pyNext (.ref I) >>= _) _ _ s
    refine wpAny_bind (W.done s _ _ hst fun s' hm => ?_)
    show wpAny _ A.in1 (ret Value.none) _ _ s'
    rw [List.take_of_length_le (by omega)] at hS
    exact wpAny_pure (hR s' (hm.mono fun b hb => List.mem_cons_of_mem _ hb) (hS.at fun o e => hm.heap S o hSw e))
  | succ k ih =>
    intro i s hk' hi hst hS hR
    have hlt : i < n := by omega
    refine codeAny_builtin F.entry_set_update_loop ?_
    rw [Around.under_plainId F.plain_set_update_loop _]
    show wpAny _ A.in1 (pyNext (.ref I) >>= _) _ _ s
    refine wpAny_bind (W.item i s _ _ hlt hst fun v s' hP hst' hm => ?_)
    obtain ⟨z, t, hz, rfl⟩ := hval i v hP
    show wpAny _ A.in1 (holding [Value.str z t] (setAdd S (.str z t)) >>= _) _ _ s'
    refine wpAny_bind (wpAny_holding ?_)
    unfold setAdd
    refine wpAny_holding (wpAny_bind ((PySem.strKind P w).pyHash (k := z) (strKind_is _ _ _ _) ?_))
    refine adds (s := { s' with toks := s'.toks + 1 }) (L := (xs.take i).reverse) (hS.at fun o e => hm.heap S o hSw e) (by rw [List.length_reverse, List.length_take]; omega) fun b h' hsb hS2 => ?_
    have hS3 : SetS P w h' S (xs.take (i + 1)).reverse := by
      rw [List.take_add_one, hz, Option.toList_some, List.reverse_append]
      exact hS2
    refine wpAny_pure ⟨plainId_quiet F.plain_set_update_loop _, ih (i + 1) _ (by omega) hlt (W.frame _ s' _ _ hst' (Nat.le_succ _) fun b hb o e => ?_) hS3 fun s'' hm'' hS'' => ?_⟩
    · rw [hsb.2 b (fun h : b = S => hSf (by rw [← h]; exact hb))]; exact e
    · refine hR s'' (Moved.trans W.gtrans ((hm.mono fun b hb => List.mem_cons_of_mem _ hb).then_heap (Nat.le_succ _) fun b o hb e => ?_) hm'') hS''
      rw [hsb.2 b (fun h : b = S => hb (by rw [h]; exact List.mem_cons_self))]; exact e
theorem fresh_texts {h : Heap} (ho : h.get? a = some { cls := .type "set", dict := none, data := .set #[] 0 (.fresh 0 0 (!w.params.followText "set-order")) }) : SetS P w h a [] :=
  ⟨_, #[], 0, _, ho, ⟨rfl, rfl, rfl⟩, rfl, (fun e he => by simp at he), (by simp), (fun k => by simp), (by decide), (by simp), (by rfl), List.Pairwise.nil, by
    show _ ∨ (!w.params.followText "set-order") = true
    cases w.params.followText "set-order" <;> simp⟩
set_option maxHeartbeats 3200000 in
/-- set(l), l a list of texts -/
theorem call_setTexts {l : Addr} {items : Array Value} {xs : List Str} {Q : Value → Shared → Prop} (hh : A.handled = none) (hl : s.heap.IsList l items) (hit : StrsAre items.toList xs) (hb : xs.length + 1 < scanBound)
    (h : ∀ (h' : Heap) (tk : Nat), SetS P w h' s.heap.objs.size xs.reverse → (∀ b o, s.heap.get? b = some o → h'.get? b = some o) → Q (.ref s.heap.objs.size) { s with heap := h', toks := tk }) :
    wpAny (model P w) A (call (.type "set") [.ref l]) Q E s := by
  have hisz : items.size = xs.length := by
    have q := StrsAre.length hit
    rw [Array.length_toList] at q
    exact q
  obtain ⟨c, tl, hmro⟩ := F.called_set.mro
  have hmade := F.called_set.made
  have hsub := F.called_set.sub
  refine wpAny_call (codeAny_of_tree ?_)
  show wpAny _ _ (callAny (.type "set") _) _ _ _
  refine wpAny_pure ⟨Code.quiet_builtin _ (by decide +kernel), codeAny_builtin F.entry_type_call ?_⟩
  rw [Around.under_plain (weight_type_call_type "set" [.ref l] []) rfl]
  have h1 := F.called_set.notType
  have h2 := F.called_set.canCreate
  have hct := F.typeCall_set_1 (.ref l)
  repeat (any_goals (first | assumption | wp_step))
  let ob : Obj := { cls := .type "set", dict := none, data := .set #[] 0 (.fresh 0 0 (!w.params.followText "set-order")) }
  refine codeAny_mono (code_set_led1 (.ref l) (E := E) (Q₁ := fun obj s₁ => obj = .ref s.heap.objs.size ∧ s₁ = { s with heap := s.heap.push { cls := .type "set", dict := none, data := .set #[] 0 (.fresh 0 0 (!w.params.followText "set-order")) } }) ⟨rfl, rfl⟩) fun r s₁ hr => ?_
  cases r with
  | error e => exact hr
  | ok fl =>
    cases fl with
    | ret obj =>
      obtain ⟨rfl, rfl⟩ := hr
      have hS : (s.heap.push ob).get? s.heap.objs.size = some ob := Heap.get?_push_size _ rfl
      have hT : Shared.TypeIs { s with heap := s.heap.push ob } (.ref s.heap.objs.size) "set" := ⟨_, hS, rfl⟩
      have hli := F.called_set.init.lookup
      have hbi := F.called_set.init.bind (.ref s.heap.objs.size)
      repeat (any_goals (first | assumption | wp_step))
      refine codeAny_mono (codeAny_call_builtin (R := wants (fun r s₂ => r = .none ∧ ∃ h' tk, s₂ = { s with heap := h', toks := tk } ∧ SetS P w h' s.heap.objs.size xs.reverse ∧ (∀ b o, s.heap.get? b = some o → h'.get? b = some o)) E)
        F.called_set.init.plain F.entry_set_init (check_set_init_1 hT ?_)) fun r₂ s₂ hr₂ => ?_
      · obtain ⟨⟨ocls, odict, odata, oslots⟩, hol, hcl, nl, hdl⟩ := hl
        simp only at hcl hdl
        subst hcl; subst hdl
        have hol' : (s.heap.push ob).get? l = some { cls := .type "list", dict := odict, data := .seq items nl, slots := oslots } := Heap.get?_push_of_some _ hol
        have hsls := F.sub_list_set
        have hslf := F.sub_list_frozenset
        have hne : (Value.type "list" == Value.type "dict") = false := by decide
        have hl1 : (s.heap.push ob).IsList l items := ⟨_, hol', rfl, nl, rfl⟩
        unfold Builtin.«set.__init__» noKeywords Builtin.Frozenset.updateFrom
        generalize hPI : pyIter = PI
        wp_walk
        subst hPI
        refine wpAny_pyIter_list hl1 ?_
        refine wpAny_bind (wpAny_runValue ?_)
        have hlS : l < s.heap.objs.size := Heap.lt_size hol
        have hz1 : (s.heap.push ob).objs.size = s.heap.objs.size + 1 := Heap.size_push ..
        refine update_texts ((Walks.list (show A.in1.in1.in1.handled = none by simp [hh]) _ l (by rw [hz1]; exact Nat.ne_of_lt (Nat.lt_succ_of_lt hlS)) items).toS) s.heap.objs.size
          (by rw [hz1]; simp only [List.mem_cons, List.not_mem_nil, or_false, not_or]; exact ⟨Nat.ne_of_lt (Nat.lt_succ_self _), Nat.ne_of_gt hlS⟩)
          xs hisz hb (fun i v hv => ?_) (items.size - 0) 0 _ (by omega) (Nat.zero_le _) ⟨⟨_, Heap.get?_push_size _ rfl, rfl, rfl⟩, (hl1.push _)⟩ (fresh_texts (Heap.get?_push_of_some _ hS)) fun s' hm hS' => ?_
        · have hi : i < xs.length := by rw [← hisz]; exact (Array.getElem?_eq_some_iff.mp hv).1
          obtain ⟨t, e⟩ := SS.strs_at hit i v (by rw [Array.getElem?_toList]; exact hv)
          exact ⟨xs[i], t, List.getElem?_eq_getElem hi, by rw [e, List.getD_eq_getElem?_getD, List.getElem?_eq_getElem hi]; rfl⟩
        · obtain ⟨h', g2, d', tk', os'⟩ := s'
          obtain rfl : g2 = s.gens := hm.gens
          obtain rfl : d' = s.drawn := hm.drawn
          obtain rfl : os' = s.os := hm.os
          show wpAny _ _ _ _ _ _
          refine wpAny_pure ?_
          show wpAny _ _ (ret Value.none) _ _ _
          refine wpAny_pure ⟨rfl, h', tk', rfl, hS', fun b o e => ?_⟩
          have hb0 : b < s.heap.objs.size := Heap.lt_size e
          exact hm.heap b o (by rw [hz1]; simp only [List.mem_cons, List.not_mem_nil, or_false, not_or]; exact ⟨Nat.ne_of_lt hb0, Nat.ne_of_lt (Nat.lt_succ_of_lt hb0)⟩) (Heap.get?_push_of_some _ (Heap.get?_push_of_some _ e))
      · cases r₂ with
        | error e => exact hr₂
        | ok fl₂ =>
          cases fl₂ with
          | ret r =>
            obtain ⟨rfl, h', tk, rfl, hS', hk'⟩ := hr₂
            repeat (any_goals (first | assumption | wp_step))
            exact h _ _ hS' hk'
          | _ => exact hr₂.elim
    | _ => exact hr.elim
end
end Mn

/-! MnSort: sorted of a set of texts, told by a function. -/
namespace Mn
open PySem PySem.Spec PyProof.Rows L2
def ltS (x y : Str) : Prop := x.cps.toList < y.cps.toList
instance (x y : Str) : Decidable (ltS x y) := inferInstanceAs (Decidable (x.cps.toList < y.cps.toList))
def insU (x : Str) : List Str → List Str
  | [] => [x]
  | y :: r => if ltS x y then x :: y :: r else if x = y then y :: r else y :: insU x r
/-- the texts, each once, rising -/
def sortU : List Str → List Str
  | [] => []
  | x :: r => insU x (sortU r)
theorem ext_cps {x y : Str} (h : x.cps.toList = y.cps.toList) : x = y := by
  obtain ⟨a⟩ := x
  obtain ⟨b⟩ := y
  have e : a = b := Array.toList_inj.mp h
  rw [e]
theorem ltS_of {x y : Str} (h : ¬ ltS x y) (hn : x ≠ y) : ltS y x := by
  rcases List.le_total x.cps.toList y.cps.toList with h1 | h1
  · exact absurd (Classical.byContradiction fun h2 => hn (ext_cps (List.le_antisymm h1 (List.not_lt.mp h2)))) h
  · exact Classical.byContradiction fun h2 => hn (ext_cps (List.le_antisymm (List.not_lt.mp h2) h1))
theorem insU_mem {x : Str} : ∀ {l : List Str} {k : Str}, k ∈ insU x l ↔ k = x ∨ k ∈ l
  | [], k => by simp [insU]
  | y :: r, k => by
    unfold insU
    split
    · simp
    · split
      · rename_i h
        subst h
        simp
      · rw [List.mem_cons, insU_mem (l := r), List.mem_cons]
        exact ⟨fun h => h.elim (fun h => .inr (.inl h)) fun h => h.elim .inl fun h => .inr (.inr h), fun h => h.elim (fun h => .inr (.inl h)) fun h => h.elim .inl fun h => .inr (.inr h)⟩
theorem insU_lt {x : Str} : ∀ {l : List Str}, l.Pairwise ltS → (insU x l).Pairwise ltS
  | [], _ => List.pairwise_singleton _ _
  | y :: r, h => by
    obtain ⟨h1, h2⟩ := List.pairwise_cons.mp h
    unfold insU
    split
    · rename_i hxy
      refine List.pairwise_cons.mpr ⟨fun z hz => ?_, h⟩
      rcases List.mem_cons.mp hz with e | hz
      · rw [e]; exact hxy
      · exact List.lt_trans hxy (h1 z hz)
    · split
      · exact h
      · rename_i h3 h4
        refine List.pairwise_cons.mpr ⟨fun z hz => ?_, insU_lt h2⟩
        rcases insU_mem.mp hz with e | hz
        · rw [e]; exact ltS_of h3 h4
        · exact h1 z hz
theorem sortU_mem : ∀ {l : List Str} {k : Str}, k ∈ sortU l ↔ k ∈ l
  | [], k => by simp [sortU]
  | y :: r, k => by unfold sortU; rw [insU_mem, sortU_mem, List.mem_cons]
theorem sortU_lt : ∀ {l : List Str}, (sortU l).Pairwise ltS
  | [] => List.Pairwise.nil
  | y :: r => by unfold sortU; exact insU_lt sortU_lt
theorem lt_uniq : ∀ {l m : List Str}, l.Pairwise ltS → m.Pairwise ltS → (∀ k, k ∈ l ↔ k ∈ m) → l = m
  | [], [], _, _, _ => rfl
  | [], y :: m, _, _, h => absurd ((h y).2 (List.mem_cons_self ..)) (by simp)
  | x :: l, [], _, _, h => absurd ((h x).1 (List.mem_cons_self ..)) (by simp)
  | x :: l, y :: m, hl, hm, h => by
    obtain ⟨l1, l2⟩ := List.pairwise_cons.mp hl
    obtain ⟨m1, m2⟩ := List.pairwise_cons.mp hm
    have irr : ∀ z : Str, ¬ ltS z z := fun z q => List.lt_irrefl _ q
    have e : x = y := by
      rcases List.mem_cons.mp ((h x).1 (List.mem_cons_self ..)) with e | hx
      · exact e
      · rcases List.mem_cons.mp ((h y).2 (List.mem_cons_self ..)) with e | hy
        · exact e.symm
        · exact absurd (List.lt_trans (m1 x hx) (l1 y hy)) (irr y)
    subst e
    rw [lt_uniq l2 m2 fun k => ?_]
    constructor
    · intro hk
      rcases List.mem_cons.mp ((h k).1 (List.mem_cons_of_mem _ hk)) with e | hm
      · rw [e] at hk; exact absurd (l1 x hk) (irr x)
      · exact hm
    · intro hk
      rcases List.mem_cons.mp ((h k).2 (List.mem_cons_of_mem _ hk)) with e | hm
      · rw [e] at hk; exact absurd (m1 x hk) (irr x)
      · exact hm
theorem rising_lt : ∀ {l : List Str} {p : Str}, risingS p l = true → (p :: l).Nodup → (p :: l).Pairwise ltS
  | [], p, _, _ => List.pairwise_singleton _ _
  | x :: r, p, h, nd => by
    unfold risingS at h
    obtain ⟨n1, n2⟩ := List.nodup_cons.mp nd
    have hx : ¬ ltS x p ∧ risingS x r = true := by
      cases hc : ltCps x.cps.toList p.cps.toList with
      | true => rw [hc] at h; simp at h
      | false =>
        rw [hc] at h
        refine ⟨fun z => ?_, by simpa using h⟩
        have z2 : ltCps x.cps.toList p.cps.toList = true := by
          have z3 : x.cps.toList < p.cps.toList := z
          rw [ltCps_eq]
          exact decide_eq_true z3
        rw [hc] at z2
        cases z2
    have ih := rising_lt hx.2 n2
    refine List.pairwise_cons.mpr ⟨fun z hz => ?_, ih⟩
    have hpx : ltS p x := ltS_of hx.1 fun e => n1 (e ▸ List.mem_cons_self ..)
    rcases List.mem_cons.mp hz with e | hz
    · rw [e]; exact hpx
    · exact List.lt_trans hpx ((List.pairwise_cons.mp ih).1 z hz)
theorem sorted_lt {l : List Str} (h : sortedS l = true) (nd : l.Nodup) : l.Pairwise ltS := by
  cases l with
  | nil => exact List.Pairwise.nil
  | cons x r => exact rising_lt h nd

section
variable {P : Program} {w : World} {A : Around} {E : Value → Shared → Prop} {s : Shared} {a : Addr} {L : List Str}
theorem sorted_texts {Q : Value → Shared → Prop} (R : SetS P w s.heap a L) (hh : A.handled = none) (h64 : L.length < 64)
    (hQ : ∀ s' p (out : Array Value) (c : Nat), (∀ b o, s.heap.get? b = some o → s'.heap.get? b = some o) → s'.gens = s.gens → s'.os = s.os → s.heap.objs.size ≤ p →
      s'.heap.get? p = some (seqObj "list" out c) → StrsAre out.toList (sortU L) → Q (.ref p) s') : wpAny (model P w) A (call (.builtin "sorted") [.ref a]) Q E s := by
  obtain ⟨o, es, ep, t, ho, hex, hd, g, nd, hm, hb, hL, hf, hr, hl⟩ := R.ex
  refine Calls.call_function_entry kind_sorted plain_sorted entry_sorted (args_sorted1 _) ?_
  unfold Builtin.«sorted»
  refine wpAny_bind (m := checkCount "sorted" 1 1 _) (wpAny_pure ?_)
  refine wpAny_bind (collect_set (A := A.in1) hh ⟨o, ho, hex.1, hd⟩ hf hb hr hl fun s1 vs k1 hz g1 o1 pm => ?_)
  have hvl : vs.length ≤ L.length := by rw [pm.length_eq, List.length_map, Array.length_toList]; exact hL
  have texts : ∀ l : List (Int × Value), (∀ e ∈ l, e ∈ es.toList) → StrsAre (l.map (·.2)) (l.map keyS) := fun l => by
    induction l with
    | nil => exact fun _ => .nil
    | cons e l ih =>
      intro h
      obtain ⟨t, ht⟩ := key_is g (h e (List.mem_cons_self ..))
      have q := ih fun e he => h e (List.mem_cons_of_mem _ he)
      rw [List.map_cons, List.map_cons, ht]
      exact .cons _ t q
  obtain ⟨zs, hz1, hz2⟩ : ∃ zs, StrsAre vs zs ∧ zs.Perm (es.toList.map keyS) := by
    let f : Value → Str := fun v => match v with
      | .str x _ => x
      | _ => Str.empty
    have hf : ∀ {us : List Value} {ks : List Str}, StrsAre us ks → us.map f = ks := fun h => by
      induction h with
      | nil => rfl
      | cons k t h ih => rw [List.map_cons, ih]
    have all := texts es.toList fun _ h => h
    refine ⟨vs.map f, ?_, ?_⟩
    · have mem : ∀ v ∈ vs, ∃ x t, v = .str x t := fun v hv => by
        obtain ⟨e, he, q⟩ := List.mem_map.mp (pm.mem_iff.mp hv)
        obtain ⟨t, ht⟩ := key_is g he
        exact ⟨_, t, by rw [← q]; exact ht⟩
      clear pm hvl
      induction vs with
      | nil => exact .nil
      | cons v vs ih =>
        obtain ⟨x, t, rfl⟩ := mem v (List.mem_cons_self ..)
        exact .cons x t (ih fun u hu => mem u (List.mem_cons_of_mem _ hu))
    · rw [← hf all]
      exact pm.map f
  have h64' : vs.length < 64 := Nat.lt_of_le_of_lt hvl h64
  refine wpAny_bind (wpAny_newList ?_ (by rw [sizeLine_eq]; omega))
  have hoL : (s1.heap.push (seqObj "list" vs.toArray 0)).get? s1.heap.objs.size = some (seqObj "list" vs.toArray 0) := Heap.get?_push_size _ rfl
  refine wpAny_bind (wpAny_holding (wpAny_call_entry slot_list_sort ⟨_, hoL, rfl⟩ entry_list_sort (list_sort_treeK PyProof.Rows.strKind_oneLt (s := { s1 with heap := s1.heap.push (seqObj "list" vs.toArray 0) }) hoL hz1.keysOf (fun v₁ v₂ rest e => keyKind_strs (by rw [← e]; exact hz1)) h64' fun st' hp hs => ⟨_, rfl, ?_⟩) (args_list_sort _)))
  obtain ⟨ys, q1, q2, q3⟩ := sorted_out_str hz1 hp hs
  obtain ⟨c, hc⟩ := sortedHeap_at (vs := vs) (out := (arrOf st').map (·.2)) hoL
  have ey : ys = sortU L := lt_uniq (sorted_lt q3 (q2.nodup_iff.mpr (hz2.nodup_iff.mpr nd))) sortU_lt fun k => by rw [q2.mem_iff, hz2.mem_iff, ← hm k, sortU_mem]
  rw [ey] at q1
  refine wpAny_pure ⟨_, rfl, hQ _ s1.heap.objs.size _ c (fun b u e => ?_) g1 o1 hz hc q1⟩
  have q := k1 b u e
  have hlt := Heap.lt_size q
  show (sortedHeap (s1.heap.push (seqObj "list" vs.toArray 0)) s1.heap.objs.size vs ((arrOf st').map (·.2))).get? b = some u
  rw [sortedHeap_old (Nat.ne_of_lt hlt) (by rw [size_push']; exact Nat.lt_succ_of_lt hlt)]
  exact Heap.get?_push_of_some _ q
end
end Mn

/-! MnMore: written dicts, the script, repr, sorted sets, dict cells, what is never evaluated. -/
namespace Mn
open PySem PySem.Spec PyProof.Rows L2

/-! ### never -/
def eNever : Sem := fun _ _ => none
theorem pe_no {X : Cx} {e : Expr} : PE X e (fun _ _ _ => False) := ⟨fun pins s σ H Q I h => h.elim⟩
theorem pm_never [Lams] {X : Cx} {e : Expr} : PM X e eNever := imp pe_no fun σ H Q ⟨ρ, L, S, x, S', rl, r, e, k⟩ => by cases e
theorem pmt_never [Lams] {X : Cx} {e : Expr} : PMT X e eNever := impT (t := fun _ _ _ => False) ⟨fun pins s σ H Q I h => h.elim⟩ fun σ H Q ⟨ρ, L, S, x, S', rl, r, e, k⟩ => by cases e

/-! ### written dicts -/
structure KTab [Lams] (K : PySem.W.Frag) (w : World) (d : Addr) (tbl : List (Str × T)) : Prop where
  kd : ∃ es n, KDict K w d es n
  yes : ∀ z t, tbl.lookup z = some t → ∃ u v, PySem.W.nsIn K d z = some (some u) ∧ RelV v u ∧ ∀ ρ H, Br K ρ H v t
  no : ∀ z, tbl.lookup z = none → PySem.W.nsIn K d z = some none
def eInK (tbl : List (Str × T)) (c : Bool) (a : Sem) : Sem := fun L S => match a L S with
  | some (.d (.str z), S1) => some (.d (.bool (if (tbl.lookup z).isSome = true then c else !c)), S1)
  | _ => none
def eIxK (tbl : List (Str × T)) (a : Sem) : Sem := fun L S => match a L S with
  | some (.d (.str z), S1) => (match tbl.lookup z with
    | some t => some (.d t, S1)
    | none => none)
  | _ => none
section
variable {X : Cx} {p pos : Pos} {x : Str} {a : Expr} {ma : Sem} {d : Addr} {tbl : List (Str × T)}
theorem pm_notInK [Lams] (D : KTab X.K X.w d tbl) (hg : Gl X x) (hm : X.mg x = some (.ref d)) (ha : PM X a ma) (hmk : behindInMarks .NotIn (.Name x p) = false := by first | exact nomark _ | rfl) (hd : (x == ("__debug__" : Str)) = false := by kernel_rfl) :
    PM X (.Compare a [.NotIn] [.Name x p] pos) (eInK tbl false ma) := by
  obtain ⟨es, n, kd⟩ := D.kd
  refine imp (pe_cmpR (op_notIn_kd kd) ha (pe_glob (v := .ref d) hg hm rfl hd) hmk) fun σ H Q ⟨ρ, L, S, y, S', rl, r, e, k⟩ => ?_
  unfold eInK at e
  split at e
  · rename_i z S1 h1
    cases e
    refine ⟨ρ, L, S, _, _, rl, r, h1, fun ρ1 H1 v s1 r1 b1 => ?_⟩
    obtain ⟨rfl, _⟩ := (Dv.t b1 : Dv X.K ρ1 H1 v (.str z)).str
    show ∃ (z2 : Str) (r2 : Option Value), V.str z = .str z2 ∧ V.ref d = .ref d ∧ PySem.W.nsIn X.K d z2 = some r2 ∧ Q (.bl (!r2.isSome)) H1
    cases hl : tbl.lookup z with
    | none =>
      rw [hl] at k
      exact ⟨z, none, rfl, rfl, D.no z hl, k ρ1 H1 _ s1 r1 (.bl _)⟩
    | some t =>
      rw [hl] at k
      obtain ⟨u, v, h2, _⟩ := D.yes z t hl
      exact ⟨z, some u, rfl, rfl, h2, k ρ1 H1 _ s1 r1 (.bl _)⟩
  · cases e
theorem pm_ixK [Lams] (D : KTab X.K X.w d tbl) (hg : Gl X x) (hm : X.mg x = some (.ref d)) (ha : PM X a ma) (hs : PlainIx a := by intro _ _; kernel_rfl) (hd : (x == ("__debug__" : Str)) = false := by kernel_rfl) : PM X (.Subscript (.Name x p) a pos) (eIxK tbl ma) := by
  obtain ⟨es, n, kd⟩ := D.kd
  refine imp (pe_ix ix_kdict (pe_glob (v := .ref d) hg hm rfl hd) ha hs) fun σ H Q ⟨ρ, L, S, y, S', rl, r, e, k⟩ => ?_
  unfold eIxK at e
  split at e
  · rename_i z S1 h1
    split at e
    · rename_i t hl
      cases e
      refine ⟨ρ, L, S, _, _, rl, r, h1, fun ρ1 H1 v s1 r1 b1 => ?_⟩
      obtain ⟨rfl, _⟩ := (Dv.t b1 : Dv X.K ρ1 H1 v (.str z)).str
      obtain ⟨u, v, h2, h3, h4⟩ := D.yes z t hl
      exact ⟨d, z, v, rfl, rfl, ⟨es, n, u, kd.at_, kd.lit, h2, h3⟩, k ρ1 H1 _ s1 r1 (h4 _ _)⟩
    · cases e
  · cases e
end

/-! ### the script -/
def eLenS (a : Sem) : Sem := fun L S => match a L S with
  | some (.s ns, S1) => some (.d (.int (ns.length : Nat)), S1)
  | _ => none
def eIxS (a b : Sem) : Sem := fun L S => match a L S with
  | some (.s ns, S1) => (match b L S1 with
    | some (.d (.int i), S2) => (match L2.atI ns i with
      | some n => some (.d (.int n), S2)
      | none => none)
    | _ => none)
  | _ => none
theorem atI_map {α β : Type} (f : α → β) (xs : List α) (i : Int) : L2.atI (xs.map f) i = (L2.atI xs i).map f := by
  unfold L2.atI
  rw [List.length_map]
  cases ixN xs.length i with
  | none => rfl
  | some j => simp
theorem VB.sq [Lams] {K : PySem.W.Frag} {ρ : List Addr} {H : Hp} {v : V} {ns : List Int} (b : VB K ρ H v (.s ns)) : ∃ a, v = .ref a ∧ SqL K H a (ns.map V.int) := by
  obtain ⟨a, e, q⟩ := b
  exact ⟨a, e, q.elim (fun q => .inl q.1) fun q => q H⟩
section
variable {X : Cx} {p pos : Pos} {a b : Expr} {ma mb : Sem}
theorem pm_lenS [Lams] (hg : Gl X "len") (hm : X.mg "len" = none) (ha : PM X a ma) (hs : starEach [a] X.env = (false, eval a X.env) :: starEach [] X.env := by kernel_rfl) (hpl : (backTo pos (starEach [] X.env)).any (·.1) = false := by kernel_rfl) :
    PM X (.Call (.Name "len" p) [a] [] pos) (eLenS ma) := imp (pe_callB call_len hg hm (by decide +kernel) (pa_cons ha pa_nil hs) (by decide) (by decide) hs hpl) fun σ H Q ⟨ρ, L, S, y, S', rl, r, e, k⟩ => by
  unfold eLenS at e
  split at e
  · rename_i ns S1 h1
    cases e
    refine ⟨ρ, L, S, _, _, rl, r, h1, fun ρ1 H1 v s1 r1 b1 => ?_⟩
    obtain ⟨q, rfl, h2⟩ := b1.sq
    exact ⟨_, _, rfl, .inl ⟨_, h2, by rw [List.length_map]⟩, k ρ1 H1 _ s1 r1 (.int _)⟩
  · cases e
theorem pm_ixS [Lams] (ha : PM X a ma) (hb : PM X b mb) (hs : PlainIx b := by intro _ _; kernel_rfl) : PM X (.Subscript a b pos) (eIxS ma mb) := imp (pe_ix ix_seq ha hb hs) fun σ H Q ⟨ρ, L, S, y, S', rl, r, e, k⟩ => by
  unfold eIxS at e
  split at e
  · rename_i ns S1 h1
    split at e
    · rename_i i S2 h2
      split at e
      · rename_i n h3
        cases e
        refine ⟨ρ, L, S, _, _, rl, r, h1, fun ρ1 H1 v s1 r1 b1 => ⟨ρ1, L, S1, _, _, rl.mono s1, r1, h2, fun ρ2 H2 w s2 r2 b2 => ?_⟩⟩
        obtain ⟨q, rfl, h4⟩ := (b1.mono s2).sq
        rw [(Dv.t b2 : Dv X.K ρ2 H2 w (.int i)).int]
        exact .inl ⟨q, _, i, .int n, rfl, rfl, h4, by rw [atI_map, h3]; rfl, k ρ2 H2 _ (s1.trans s2) r2 (.int _)⟩
      · cases e
    · cases e
  · cases e
end

/-! ### repr of lists and tuples, compared -/
def seqT : T → Bool
  | .list _ => true
  | .tuple _ => true
  | _ => false
def eRepr (a : Sem) : Sem := fun L S => match a L S with
  | some (x, S1) => (match deref S1 x with
    | some t => if seqT t = true ∧ t.showable = true ∧ t.depth ≤ 190 ∧ t.shown.length ≤ 100000 then some (.t t.shown, S1) else none
    | none => none)
  | none => none
def eEqT (c : Bool) (a b : Sem) : Sem := fun L S => match a L S with
  | some (.t x, S1) => (match b L S1 with
    | some (.t y, S2) => some (.d (.bool (if x = y then c else !c)), S2)
    | _ => none)
  | _ => none
theorem c_repr {X : Cx} (hgd : X.A.guards = some []) (hu : X.A.units + 192 < cLine) : CallR X (.builtin "repr") (fun xs H Q => ∃ a d, xs = [.ref a] ∧ Dp X.K H (.ref a) d ∧ d.canLay0 = true ∧ d.showable = true ∧ d.depth ≤ 190 ∧ d.shown.length ≤ 100000 ∧ Q (.str d.shown) H) := by
  intro pins s σ H xs us Q I r h
  obtain ⟨a, d, rfl, hd, hl, hs, hz, hn, q⟩ := h
  obtain ⟨u, rfl, ru⟩ := vals1 r
  cases ru
  obtain ⟨as, rd⟩ := Dp.reads I d _ _ hd rfl
  exact repr_of_reads' rd hs (PyData.noDict_hsm (PyData.hasDict_of_canLay d hl)) hgd (by omega) (fun b o e => e) (fun h' u tk hk => ⟨.str d.shown, H, I.kept hk, ⟨_, rfl⟩, q⟩) (line_of hn)
section
variable {X : Cx} {p pos : Pos} {a b : Expr} {ma mb : Sem}
theorem pm_repr [Lams] (hgd : X.A.guards = some []) (hu : X.A.units + 192 < cLine) (hg : Gl X "repr") (hm : X.mg "repr" = none) (ha : PM X a ma) (hs : starEach [a] X.env = (false, eval a X.env) :: starEach [] X.env := by kernel_rfl) (hpl : (backTo pos (starEach [] X.env)).any (·.1) = false := by kernel_rfl) :
    PM X (.Call (.Name "repr" p) [a] [] pos) (eRepr ma) := imp (pe_callB (c_repr hgd hu) hg hm (by decide +kernel) (pa_cons ha pa_nil hs) (by decide) (by decide) hs hpl) fun σ H Q ⟨ρ, L, S, y, S', rl, r, e, k⟩ => by
  unfold eRepr at e
  split at e
  · rename_i x S1 h1
    split at e
    · rename_i t h2
      split at e
      · rename_i hc
        cases e
        refine ⟨ρ, L, S, _, _, rl, r, h1, fun ρ1 H1 v s1 r1 b1 => ?_⟩
        have dv := b1.dv r1 h2
        obtain ⟨q, hq⟩ : ∃ q, v = .ref q := by
          cases t with
          | list ts => obtain ⟨q, _, e, _⟩ := dv.list; exact ⟨q, e⟩
          | tuple ts => obtain ⟨q, _, e, _⟩ := dv.tuple; exact ⟨q, e⟩
          | none => exact absurd hc.1 (by decide)
          | bool _ => exact absurd hc.1 Bool.false_ne_true
          | int _ => exact absurd hc.1 Bool.false_ne_true
          | str _ => exact absurd hc.1 Bool.false_ne_true
          | dict _ => exact absurd hc.1 Bool.false_ne_true
        subst hq
        exact ⟨q, t, rfl, dv.dp, dv.lay, hc.2.1, hc.2.2.1, hc.2.2.2, k ρ1 H1 _ s1 r1 rfl⟩
      · cases e
    · cases e
  · cases e
theorem eq_txt [Lams] {K : PySem.W.Frag} {ma mb : Sem} {r : R2} {c : Bool} (hr : ∀ x y H Q, Q (.bl (if x = y then c else !c)) H → r (.str x) (.str y) H Q) : ∀ σ H Q, tM K (eEqT c ma mb) σ H Q → tOp r (tM K ma) (tM K mb) σ H Q := fun σ H Q ⟨ρ, L, S, z, S', rl, rs, e, k⟩ => by
  unfold eEqT at e
  split at e
  · rename_i x S1 h1
    split at e
    · rename_i y S2 h2
      cases e
      refine tM_two rl rs h1 h2 fun ρ1 H1 v w s1 r1 b1 b2 => ?_
      rw [show v = .str x from b1, show w = .str y from b2]
      exact hr x y H1 Q (k ρ1 H1 _ s1 r1 (.bl _))
    · cases e
  · cases e
theorem rEq_str : ∀ (x y : Str) (H : Hp) (Q : VK), Q (.bl (if x = y then true else !true)) H → rEq (.str x) (.str y) H Q := fun x y H Q q => ⟨rfl, by
  by_cases e : x = y
  · subst e; simpa using q
  · simpa [e] using q⟩
theorem rNe_str : ∀ (x y : Str) (H : Hp) (Q : VK), Q (.bl (if x = y then false else !false)) H → rNe (.str x) (.str y) H Q := fun x y H Q q => ⟨rfl, by
  by_cases e : x = y
  · subst e; simpa using q
  · simpa [e] using q⟩
theorem pm_eqT [Lams] (ha : PM X a ma) (hb : PM X b mb) (hm : behindInMarks .Eq b = false := by first | exact nomark _ | rfl) : PM X (.Compare a [.Eq] [b] pos) (eEqT true ma mb) := imp (pe_cmpR op_eq ha hb hm) (eq_txt rEq_str)
theorem pm_neT [Lams] (ha : PM X a ma) (hb : PM X b mb) (hm : behindInMarks .NotEq b = false := by first | exact nomark _ | rfl) : PM X (.Compare a [.NotEq] [b] pos) (eEqT false ma mb) := imp (pe_cmpR op_ne ha hb hm) (eq_txt rNe_str)
theorem pmt_neT [Lams] (ha : PM X a ma) (hb : PM X b mb) (hm : behindInMarks .NotEq b = false := by first | exact nomark _ | rfl) : PMT X (.Compare a [.NotEq] [b] pos) (eEqT false ma mb) := impT (pt_cmpR op_ne ha hb hm) fun σ H Q h => eq_txt rNe_str σ H _ h
end

/-! ### sorted(set(xs)) -/
theorem insU_len {x : Str} : ∀ {l : List Str}, (insU x l).length ≤ l.length + 1
  | [] => Nat.le_refl _
  | y :: r => by
    unfold insU
    split
    · exact Nat.le_refl _
    · split
      · exact Nat.le_succ _
      · have := insU_len (x := x) (l := r)
        rw [List.length_cons, List.length_cons]
        omega
theorem sortU_len : ∀ {l : List Str}, (sortU l).length ≤ l.length
  | [] => Nat.le_refl _
  | x :: r => by
    unfold sortU
    have h1 := insU_len (x := x) (l := sortU r)
    have h2 := sortU_len (l := r)
    rw [List.length_cons]
    omega
theorem sortU_perm {l m : List Str} (h : ∀ k, k ∈ l ↔ k ∈ m) : sortU l = sortU m := lt_uniq sortU_lt sortU_lt fun k => by rw [sortU_mem, sortU_mem, h k]
def SetTx (P : Program) (w : World) (a : Addr) (L : List Str) : HO := .ext fun h => SetS P w h a L
theorem setTx_new {w : World} {P : Program} {H : Hp} {h : Heap} {a : Addr} {L : List Str} (R : SetS P w h a L) : ObjOk P w H h a (SetTx P w a L) := by
  obtain ⟨o, _, _, _, ho, _⟩ := R.ex
  exact ⟨R, ⟨o, ho⟩, fun h1 h2 p k => SetS.at p k⟩
theorem c_setTx {X : Cx} (hc : X.calm = true) : CallR X (.type "set") (fun vs H Q => ∃ (a : Addr) (xs : List Str), vs = [.ref a] ∧ SqL X.K H a (xs.map V.str) ∧ xs.length < 64 ∧ ∀ p, H p = none → Q (.ref p) (upd H p (SetTx X.prog X.w p xs.reverse))) := by
  intro pins s σ H vs us Q I r h
  obtain ⟨a, xs, rfl, hq, hz, q⟩ := h
  obtain ⟨u, rfl, ru⟩ := vals1 r
  cases ru
  obtain ⟨its, rv, pl, _⟩ := I.list hq
  refine call_setTexts (I.ok.hd hc) pl.isList (by simpa using strsAre_of rv) (by unfold scanBound; omega) fun h' tk hS hk => ?_
  exact ⟨.ref s.heap.objs.size, upd H s.heap.objs.size (SetTx X.prog X.w s.heap.objs.size xs.reverse), I.laid (t' := tk) (fun b u e => hk b u e) (Nat.le_refl _) (setTx_new hS), rfl, q _ (I.hok.fresh (Nat.le_refl _))⟩
theorem c_sortTx {X : Cx} (hc : X.calm = true) : CallR X (.builtin "sorted") (fun vs H Q => ∃ (a : Addr) (L : List Str), vs = [.ref a] ∧ H a = some (SetTx X.prog X.w a L) ∧ L.length < 64 ∧ ∀ p, H p = none → Q (.ref p) (upd H p (.lst ((sortU L).map V.str)))) := by
  intro pins s σ H vs us Q I r h
  obtain ⟨a, L, rfl, ha, hz, q⟩ := h
  obtain ⟨u, rfl, ru⟩ := vals1 r
  cases ru
  have R : SetS X.prog X.w s.heap a L := (I.hok a _ ha).1
  refine sorted_texts R (I.ok.hd hc) hz fun s' p out c k g o hp hg hi => ?_
  have hn : H p = none := I.hok.fresh hp
  have hlen : ((sortU L).map V.str).length ≤ sizeLine := by
    rw [List.length_map]
    exact line_of (Nat.le_trans sortU_len (by omega))
  have J : Inv X pins σ (upd H p (.lst ((sortU L).map V.str))) { s with heap := s'.heap, gens := s'.gens, drawn := s'.drawn, toks := s'.toks } :=
    I.call (ch := []) (Un.laid k hp hn) (I.hok.laid k hp ⟨hlen, out.toList, c, vals_of_strs hi, by simpa using hg⟩) (by rw [g]; exact I.bare) (fun _ z => nomatch z)
  have e : s' = { s with heap := s'.heap, gens := s'.gens, drawn := s'.drawn, toks := s'.toks } := by
    cases s'
    cases s
    cases o
    rfl
  rw [e]
  exact ⟨.ref p, _, J, rfl, q p hn⟩
def textsT : List T → Option (List Str)
  | [] => some []
  | .str x :: r => (match textsT r with
    | some xs => some (x :: xs)
    | none => none)
  | _ :: _ => none
theorem texts_br [Lams] {K : PySem.W.Frag} {ρ : List Addr} {H : Hp} : ∀ {vs : List V} {ts : List T} {xs : List Str}, BrA K ρ H vs ts → textsT ts = some xs → vs = xs.map V.str ∧ xs.all PyData.strOk = true
  | _, _, _, .nil, e => by cases e; exact ⟨rfl, rfl⟩
  | _, _, xs, .cons (t := t) b a, e => by
    cases b with
    | str x h =>
      unfold textsT at e
      split at e
      · rename_i ys hy
        cases e
        obtain ⟨h1, h2⟩ := texts_br a hy
        exact ⟨by rw [h1]; rfl, by rw [List.all_cons, h, h2]; rfl⟩
      · cases e
    | non => cases e
    | bl _ => cases e
    | int _ => cases e
    | tup _ _ => cases e
    | lst _ _ => cases e
theorem br_texts [Lams] {K : PySem.W.Frag} {ρ : List Addr} {H : Hp} : ∀ {xs : List Str}, xs.all PyData.strOk = true → BrA K ρ H (xs.map V.str) (xs.map PyData.str)
  | [], _ => .nil
  | x :: r, h => by
    rw [List.all_cons, Bool.and_eq_true] at h
    exact .cons (.str x h.1) (br_texts h.2)
theorem sortU_ok {xs : List Str} (h : xs.all PyData.strOk = true) : (sortU xs).all PyData.strOk = true := List.all_eq_true.mpr fun k hk => List.all_eq_true.mp h k (sortU_mem.mp hk)
def eSortSet (a : Sem) : Sem := fun L S => match a L S with
  | some (x, S1) => (match deref S1 x with
    | some (.list ts) => (match textsT ts with
      | some xs => if xs.length < 64 then some (.d (.list ((sortU xs).map PyData.str)), S1) else none
      | none => none)
    | _ => none)
  | none => none
section
variable {X : Cx} {p p2 q pos : Pos} {a : Expr} {ma : Sem}
theorem pm_sortSet [Lams] (hc : X.calm = true) (hg : Gl X "sorted") (hm : X.mg "sorted" = none) (hg2 : Gl X "set") (hm2 : X.mg "set" = none) (ha : PM X a ma) (hs : starEach [a] X.env = (false, eval a X.env) :: starEach [] X.env := by kernel_rfl) (hpl : (backTo q (starEach [] X.env)).any (·.1) = false := by kernel_rfl)
    (hs2 : starEach [.Call (.Name "set" p2) [a] [] q] X.env = (false, eval (.Call (.Name "set" p2) [a] [] q) X.env) :: starEach [] X.env := by kernel_rfl) (hpl2 : (backTo pos (starEach [] X.env)).any (·.1) = false := by kernel_rfl) :
    PM X (.Call (.Name "sorted" p) [.Call (.Name "set" p2) [a] [] q] [] pos) (eSortSet ma) :=
  imp (pe_callB (c_sortTx hc) hg hm (by decide +kernel) (pa_cons (pe_callTy (c_setTx hc) hg2 hm2 (by decide +kernel) (pa_cons ha pa_nil hs) (by decide) (by decide) hs hpl) pa_nil hs2) (by decide) (by decide) hs2 hpl2) fun σ H Q ⟨ρ, L, S, y, S', rl, r, e, k⟩ => by
    unfold eSortSet at e
    split at e
    · rename_i x S1 h1
      split at e
      · rename_i ts h2
        split at e
        · rename_i xs h3
          split at e
          · rename_i hz
            cases e
            refine ⟨ρ, L, S, _, _, rl, r, h1, fun ρ1 H1 v s1 r1 b1 => ?_⟩
            obtain ⟨a, ys, rfl, h4, b4⟩ := (b1.dv r1 h2).seq
            obtain ⟨rfl, hok⟩ := texts_br b4 h3
            refine ⟨a, xs, rfl, h4, hz, fun n hn => ⟨n, xs.reverse, rfl, upd_same, by rw [List.length_reverse]; exact hz, fun m hm => ?_⟩⟩
            have st1 : Step ρ1 H1 ρ1 (upd H1 n (SetTx X.prog X.w n xs.reverse)) := Step.newO hn
            have r2 := r1.new (o := SetTx X.prog X.w n xs.reverse) hn
            rw [sortU_perm (m := xs) (fun k => by rw [List.mem_reverse])]
            have st2 : Step ρ1 (upd H1 n (SetTx X.prog X.w n xs.reverse)) ρ1 (upd (upd H1 n (SetTx X.prog X.w n xs.reverse)) m (.lst ((sortU xs).map V.str))) := Step.newO hm
            exact k ρ1 _ _ (s1.trans (st1.trans st2)) (r2.new hm) (.lst ⟨upd_same, r2.out hm⟩ (br_texts (sortU_ok hok)))
          · cases e
        · cases e
      · cases e
    · cases e
end

/-! ### dict cells -/
def eNewD : Sem := fun _ S => some (.r S.length, S ++ [.dct []])
def keysS : List (Key × T) → Option (List Str)
  | [] => some []
  | (.inr x, _) :: r => (match keysS r with
    | some xs => some (x :: xs)
    | none => none)
  | _ :: _ => none
/-- sorted(d), d a cell's dict of texts -/
def eSortD (a : Sem) : Sem := fun L S => match a L S with
  | some (.r n, S1) => (match S1[n]? with
    | some (.dct kvs) => (match keysS kvs with
      | some xs => if xs.length < 64 ∧ xs.Nodup ∧ xs.all PyData.strOk = true then some (.d (.list ((sortU xs).map PyData.str)), S1) else none
      | none => none)
    | _ => none)
  | _ => none
theorem keys_br [Lams] {K : PySem.W.Frag} {ρ : List Addr} {H : Hp} : ∀ {vs : List (Key × V)} {ts : List (Key × T)} {xs : List Str}, BrKv K ρ H vs ts → keysS ts = some xs → vs.map (·.1) = xs.map Sum.inr
  | _, _, _, .nil, e => by cases e; rfl
  | _, _, xs, .cons (k := k) b a, e => by
    cases k with
    | inl i => cases e
    | inr x =>
      unfold keysS at e
      split at e
      · rename_i ys hy
        cases e
        rw [List.map_cons, List.map_cons, keys_br a hy]
      · cases e
section
variable {X : Cx} {p pos : Pos} {a : Expr} {ma : Sem}
theorem pm_newD [Lams] : PM X (.Dict [] [] pos) eNewD := imp pe_dnewK fun σ H Q ⟨ρ, L, S, y, S', rl, r, e, k⟩ => by
  cases e
  intro n hn
  have q : CellB X.K (ρ ++ [n]) (upd H n (.dK [])) n (.dct []) := ⟨[], upd_same, .nil⟩
  refine k (ρ ++ [n]) _ _ (Step.cell hn) (r.alloc hn q) ⟨n, ?_, rfl⟩
  rw [← r.len, List.getElem?_append_right (Nat.le_refl _), Nat.sub_self]
  rfl
theorem pm_sortD [Lams] (hc : X.calm = true) (hg : Gl X "sorted") (hm : X.mg "sorted" = none) (ha : PM X a ma) (hs : starEach [a] X.env = (false, eval a X.env) :: starEach [] X.env := by kernel_rfl) (hpl : (backTo pos (starEach [] X.env)).any (·.1) = false := by kernel_rfl) :
    PM X (.Call (.Name "sorted" p) [a] [] pos) (eSortD ma) := imp (pe_callB (call_sortedD hc) hg hm (by decide +kernel) (pa_cons ha pa_nil hs) (by decide) (by decide) hs hpl) fun σ H Q ⟨ρ, L, S, y, S', rl, r, e, k⟩ => by
  unfold eSortD at e
  split at e
  · rename_i n S1 h1
    split at e
    · rename_i kts h2
      split at e
      · rename_i xs h3
        split at e
        · rename_i hz
          cases e
          refine ⟨ρ, L, S, _, _, rl, r, h1, fun ρ1 H1 v s1 r1 b1 => ?_⟩
          obtain ⟨p, hp, rfl⟩ := b1
          obtain ⟨kvs, hk, bk⟩ := r1.cell _ _ _ hp h2
          refine ⟨p, kvs, xs, rfl, .inl hk, keys_br bk h3, hz.1, fun ys m pm so hm => ?_⟩
          have ey : ys = sortU xs := lt_uniq (sorted_lt so (pm.nodup_iff.mpr hz.2.1)) sortU_lt fun k => by rw [pm.mem_iff, sortU_mem]
          rw [ey]
          have st : Step ρ1 H1 ρ1 (upd H1 m (.lst ((sortU xs).map V.str))) := Step.newO hm
          exact k ρ1 _ _ (s1.trans st) (r1.new hm) (.lst ⟨upd_same, r1.out hm⟩ (br_texts (sortU_ok hz.2.2)))
        · cases e
      · cases e
    · cases e
  · cases e
end
/-- a dict comprehension over an empty tuple -/
def eDcE (a : Sem) : Sem := fun L S => match a L S with
  | some (.d (.tuple []), S1) => some (.r S1.length, S1 ++ [.dct []])
  | _ => none
theorem pm_dcE [Lams] {X : Cx} {pos : Pos} {kx vx tg iter : Expr} {ifs : List Expr} {scope : Scope} {own : List (Str × Nat)} {m : Sem} (hc : X.calm = true) (hN : X.N.Nodup) (hi : PM X iter m) (ok : BlkOk X.N X.env.scope scope own) (hs : ∀ x, foldedSetIterable iter X.env x = pure x := by intro _; kernel_rfl) :
    PM X (.DictComp kx vx [⟨tg, iter, ifs, 0⟩] scope pos) (eDcE m) :=
  imp (pe_dc (g := fun _ _ _ _ => False) (tt := fun _ _ _ => False) (tk := fun _ _ _ => False) (tv := fun _ _ _ => False) hc hN (pi_tup hi) ok (fun _ _ _ _ _ => ⟨fun pins s σ H v u Q I r h => h.elim⟩) (fun _ _ _ _ _ => ⟨fun pins s σ H Q I h => h.elim⟩)
    (fun _ _ _ _ _ => pe_no) (fun _ _ _ _ _ => pe_no) hs) fun σ H Q ⟨ρ, L, S, y, S', rl, r, e, k⟩ => by
  unfold eDcE at e
  split at e
  · rename_i S1 h1
    cases e
    refine ⟨ρ, L, S, _, _, rl, r, h1, fun ρ1 H1 v s1 r1 b1 => ?_⟩
    obtain ⟨a, xs, rfl, h2, b2⟩ := (Dv.t b1 : Dv X.K ρ1 H1 v (.tuple [])).tuple
    cases b2
    refine ⟨a, rfl, ⟨[], Br.sqT h2⟩, fun D hD => ?_⟩
    have st : Step ρ1 H1 (ρ1 ++ [D]) (upd H1 D (.dK [])) := Step.cell hD
    have h3 := h2.mono st
    refine ⟨fun i n H => H = upd H1 D (.dK []), ⟨0, rfl⟩, fun i n H e => .inl ⟨⟨[], by rw [e]; exact Br.sqT h3, Nat.zero_le _⟩, ?_⟩⟩
    rw [e]
    have q : CellB X.K (ρ1 ++ [D]) (upd H1 D (.dK [])) D (.dct []) := ⟨[], upd_same, .nil⟩
    refine k _ _ _ (s1.trans st) (r1.alloc hD q) ⟨D, ?_, rfl⟩
    rw [← r1.len, List.getElem?_append_right (Nat.le_refl _), Nat.sub_self]
    rfl
  · cases e
end Mn

/-! MnGen: what a printed derivation leans on: defs by name, constants, tables, calls. -/
namespace Mn
open PySem PySem.Spec PyProof.Rows L2
theorem gl {X : Cx} {x : Str} (h : X.env.kindOf x = some .globalImplicit) : Gl X x := h
theorem hu190 {k : Nat} {A : Around} (hr : Room k A) : A.units + 190 < cLine := by have := hr.un; omega
theorem hu192 {k : Nat} {A : Around} (hr : Room k A) : A.units + 192 < cLine := by have := hr.un; omega

/-! ### a text is walked -/
def signsT (x : Str) : List T := x.cps.toList.map fun c => PyData.str ⟨#[c]⟩
def iStrM (m : Sem) : SemI := fun L S => match m L S with
  | some (.d (.str x), S1) => some (signsT x, S1)
  | _ => none
theorem pim_str [Lams] {X : Cx} {tg a : Expr} {ma : Sem} (h : PM X a ma) : PIM X tg a (iStrM ma) := impI (pi_str h) fun σ H R ⟨ρ, L, S, ts, S', rl, r, e, k⟩ => by
  unfold iStrM at e
  split at e
  · rename_i x S1 h1
    cases e
    refine ⟨ρ, L, S, _, _, rl, r, h1, fun ρ1 H1 v s1 r1 b1 => ?_⟩
    obtain ⟨rfl, hok⟩ := (Dv.t b1 : Dv X.K ρ1 H1 v (.str x)).str
    have hl : (signsT x).length = x.cps.size := by unfold signsT; rw [List.length_map, Array.length_toList]
    refine ⟨x, rfl, k ρ1 H1 _ (fun _ _ => True) s1 r1 ⟨fun _ _ => trivial, fun {ρ H i} _ hi => by rw [hl] at hi; exact hi, fun {ρ H i} _ hi => by rw [hl] at hi; exact hi, fun {ρ H S i y H' t} _ rr yl ht => ?_⟩ trivial⟩
    obtain ⟨rfl, c, hc, rfl⟩ := yl
    unfold signsT at ht
    rw [List.getElem?_map, Array.getElem?_toList, hc] at ht
    cases ht
    exact ⟨Step.refl _ _, rr, .str _ (strOk_one hok (by rw [Array.mem_toList_iff]; exact Array.mem_of_getElem? hc))⟩
  · cases e

/-! ### defs by name -/
def Pl (K : PySem.W.Frag) (mg : Str → Option Value) (x : Str) (st : Stmt) : Prop := ∃ f fd, mg x = some (.ref f) ∧ Fun K x x st f fd
def BiOk (x : Str) (st : Stmt) (ps : List Str) : Prop := ∀ (kV doc pm : Value) (an : Option Addr) (cdv ct : Value) (us : List Value), us.length = ps.length → bindArgs (PySem.W.fnOf x x (defArgs st) (defBody st) (defScope st) .none kV doc pm an cdv ct) ⟨us, []⟩ = pure (ps.zip us)
def BkOk (x : Str) (st : Stmt) (ps ks : List Str) (is : List Nat) : Prop := ∀ (kV doc pm : Value) (an : Option Addr) (cdv ct : Value) (ws : List Value), ws.length = ks.length → bindArgs (PySem.W.fnOf x x (defArgs st) (defBody st) (defScope st) .none kV doc pm an cdv ct) ⟨[], ks.zip ws⟩ = pure (ps.zip (pick is ws))
structure Df [Lams] (P : Program) (w : World) (K : PySem.W.Frag) (mg : Str → Option Value) (base : Heap) (x : Str) (st : Stmt) (ps : List Str) (k : Nat) (F : Fn) : Prop where
  ex : ∃ f fd, mg x = some (.ref f) ∧ Fun K x x st f fd ∧ FnG P w K mg base k f fd ps (spM K F)
  bi : BiOk x st ps
  len : FnLen F ps.length
section
variable {P : Program} {w : World} {K : PySem.W.Frag} {mg : Str → Option Value} {base : Heap} {x : Str} {st : Stmt} {ps N : List Str} {k j np n : Nat} {F : Fn} {b : Sts}
theorem Df.mono [Lams] (d : Df P w K mg base x st ps k F) (h : k ≤ j) : Df P w K mg base x st ps j F := by
  obtain ⟨⟨f, fd, e1, e2, e3⟩, e4, e5⟩ := d
  exact ⟨⟨f, fd, e1, e2, e3.mono h⟩, e4, e5⟩
theorem df_of [Lams] (p : Pl K mg x st) (S : FnScope N ps (defScope st)) (hb : BiOk x st ps)
    (h : ∀ (f : Addr) (cdv : Value) (A : Around) (outer : List Env) (s : Shared) (H : Hp), Room k (A.deeper (envOfC x (defScope st) s.heap.objs.size f cdv)) → A.guards = some [] → PSsM (CxG P w K mg base N x st f cdv A outer s H) (defBody st) b) (hnp : ps.length = np := by kernel_rfl) (hnn : N.length = n := by kernel_rfl) : Df P w K mg base x st ps (k + 1) (runT np n b) := by
  subst hnp hnn
  obtain ⟨f, fd, e1, e2⟩ := p
  exact ⟨⟨f, fd, e1, e2, (okG e2 S (h f)).toT⟩, hb, fun _ _ _ e => runT_len e⟩
theorem df_makes [Lams] (p : Pl K mg x st) (S : FnScope N ps (defScope st)) (hb : BiOk x st ps)
    (h : ∀ (f : Addr) (cdv : Value) (A : Around) (outer : List Env) (s : Shared) (H : Hp), Room k (A.deeper (envOfC x (defScope st) s.heap.objs.size f cdv)) → A.guards = some [] → PSsM (CxG P w K mg base N x st f cdv A outer s H) (defBody st) b) (hnp : ps.length = np := by kernel_rfl) (hnn : N.length = n := by kernel_rfl) : Df P w K mg base x st ps (k + 1) (runR np n b) := by
  subst hnp hnn
  obtain ⟨f, fd, e1, e2⟩ := p
  exact ⟨⟨f, fd, e1, e2, (okG e2 S (h f)).toR⟩, hb, fun _ _ _ e => runR_len e⟩
theorem df_zero [Lams] (p : Pl K mg x st) (hb : BiOk x st ps) : Df P w K mg base x st ps k (fun _ _ => none) := by
  obtain ⟨f, fd, e1, e2⟩ := p
  refine ⟨⟨f, fd, e1, e2, fun A outer s H args us vs Q hr hg e0 hl hbd r ⟨ρ, S, xs, y, S', _, _, e, _⟩ => ?_⟩, hb, fun _ _ _ e => ?_⟩ <;> cases e
end
section
variable {X : Cx} {x : Str} {st : Stmt} {ps ks : List Str} {k : Nat} {F : Fn} {p pos : Pos} {e : Expr} {es : List Expr} {m : Sems} {is : List Nat} {kws : List Keyword}
theorem pm_df [Lams] (d : Df X.prog X.w X.K X.mg X.base x st ps k F) (hr : Room k X.A) (hgd : X.A.guards = some []) (hg : Gl X x) (ha : PMA X (e :: es) m) (hdb : (x == ("__debug__" : Str)) = false := by kernel_rfl)
    (he : starEach (e :: es) X.env = (false, eval e X.env) :: starEach es X.env := by kernel_rfl) (hpl : (backTo pos (starEach es X.env)).any (·.1) = false := by kernel_rfl) : PM X (.Call (.Name x p) (e :: es) [] pos) (eCall F m) := by
  obtain ⟨⟨f, fd, e1, e2, e3⟩, e4, e5⟩ := d
  exact pm_call e3 e5 hr hgd hg e1 e2.kp (e2.binds e4) ha hdb he hpl
theorem pm_df0 [Lams] (d : Df X.prog X.w X.K X.mg X.base x st ps k F) (hr : Room k X.A) (hgd : X.A.guards = some []) (hg : Gl X x) (hdb : (x == ("__debug__" : Str)) = false := by kernel_rfl) : PM X (.Call (.Name x p) [] [] pos) (eCall F aNil) := by
  obtain ⟨⟨f, fd, e1, e2, e3⟩, e4, e5⟩ := d
  exact pm_call0 e3 e5 hr hgd hg e1 e2.kp (e2.binds e4) hdb
def eCallK0 (F : Fn) (is : List Nat) (rk : Sems) : Sem := fun L S => match rk L S with
  | some (zs, S2) => F (pick is zs) S2
  | none => none
/-- f(k = e, ..) -/
theorem pm_dfK [Lams] (d : Df X.prog X.w X.K X.mg X.base x st ps k F) (hr : Room k X.A) (hgd : X.A.guards = some []) (hg : Gl X x) (hb : BkOk x st ps ks is) (ha : PMK X kws m) (hlen : ∀ L S xs S', m L S = some (xs, S') → xs.length = ks.length)
    (hall : (backToKw pos (keywordEach kws X.env)).all (·.1.isSome) = true := by kernel_rfl) (hks : (backToKw pos (keywordEach kws X.env)).filterMap (·.1) = ks := by kernel_rfl) (hdb : (x == ("__debug__" : Str)) = false := by kernel_rfl)
    (hpl : ((backTo pos (starEach [] X.env)).any (·.1) || (backToKw pos (keywordEach kws X.env)).any (·.1.isNone)) = false := by kernel_rfl) : PM X (.Call (.Name x p) [] kws pos) (eCallK0 F is m) := by
  obtain ⟨⟨f, fd, e1, e2, e3⟩, e4, e5⟩ := d
  refine ⟨fun pins s σ H Q I ⟨ρ, L, S, y, S', rl, r, e, k⟩ => ?_⟩
  unfold eCallK0 at e
  split at e
  · rename_i zs S2 h2
    refine wpAny_Call_Name_kw (ld_glob I hg e1 (PySem.W.callWith_KW0 (h₀ := X.base) I.ok.mod.kin e2.kp hall ?_ hpl) hdb)
    refine thn (ha.run pos pins s σ H (fun vs H' => ∃ ρ', Step ρ H ρ' H' ∧ Rel X.K ρ' H' S2 ∧ VBs X.K ρ' H' vs zs) I ⟨ρ, L, S, zs, S2, rl, r, h2, fun ρ' H' vs s1 r1 b1 => ⟨ρ', s1, r1, b1⟩⟩) fun ws s2 ⟨vs, H2, I2, rv, ρ2, st2, r2, b2⟩ => ⟨I2.kIn, ?_⟩
    rw [hks]
    have b3 := pick_vbs (is := is) b2
    have r3 := pick_vals (is := is) rv
    have hl : (pick is zs).length = ps.length := e5 _ _ _ e
    have hl2 : (pick is ws).length = ps.length := by rw [← r3.length, b3.length]; exact hl
    obtain ⟨oc, od, kV, doc, pm, an, cdv, ct, osl, rfl, lk, hcd⟩ := e2.ex
    have hw : ws.length = ks.length := by rw [← rv.length, b2.length]; exact hlen _ _ _ _ h2
    exact wpAny_call (goG e3 hr hgd I2 hl2 (.of_eq (hb kV doc pm an cdv ct ws hw)) r3 ⟨ρ2, S2, _, y, S', r2, b3, e, fun ρ' H' v s3 r4 b4 => k ρ' H' v (st2.trans s3) r4 b4⟩ fun u s' z => z)
  · cases e
theorem len_nil : ∀ L S xs S', aNil L S = some (xs, S') → xs.length = 0 := fun L S xs S' h => by cases h; rfl
theorem len_cons {a : Sem} {r : Sems} {n : Nat} (h : ∀ L S xs S', r L S = some (xs, S') → xs.length = n) : ∀ L S xs S', aCons a r L S = some (xs, S') → xs.length = n + 1 := fun L S xs S' e => by
  obtain ⟨x, S1, ys, h1, h2, rfl⟩ := aCons_inv e
  rw [List.length_cons, h _ _ _ _ h2]
end

/-! ### constants and tables by name -/
def Ct [Lams] (K : PySem.W.Frag) (mg : Str → Option Value) (x : Str) (t : T) : Prop := ∃ u v, mg x = some u ∧ RelV v u ∧ ∀ ρ H, Br K ρ H v t
def Tb [Lams] (K : PySem.W.Frag) (w : World) (mg : Str → Option Value) (x : Str) (tbl : List (Str × T)) : Prop := ∃ d, mg x = some (.ref d) ∧ KTab K w d tbl
section
variable {X : Cx} {x : Str} {t : T} {tbl : List (Str × T)} {p pos : Pos} {a : Expr} {ma : Sem}
theorem pm_ct [Lams] (c : Ct X.K X.mg x t) (hg : Gl X x) (hd : (x == ("__debug__" : Str)) = false := by kernel_rfl) : PM X (.Name x pos) (eC t) := by
  obtain ⟨u, v, h1, h2, h3⟩ := c
  exact pm_glob hg h1 h2 h3 hd
theorem pm_notInT [Lams] (c : Tb X.K X.w X.mg x tbl) (hg : Gl X x) (ha : PM X a ma) (hmk : behindInMarks .NotIn (.Name x p) = false := by first | exact nomark _ | rfl) (hd : (x == ("__debug__" : Str)) = false := by kernel_rfl) : PM X (.Compare a [.NotIn] [.Name x p] pos) (eInK tbl false ma) := by
  obtain ⟨d, h1, h2⟩ := c
  exact pm_notInK h2 hg h1 ha hmk hd
theorem pmt_notInT [Lams] (c : Tb X.K X.w X.mg x tbl) (hg : Gl X x) (ha : PM X a ma) (hmk : behindInMarks .NotIn (.Name x p) = false := by first | exact nomark _ | rfl) (hd : (x == ("__debug__" : Str)) = false := by kernel_rfl) : PMT X (.Compare a [.NotIn] [.Name x p] pos) (eInK tbl false ma) := by
  obtain ⟨d, h1, D⟩ := c
  obtain ⟨es, n, kd⟩ := D.kd
  refine impT (pt_cmpR (op_notIn_kd kd) ha (pe_glob (v := .ref d) hg h1 rfl hd) hmk) fun σ H Q ⟨ρ, L, S, y, S', rl, r, e, k⟩ => ?_
  unfold eInK at e
  split at e
  · rename_i z S1 h1
    cases e
    refine ⟨ρ, L, S, _, _, rl, r, h1, fun ρ1 H1 v s1 r1 b1 => ?_⟩
    obtain ⟨rfl, _⟩ := (Dv.t b1 : Dv X.K ρ1 H1 v (.str z)).str
    show ∃ (z2 : Str) (r2 : Option Value), V.str z = .str z2 ∧ V.ref d = .ref d ∧ PySem.W.nsIn X.K d z2 = some r2 ∧ ∃ k, V.bl (!r2.isSome) = .bl k ∧ Q k H1
    cases hl : tbl.lookup z with
    | none =>
      rw [hl] at k
      exact ⟨z, none, rfl, rfl, D.no z hl, k ρ1 H1 _ s1 r1 (.bl _)⟩
    | some t =>
      rw [hl] at k
      obtain ⟨u, v, h2, _⟩ := D.yes z t hl
      exact ⟨z, some u, rfl, rfl, h2, k ρ1 H1 _ s1 r1 (.bl _)⟩
  · cases e
theorem pm_ixT [Lams] (c : Tb X.K X.w X.mg x tbl) (hg : Gl X x) (ha : PM X a ma) (hs : PlainIx a := by intro _ _; kernel_rfl) (hd : (x == ("__debug__" : Str)) = false := by kernel_rfl) : PM X (.Subscript (.Name x p) a pos) (eIxK tbl ma) := by
  obtain ⟨d, h1, h2⟩ := c
  exact pm_ixK h2 hg h1 ha hs hd
theorem pmt_eqT [Lams] {b : Expr} {mb : Sem} (ha : PM X a ma) (hb : PM X b mb) (hm : behindInMarks .Eq b = false := by first | exact nomark _ | rfl) : PMT X (.Compare a [.Eq] [b] pos) (eEqT true ma mb) := impT (pt_cmpR op_eq ha hb hm) fun σ H Q h => eq_txt rEq_str σ H _ h
end
end Mn

set_option maxHeartbeats 1000000
/-! MnLam: lambdas made, handed on and called. -/
namespace Mn
open PySem PySem.Spec PyProof.Rows L2
variable [Lams]

theorem lamO_ok {P : Program} {w : World} {H : Hp} {h : Heap} {f c : Addr} {q : Str} {L : LamSrc} {cl : List (Str × Addr)} {pm ct : Value}
    (e : h.get? f = some (PySem.W.kla_obj "<lambda>" q L.params L.body L.scope cl pm c ct)) : ObjOk P w H h f (LamO f q L cl c) :=
  ⟨⟨pm, ct, e⟩, ⟨_, e⟩, fun h1 h2 ⟨a, b, z⟩ st => ⟨a, b, st _ z⟩⟩
theorem lamO_at {P : Program} {w : World} {H : Hp} {h : Heap} {f c : Addr} {q : Str} {L : LamSrc} {cl : List (Str × Addr)} (hok : HOk P w H h) (e : H f = some (LamO f q L cl c)) :
    ∃ pm ct : Value, h.get? f = some (PySem.W.kla_obj "<lambda>" q L.params L.body L.scope cl pm c ct) := by
  obtain ⟨z, _, _⟩ := hok f _ e
  exact z
/-- what the tables tell -/
structure TabsH (T : List (Addr × Str)) (H : Hp) : Prop where
  tabs : LamX.Tabs T H
  only : ∀ b ps, H b = some (.tbl ps) → ∃ q, (b, q) ∈ T
/-- from one heap to the next: all but the tables stay, nothing is forgotten -/
structure Grow (H H' : Hp) : Prop where
  keep : ∀ b o, H b = some o → (∀ ps, o ≠ .tbl ps) → H' b = some o
  gone : ∀ b, H' b = none → H b = none
theorem Grow.step {ρ : List Addr} {H H' : Hp} (g : Grow H H') : Step ρ H ρ H' := ⟨List.prefix_refl _, fun _ h n => absurd h n, fun a o _ e n => g.keep a o e n, g.gone, fun a o u e => g.keep a _ e fun _ z => by cases z⟩
theorem Grow.rel {K : PySem.W.Frag} {ρ : List Addr} {H H' : Hp} {S : So} (g : Grow H H') (t : TabsH (tabsOf K) H') (r : Rel K ρ H S) : Rel K ρ H' S :=
  ⟨r.len, r.nd, fun n a c ha hc => by
    have b := r.cell n a c ha hc
    obtain ⟨o, e, n1, _⟩ := b.obj
    exact b.move g.step (by rw [e]; exact g.keep a o e n1), t.tabs, t.only⟩
theorem Grow.new {H : Hp} {a : Addr} {o : HO} (h : H a = none) : Grow H (upd H a o) := ⟨fun b u e _ => by rw [upd_ne (ne_of_none e h)]; exact e, upd_gone⟩
theorem Grow.trans {H H1 H2 : Hp} (g : Grow H H1) (k : Grow H1 H2) : Grow H H2 := ⟨fun b o e n => k.keep b o (g.keep b o e n) n, fun b e => g.gone b (k.gone b e)⟩
theorem Rel.th {K : PySem.W.Frag} {ρ : List Addr} {H : Hp} {S : So} (r : Rel K ρ H S) : TabsH (tabsOf K) H := ⟨r.tabs, r.only⟩
theorem TabsH.new {T : List (Addr × Str)} {H : Hp} {a : Addr} {o : HO} (t : TabsH T H) (h : H a = none) (nt : ∀ ps, o ≠ .tbl ps) : TabsH T (upd H a o) :=
  ⟨tabs_upd t.tabs (fun _ z => by rw [h] at z; cases z) (fun _ _ z => by rw [h] at z; cases z), only_upd t.only nt⟩
section
variable {X : Cx} {pins : List (Addr × Obj)} {σ : L2.St} {H : Hp} {s : Shared}
/-- the lambda's object is made -/
theorem lam_mk {T : List (Addr × Str)} {c P : Addr} {L : LamSrc} {pos : Pos} {E : Value → Shared → Prop} {Q : Value → Shared → Prop} (I : Inv X pins σ H s) (TB : LamX.TabB X.base X.mg c P) (hc : X.env.code = .ref c)
    (hm : (P, X.env.qual ++ "<lambda>") ∈ T) (hu : ∀ p ∈ T, p.1 = P → p.2 = X.env.qual ++ "<lambda>") (hT : TabsH T H) (hdef : defaultsOf L.params X.env = ([], [])) (hfree : ∀ y ∈ L.scope.names, y.2 = .free → ∃ a, X.env.cells.lookup y.1 = some a)
    (k : ∀ (f c' : Addr) (H1 : Hp) (s' : Shared), Inv X pins σ H1 s' → Grow H H1 → TabsH T H1 → H1 f = some (LamO f (X.env.qual ++ "<lambda>") L (cloFrom X.env.cells L.scope.names []) c') → H1 c' = some (LamX.CodeO c' (X.env.qual ++ "<lambda>")) → Q (.ref f) s') :
    wpAny (model X.prog X.w) X.A (eval (.Lambda L.params L.body L.scope pos) X.env) Q E s := by
  refine PySem.W.kla_eval hdef ?_
  obtain ⟨tb, eP, trip, told⟩ := hT.tabs _ hm
  have atP : s.heap.get? P = some { cls := .none, data := .fields tb } := I.hok P _ eP
  have bm : s.heap.BuiltinsAt X.mg P := TB.bm.keeps I.bk
  have hd := TB.code.keeps I.bk
  cases look : codeAmong pos tb.toList with
  | some cv =>
    obtain ⟨c', rfl, eC⟩ := told pos cv look
    refine PySem.W.kla_makeFunctionHit (mg := X.mg) (c := c) (P := P) (ps := tb) (closure_ok hfree) I.ok.glob (I.mod.glob.keeps I.bk) hc hd atP trip look bm fun ctv h' tk kp sz => ?_
    have J : Inv X pins σ H { s with heap := h', toks := tk } := I.kept kp
    have nf : H h'.objs.size = none := J.hok.fresh (Nat.le_refl _)
    have J2 := J.laid (t' := tk) (a := h'.objs.size) (o := LamO h'.objs.size (X.env.qual ++ "<lambda>") L (cloFrom X.env.cells L.scope.names []) c')
      (h' := h'.push (PySem.W.kla_obj "<lambda>" (X.env.qual ++ "<lambda>") L.params L.body L.scope (cloFrom X.env.cells L.scope.names []) ((X.mg "__name__").getD .none) c' ctv)) (fun b u e => Heap.get?_push_of_some _ e) (Nat.le_refl _) (lamO_ok (Heap.get?_push_size _ rfl))
    exact k _ c' _ _ J2 (Grow.new nf) (hT.new nf lamO_ne) upd_same (by rw [upd_ne (ne_of_none eC nf)]; exact eC)
  | none =>
    refine PySem.W.kla_makeFunction (mg := X.mg) (c := c) (P := P) (ps := tb) (closure_ok hfree) I.ok.glob (I.mod.glob.keeps I.bk) hc hd atP trip look TB.gP bm fun c' ctv h' tk eb ge lt rec tab => ?_
    obtain ⟨c2, oc, vs, t, ec, hoc, hdc, hv⟩ := rec
    cases ec
    have J := LamX.inv_table (t' := tk) (h' := h') (q := X.env.qual ++ "<lambda>") I eP (fun b o hb e => eb b o hb e) tab ge ⟨oc, vs, t, hoc, hdc, hv⟩
    have nC : H c' = none := I.hok.fresh ge
    have nCP : P ≠ c' := ne_of_none eP nC
    generalize hH : upd (upd H P (.tbl (tb ++ #[rawInt pos.line, rawInt pos.col, .ref c']))) c' (LamX.CodeO c' (X.env.qual ++ "<lambda>")) = H1 at J
    have at1 : ∀ b, b ≠ P → b ≠ c' → H1 b = H b := fun b h1 h2 => by rw [← hH, upd_ne h2, upd_ne h1]
    have e1 : H1 P = some (.tbl (tb ++ #[rawInt pos.line, rawInt pos.col, .ref c'])) := by rw [← hH, upd_ne nCP, upd_same]
    have e2 : H1 c' = some (LamX.CodeO c' (X.env.qual ++ "<lambda>")) := by rw [← hH, upd_same]
    have g1 : Grow H H1 := ⟨fun b o e n => by rw [at1 b (fun z => n tb (Option.some.inj (by rw [← e, z]; exact eP))) (ne_of_none e nC)]; exact e, fun b e => by
      by_cases h1 : b = P
      · rw [h1, e1] at e; cases e
      · by_cases h2 : b = c'
        · rw [h2]; exact nC
        · rw [← at1 b h1 h2]; exact e⟩
    have t1 : TabsH T H1 := by
      refine ⟨fun p hp => ?_, fun b ps e => ?_⟩
      · by_cases hb : p.1 = P
        · rw [hu p hp hb, hb]
          have eL : (tb ++ #[rawInt pos.line, rawInt pos.col, .ref c']).toList = tb.toList ++ [rawInt pos.line, rawInt pos.col, .ref c'] := by simp
          refine ⟨_, e1, by rw [eL]; exact PySem.TriplesOk_snoc _ _ _ _ trip, fun p' cv hcv => ?_⟩
          rw [eL] at hcv
          rcases LamX.among_app _ trip hcv with z | z
          · obtain ⟨c0, z1, z2⟩ := told p' cv z
            exact ⟨c0, z1, g1.keep _ _ z2 LamX.codeO_ne⟩
          · exact ⟨c', z, e2⟩
        · obtain ⟨ps', a1, a2, a3⟩ := hT.tabs p hp
          refine ⟨ps', by rw [at1 _ hb (ne_of_none a1 nC)]; exact a1, a2, fun p' cv hcv => ?_⟩
          obtain ⟨c0, z1, z2⟩ := a3 p' cv hcv
          exact ⟨c0, z1, g1.keep _ _ z2 LamX.codeO_ne⟩
      · by_cases h1 : b = P
        · rw [h1]; exact ⟨_, hm⟩
        · by_cases h2 : b = c'
          · rw [h2, e2] at e
            exact (LamX.codeO_ne _ (Option.some.inj e)).elim
          · rw [at1 b h1 h2] at e
            exact hT.only b ps e
    have nf : H1 h'.objs.size = none := J.hok.fresh (Nat.le_refl _)
    have J2 := J.laid (t' := tk) (a := h'.objs.size) (o := LamO h'.objs.size (X.env.qual ++ "<lambda>") L (cloFrom X.env.cells L.scope.names []) c')
      (h' := h'.push (PySem.W.kla_obj "<lambda>" (X.env.qual ++ "<lambda>") L.params L.body L.scope (cloFrom X.env.cells L.scope.names []) ((X.mg "__name__").getD .none) c' ctv)) (fun b u e => Heap.get?_push_of_some _ e) (Nat.le_refl _) (lamO_ok (Heap.get?_push_size _ rfl))
    exact k _ c' _ _ J2 (g1.trans (Grow.new nf)) (t1.new nf lamO_ne) upd_same (by rw [upd_ne (ne_of_none e2 nf)]; exact e2)
end
end Mn

set_option maxHeartbeats 1000000
/-! MnFrz: cells that are known through a call; cells forgotten through a lambda's call. -/
namespace Mn
open PySem PySem.Spec PyProof.Rows L2
/-- no lambda -/
def noF : Vl → Bool
  | .f _ _ => false
  | _ => true
open Classical in
/-- the objects at p are known -/
noncomputable def addC (p : Addr → Prop) (h : Heap) (H : Hp) : Hp := fun b => if p b then (h.get? b).map fun o => HO.frz o (.own 0) else H b
open Classical in
noncomputable def delC (p : Addr → Prop) (H : Hp) : Hp := fun b => if p b then none else H b
open Classical in
noncomputable def mixC (p : Addr → Prop) (H H' : Hp) : Hp := fun b => if p b then H b else H' b
section
variable {p : Addr → Prop} {h : Heap} {H H' : Hp} {b : Addr}
theorem addC_at (hb : p b) {o : Obj} (e : h.get? b = some o) : addC p h H b = some (.frz o (.own 0)) := by unfold addC; rw [if_pos hb, e]; rfl
theorem addC_ne (hb : ¬ p b) : addC p h H b = H b := if_neg hb
theorem delC_at (hb : p b) : delC p H b = none := if_pos hb
theorem delC_ne (hb : ¬ p b) : delC p H b = H b := if_neg hb
theorem mixC_at (hb : p b) : mixC p H H' b = H b := if_pos hb
theorem mixC_ne (hb : ¬ p b) : mixC p H H' b = H' b := if_neg hb
theorem delC_some {u : HO} (e : delC p H b = some u) : ¬ p b ∧ H b = some u := by
  by_cases hb : p b
  · rw [delC_at hb] at e; cases e
  · rw [delC_ne hb] at e; exact ⟨hb, e⟩
end
/-- what is asked of the objects that become known -/
structure Fz (p : Addr → Prop) (fs : List Addr) (base h : Heap) (H : Hp) : Prop where
  free : ∀ b, p b → H b = none
  cell : ∀ b, p b → ∃ o v, h.get? b = some o ∧ o.data = .cell v
  nfs : ∀ b, p b → b ∉ fs
  nbase : ∀ b, p b → base.get? b = none
section
variable {P : Program} {w : World} {K : PySem.W.Frag} {mg : Str → Option Value} {base : Heap} {A : Around} {outer : List Env} {s s' : Shared} {H : Hp} {p : Addr → Prop} {Q : VK} {u : Value}
theorem Fz.ne {fs : List Addr} {h : Heap} (z : Fz p fs base h H) {b : Addr} {o : HO} (e : H b = some o) : ¬ p b := fun hb => by rw [z.free b hb] at e; cases e
theorem env0_add (z : Fz p (frs outer) base s.heap H) (e0 : Env0 P w K mg base A outer s H) : Env0 P w K mg base A outer s (addC p s.heap H) := by
  refine ⟨e0.frames, e0.mod, fun b o e => ?_, e0.bsz, e0.funs, fun b hb => ?_, fun b u e => ?_, e0.bare⟩
  · have hb : ¬ p b := fun hb => by rw [z.nbase b hb] at e; cases e
    rw [addC_ne hb]
    exact e0.bs b o e
  · rw [addC_ne fun y => z.nfs b y hb]
    exact e0.frf b hb
  · by_cases hb : p b
    · obtain ⟨o, v, e1, _⟩ := z.cell b hb
      rw [addC_at hb e1] at e
      cases e
      exact ⟨e1, o, e1⟩
    · rw [addC_ne hb] at e
      exact (e0.hok b u e).stay (fun _ _ _ q => q) (fun c q => by rw [addC_ne (z.ne q)]; exact q) fun c xs q => by rw [addC_ne (z.ne q)]; exact q
/-- the call is behind: the cells are forgotten again -/
theorem ce_back (z : Fz p (frs outer) base s.heap H) (h : CE outer P w (addC p s.heap H) s (fun v H' => (∀ b, p b → ∃ o, H' b = some (.frz o (.own 0))) → Q v (delC p H')) u s') : CE outer P w H s Q u s' := by
  obtain ⟨v, H', os, bare, un, ok, r, q⟩ := h
  have fz : ∀ b, p b → ∃ o, s.heap.get? b = some o ∧ H' b = some (.frz o (.own 0)) ∧ s'.heap.get? b = some o := fun b hb => by
    obtain ⟨o, v, e1, _⟩ := z.cell b hb
    have e2 := un.frzs b o _ (addC_at hb e1)
    exact ⟨o, e1, e2, (ok b _ e2).1⟩
  have up : ∀ {b}, ¬ p b → H b = none → addC p s.heap H b = none := fun {b} hb n => by rw [addC_ne hb]; exact n
  refine ⟨v, delC p H', os, bare, ⟨fun b o e n hf hx => ?_, fun b o e n hf hx => ?_, fun b o e n hx => ?_, fun b o e hx => un.there b o e hx, fun b xs e => ?_, fun b o v e => ?_, fun b ps e => ?_⟩, fun b v e => ?_, r, q fun b hb => let ⟨o, _, e, _⟩ := fz b hb; ⟨o, e⟩⟩
  · by_cases hb : p b
    · obtain ⟨o', e1, _, e3⟩ := fz b hb
      rw [e] at e1
      cases e1
      exact e3
    · exact un.keep b o e (up hb n) hf hx
  · exact un.slot b o e (up (fun y => z.nfs b y hf) n) hf hx
  · by_cases hb : p b
    · exact delC_at hb
    · rw [delC_ne hb]
      exact un.free b o e (up hb n) hx
  · have hb := z.ne e
    rw [delC_ne hb]
    exact un.tups b xs (by rw [addC_ne hb]; exact e)
  · have hb := z.ne e
    rw [delC_ne hb]
    exact un.frzs b o v (by rw [addC_ne hb]; exact e)
  · have hb := z.ne e
    rw [delC_ne hb]
    exact un.tbls b ps (by rw [addC_ne hb]; exact e)
  · obtain ⟨hb, e2⟩ := delC_some e
    have np : ∀ {c : Addr} {o : HO}, H' c = some o → (∀ ob, o ≠ .frz ob (.own 0)) → ¬ p c := fun {c o} q n y => by
      obtain ⟨o', _, e3, _⟩ := fz c y
      rw [q] at e3
      exact n o' (Option.some.inj e3)
    exact (ok b v e2).stay (fun _ _ _ q => q) (fun c q => by rw [delC_ne (np q fun _ y => by cases y)]; exact q) fun c xs q => by rw [delC_ne (np q fun _ y => by cases y)]; exact q
/-- the known cells are forgotten -/
theorem env0_del (z : ∀ b, p b → ∃ o, H b = some (.frz o (.own 0))) (e0 : Env0 P w K mg base A outer s H) : Env0 P w K mg base A outer s (delC p H) := by
  have np : ∀ {c : Addr} {o : HO}, H c = some o → (∀ ob, o ≠ .frz ob (.own 0)) → ¬ p c := fun {c o} q n y => by
    obtain ⟨o', e3⟩ := z c y
    rw [q] at e3
    exact n o' (Option.some.inj e3)
  have nn : ∀ {b}, H b = none → delC p H b = none := fun {b} e => by
    by_cases hb : p b
    · exact delC_at hb
    · rw [delC_ne hb]; exact e
  refine ⟨e0.frames, e0.mod, fun b o e => ⟨(e0.bs b o e).1, nn (e0.bs b o e).2⟩, e0.bsz, e0.funs, fun b hb => nn (e0.frf b hb), fun b u e => ?_, e0.bare⟩
  obtain ⟨hb, e2⟩ := delC_some e
  exact (e0.hok b u e2).stay (fun _ _ _ q => q) (fun c q => by rw [delC_ne (np q fun _ y => by cases y)]; exact q) fun c xs q => by rw [delC_ne (np q fun _ y => by cases y)]; exact q
theorem ce_mix (z : ∀ b, p b → ∃ o, H b = some (.frz o (.own 0))) (e0 : Env0 P w K mg base A outer s H) (h : CE outer P w (delC p H) s (fun v H' => (∀ b, p b → H' b = none) → Q v (mixC p H H')) u s') : CE outer P w H s Q u s' := by
  obtain ⟨v, H', os, bare, un, ok, r, q⟩ := h
  have nf : ∀ b, p b → b ∉ frs outer := fun b hb hf => by
    obtain ⟨o, e⟩ := z b hb
    rw [e0.frf b hf] at e
    cases e
  have fz : ∀ b, p b → ∃ o, H b = some (.frz o (.own 0)) ∧ H' b = none ∧ s'.heap.get? b = some o := fun b hb => by
    obtain ⟨o, e⟩ := z b hb
    have e1 := (e0.hok b _ e).1
    exact ⟨o, e, un.free b o e1 (delC_at hb) (by simp), un.keep b o e1 (delC_at hb) (nf b hb) (by simp)⟩
  have np : ∀ {b}, H b = none → ¬ p b := fun {b} n hb => by
    obtain ⟨o, e⟩ := z b hb
    rw [n] at e
    cases e
  have up : ∀ {b}, H b = none → delC p H b = none := fun {b} n => by rw [delC_ne (np n)]; exact n
  have ns : ∀ {c : Addr} {o : HO}, H c = some o → (∀ ob, o ≠ .frz ob (.own 0)) → ¬ p c := fun {c o} q n y => by
    obtain ⟨o', e3⟩ := z c y
    rw [q] at e3
    exact n o' (Option.some.inj e3)
  have nh : ∀ {c : Addr} {o : HO}, H' c = some o → ¬ p c := fun {c o} e y => by
    obtain ⟨_, _, e2, _⟩ := fz c y
    rw [e] at e2
    cases e2
  refine ⟨v, mixC p H H', os, bare, ⟨fun b o e n hf hx => un.keep b o e (up n) hf hx, fun b o e n hf hx => un.slot b o e (up n) hf hx, fun b o e n hx => ?_, fun b o e hx => un.there b o e hx, fun b xs e => ?_, fun b o v e => ?_, fun b ps e => ?_⟩, fun b v e => ?_, r, q fun b hb => let ⟨_, _, e, _⟩ := fz b hb; e⟩
  · rw [mixC_ne (np n)]
    exact un.free b o e (up n) hx
  · have hb := ns e fun _ y => by cases y
    rw [mixC_ne hb]
    exact un.tups b xs (by rw [delC_ne hb]; exact e)
  · by_cases hb : p b
    · rw [mixC_at hb]; exact e
    · rw [mixC_ne hb]
      exact un.frzs b o v (by rw [delC_ne hb]; exact e)
  · have hb := ns e fun _ y => by cases y
    rw [mixC_ne hb]
    exact un.tbls b ps (by rw [delC_ne hb]; exact e)
  · by_cases hb : p b
    · obtain ⟨o, e1, _, e3⟩ := fz b hb
      rw [mixC_at hb, e1] at e
      cases e
      exact ⟨e3, o, e3⟩
    · rw [mixC_ne hb] at e
      exact (ok b v e).stay (fun _ _ _ q => q) (fun c q => by rw [mixC_ne (nh q)]; exact q) fun c xs q => by rw [mixC_ne (nh q)]; exact q
end

/-! ### the same of what is read -/
variable [Lams]
section
variable {K : PySem.W.Frag} {ρ ρ' : List Addr} {H H' : Hp} {S S' : So} {p : Addr → Prop} {h : Heap}
theorem grow_add (z1 : ∀ b, p b → H b = none) (z2 : ∀ b, p b → ∃ o, h.get? b = some o) : Grow H (addC p h H) := by
  refine ⟨fun b o e _ => ?_, fun b e => ?_⟩
  · rw [addC_ne fun y => by rw [z1 b y] at e; cases e]; exact e
  · by_cases hb : p b
    · exact z1 b hb
    · rw [addC_ne hb] at e; exact e
theorem tabsH_sub {T : List (Addr × Str)} (t : TabsH T H) (k : ∀ b o, H b = some o → H' b = some o) (o : ∀ b ps, H' b = some (.tbl ps) → H b = some (.tbl ps)) : TabsH T H' := ⟨t.tabs.ext k, fun b ps e => t.only b ps (o b ps e)⟩
theorem tabs_add {T : List (Addr × Str)} (t : TabsH T H) (z1 : ∀ b, p b → H b = none) (z2 : ∀ b, p b → ∃ o, h.get? b = some o) : TabsH T (addC p h H) := by
  refine tabsH_sub t (fun b o e => ?_) fun b ps e => ?_
  · rw [addC_ne fun y => by rw [z1 b y] at e; cases e]; exact e
  · by_cases hb : p b
    · obtain ⟨o, eo⟩ := z2 b hb
      rw [addC_at hb eo] at e
      cases e
    · rw [addC_ne hb] at e; exact e
theorem Tk.del (z : ∀ b, p b → ∃ o, H b = some (.frz o (.own 0))) {a : Addr} {xs : List V} (t : Tk K ρ H a xs) : Tk K ρ (delC p H) a xs := by
  rcases t with ⟨r, n⟩ | t
  · refine .inl ⟨?_, n⟩
    have hb : ¬ p a := fun y => by
      obtain ⟨o, e⟩ := z a y
      rcases r with r | ⟨o', r⟩ <;> rw [r] at e <;> cases e
    rcases r with r | ⟨o', r⟩
    · exact .inl (by rw [delC_ne hb]; exact r)
    · exact .inr ⟨o', by rw [delC_ne hb]; exact r⟩
  · exact .inr t
theorem del_at (z : ∀ b, p b → ∃ o, H b = some (.frz o (.own 0))) {a : Addr} {u : HO} (e : H a = some u) (n : ∀ o, u ≠ .frz o (.own 0)) : delC p H a = some u := by
  rw [delC_ne fun y => by
    obtain ⟨o, e2⟩ := z a y
    rw [e] at e2
    exact n o (Option.some.inj e2)]
  exact e
mutual
theorem Br.del (z : ∀ b, p b → ∃ o, H b = some (.frz o (.own 0))) : ∀ {v : V} {t : T}, Br K ρ H v t → Br K ρ (delC p H) v t
  | _, _, .non => .non
  | _, _, .bl b => .bl b
  | _, _, .int i => .int i
  | _, _, .str x h => .str x h
  | _, _, .tup h a => .tup (h.del z) (BrA.del z a)
  | _, _, .lst h a => .lst ⟨del_at z h.1 (fun _ y => by cases y), h.2⟩ (BrA.del z a)
theorem BrA.del (z : ∀ b, p b → ∃ o, H b = some (.frz o (.own 0))) : ∀ {vs : List V} {ts : List T}, BrA K ρ H vs ts → BrA K ρ (delC p H) vs ts
  | _, _, .nil => .nil
  | _, _, .cons h a => .cons (Br.del z h) (BrA.del z a)
end
theorem BrKv.del (z : ∀ b, p b → ∃ o, H b = some (.frz o (.own 0))) : ∀ {vs : List (Key × V)} {ts : List (Key × T)}, BrKv K ρ H vs ts → BrKv K ρ (delC p H) vs ts
  | _, _, .nil => .nil
  | _, _, .cons h a => .cons (h.del z) (BrKv.del z a)
theorem PlT.del (z : ∀ b, p b → ∃ o, H b = some (.frz o (.own 0))) {v : V} {ts : List T} : PlT K ρ H v ts → PlT K ρ (delC p H) v ts := fun ⟨a, o, xs, e, h, d, c, n, b⟩ => ⟨a, o, xs, e, del_at z h (fun _ y => by cases y), d, c, n, b.del z⟩
theorem PlTs.del (z : ∀ b, p b → ∃ o, H b = some (.frz o (.own 0))) : ∀ {vs : List V} {xs : List (List T)}, PlTs K ρ H vs xs → PlTs K ρ (delC p H) vs xs
  | _, _, .nil => .nil
  | _, _, .cons h a => .cons (h.del z) (PlTs.del z a)
theorem PlQ.del (z : ∀ b, p b → ∃ o, H b = some (.frz o (.own 0))) {v : V} {tss : List (List T)} : PlQ K ρ H v tss → PlQ K ρ (delC p H) v tss := fun ⟨a, xs, e, h, b⟩ => ⟨a, xs, e, h.del z, b.del z⟩
theorem CB.del (z : ∀ b, p b → ∃ o, H b = some (.frz o (.own 0))) : ∀ {v : V} {x : Cap}, CB K ρ H v x → CB K ρ (delC p H) v x
  | _, .d _, h => Br.del z h
  | _, .r _, h => h
  | _, .p _, h => PlT.del z h
  | _, .q _, h => PlQ.del z h
theorem CBs.del (z : ∀ b, p b → ∃ o, H b = some (.frz o (.own 0))) : ∀ {vs : List V} {xs : List Cap}, CBs K ρ H vs xs → CBs K ρ (delC p H) vs xs
  | _, _, .nil => .nil
  | _, _, .cons h a => .cons (h.del z) (CBs.del z a)
theorem VB.del (z : ∀ b, p b → ∃ o, H b = some (.frz o (.own 0))) : ∀ {v : V} {x : Vl}, noF x = true → VB K ρ H v x → VB K ρ (delC p H) v x
  | _, .d _, _, h => Br.del z h
  | _, .r _, _, h => h
  | _, .s ns, _, ⟨a, e, q⟩ => ⟨a, e, q.imp (fun ⟨r, n⟩ => ⟨by
      rcases r with r | ⟨o, r⟩
      · exact .inl (del_at z r fun _ y => by cases y)
      · exact .inr ⟨o, del_at z r fun _ y => by cases y⟩, n⟩) id⟩
  | _, .t _, _, h => h
  | _, .f _ _, e, _ => by cases e
  | _, .g _, _, h => h
  | _, .u _, _, ⟨a, ws, e, t, c⟩ => ⟨a, ws, e, t.del z, c.del z⟩
  | _, .p _, _, h => PlT.del z h
  | _, .q _, _, h => PlQ.del z h
theorem VBs.del (z : ∀ b, p b → ∃ o, H b = some (.frz o (.own 0))) : ∀ {vs : List V} {xs : List Vl}, xs.all noF = true → VBs K ρ H vs xs → VBs K ρ (delC p H) vs xs
  | _, _, _, .nil => .nil
  | _, _, e, .cons h a => by
    rw [List.all_cons, Bool.and_eq_true] at e
    exact .cons (h.del z e.1) (VBs.del z e.2 a)
theorem TabsH.del {T : List (Addr × Str)} (z : ∀ b, p b → ∃ o, H b = some (.frz o (.own 0))) (t : TabsH T H) : TabsH T (delC p H) := by
  refine ⟨fun q hq => ?_, fun b ps e => t.only b ps (delC_some e).2⟩
  obtain ⟨ps, e1, e2, e3⟩ := t.tabs q hq
  refine ⟨ps, del_at z e1 (fun _ y => by cases y), e2, fun pos cv hc => ?_⟩
  obtain ⟨c, e4, e5⟩ := e3 pos cv hc
  exact ⟨c, e4, del_at z e5 fun _ y => by unfold LamX.CodeO at y; cases y⟩
theorem Rel.del (z : ∀ b, p b → ∃ o, H b = some (.frz o (.own 0))) (np : ∀ b, p b → b ∉ ρ) (r : Rel K ρ H S) : Rel K ρ (delC p H) S := by
  have t := (Rel.th r).del z
  refine ⟨r.len, r.nd, fun n a c ha hc => ?_, t.tabs, t.only⟩
  have b := r.cell n a c ha hc
  cases c with
  | lst ts =>
    obtain ⟨xs, e, b⟩ := b
    exact ⟨xs, del_at z e (fun _ y => by cases y), b.del z⟩
  | dct ts =>
    obtain ⟨xs, e, b⟩ := b
    exact ⟨xs, del_at z e (fun _ y => by cases y), b.del z⟩
  | lock =>
    obtain ⟨o, u, e⟩ := b
    exact ⟨o, u, by rw [delC_ne fun y => np a y (List.mem_of_getElem? ha)]; exact e⟩
/-- behind a call through which cells were known -/
theorem Step.del (z1 : ∀ b, p b → H b = none) (z2 : ∀ b, p b → ∃ o, h.get? b = some o) (s : Step ρ (addC p h H) ρ' H') : Step ρ H ρ' (delC p H') := by
  refine ⟨s.pre, fun a e n => ?_, fun a o n e nt => ?_, fun a e => ?_, fun a o u e => ?_⟩
  rotate_left 3
  · have hb : ¬ p a := fun y => by rw [z1 a y] at e; cases e
    rw [delC_ne hb]
    exact s.frz a o u (by rw [addC_ne hb]; exact e)
  · have q := s.new a e n
    by_cases hb : p a
    · exact z1 a hb
    · rw [addC_ne hb] at q; exact q
  · have hb : ¬ p a := fun y => by rw [z1 a y] at e; cases e
    rw [delC_ne hb]
    exact s.keep a o n (by rw [addC_ne hb]; exact e) nt
  · by_cases hb : p a
    · exact z1 a hb
    · rw [delC_ne hb] at e
      have q := s.gone a e
      rw [addC_ne hb] at q; exact q
/-- behind a call through which cells were forgotten -/
theorem grow_mix (z : ∀ b, p b → ∃ o, H b = some (.frz o (.own 0))) (n : ∀ b, p b → H' b = none) : Grow H' (mixC p H H') := by
  refine ⟨fun b o e _ => ?_, fun b e => ?_⟩
  · rw [mixC_ne fun y => by rw [n b y] at e; cases e]; exact e
  · by_cases hb : p b
    · exact n b hb
    · rw [mixC_ne hb] at e; exact e
theorem tabs_mix {T : List (Addr × Str)} (t : TabsH T H') (z : ∀ b, p b → ∃ o, H b = some (.frz o (.own 0))) (n : ∀ b, p b → H' b = none) : TabsH T (mixC p H H') := by
  refine tabsH_sub t (fun b o e => ?_) fun b ps e => ?_
  · rw [mixC_ne fun y => by rw [n b y] at e; cases e]; exact e
  · by_cases hb : p b
    · obtain ⟨o, eo⟩ := z b hb
      rw [mixC_at hb, eo] at e
      cases e
    · rw [mixC_ne hb] at e; exact e
theorem Step.mix (z : ∀ b, p b → ∃ o, H b = some (.frz o (.own 0))) (n : ∀ b, p b → H' b = none) (r : Rel K ρ' H' S') (s : Step ρ (delC p H) ρ' H') : Step ρ H ρ' (mixC p H H') := by
  refine ⟨s.pre, fun a e m => ?_, fun a o m e nt => ?_, fun a e => ?_, fun a o u e => ?_⟩
  rotate_left 3
  · by_cases hb : p a
    · rw [mixC_at hb]; exact e
    · rw [mixC_ne hb]
      exact s.frz a o u (by rw [delC_ne hb]; exact e)
  · have hb : ¬ p a := fun y => by
      obtain ⟨o, eo⟩ := r.tr e
      rw [n a y] at eo; cases eo
    have q := s.new a e m
    rw [delC_ne hb] at q; exact q
  · by_cases hb : p a
    · rw [mixC_at hb]; exact e
    · rw [mixC_ne hb]
      exact s.keep a o m (by rw [delC_ne hb]; exact e) nt
  · by_cases hb : p a
    · rw [mixC_at hb] at e; exact e
    · rw [mixC_ne hb] at e
      have q := s.gone a e
      rw [delC_ne hb] at q; exact q
end
end Mn

set_option maxHeartbeats 1000000
/-! MnCal: lambdas among the arguments of a call; what a lambda promises; a call of a name that holds a function. -/
namespace Mn
open PySem PySem.Spec PyProof.Rows L2
def Cap.vl : Cap → Vl
  | .d t => .d t
  | .r n => .r n
  | .p ts => .p ts
  | .q tss => .q tss
def capOf : Vl → Option Cap
  | .d t => some (.d t)
  | .r n => some (.r n)
  | .p ts => some (.p ts)
  | .q tss => some (.q tss)
  | _ => none
def capsAt (L : Lc) : List Nat → Option (List Cap)
  | [] => some []
  | j :: js => match L[j]? with
    | some (some x) => (match capOf x with
      | some c => (match capsAt L js with
        | some cs => some (c :: cs)
        | none => none)
      | none => none)
    | _ => none
/-- a lambda, then other arguments -/
def aLam (i : Nat) (js : List Nat) (r : Sems) : Sems := fun L S => match capsAt L js with
  | some cs => (match r L S with
    | some (xs, S1) => some (.f i cs :: xs, S1)
    | none => none)
  | none => none
/-- f(..), lambdas among the arguments -/
def eCallF (F : Fn) (m : Sems) : Sem := fun L S => match m L S with
  | some (xs, S1) => (match F xs S1 with
    | some (y, S2) => if noF y = true then some (y, S2) else none
    | none => none)
  | none => none
/-- a call of the name i that holds a function -/
def eCallV (tab : Nat → List Cap → Fn) (gt : Str → Fn) (i : Nat) (m : Sems) : Sem := fun L S => match L[i]? with
  | some (some (.f n cs)) => (match m L S with
    | some (xs, S1) => if xs.all noF = true then tab n cs xs S1 else none
    | none => none)
  | some (some (.g x)) => (match m L S with
    | some (xs, S1) => gt x xs S1
    | none => none)
  | _ => none
/-- a lambda's body -/
def lamF (np n : Nat) (m : Sem) : List Cap → Fn := fun cs xs S => if xs.length = np then m (xs.map some ++ (cs.map (fun c => some c.vl) ++ List.replicate (n - xs.length - cs.length) none)) S else none
def eG (x : Str) : Sem := fun _ S => some (.g x, S)

variable [Lams]
theorem capOf_cb {K : PySem.W.Frag} {ρ : List Addr} {H : Hp} {v : V} : ∀ {x : Vl} {c : Cap}, capOf x = some c → VB K ρ H v x → CB K ρ H v c
  | .d t, _, e, b => by cases e; exact b
  | .r t, _, e, b => by cases e; exact b
  | .p t, _, e, b => by cases e; exact b
  | .q t, _, e, b => by cases e; exact b
theorem cb_vl {K : PySem.W.Frag} {ρ : List Addr} {H : Hp} {v : V} : ∀ {c : Cap}, CB K ρ H v c → VB K ρ H v c.vl
  | .d _, b => b
  | .r _, b => b
  | .p _, b => b
  | .q _, b => b
theorem capsAt_ok {K : PySem.W.Frag} {ρ : List Addr} {H : Hp} {σ : L2.St} {L : Lc} (rl : RelL K ρ H σ L) : ∀ {js : List Nat} {cs : List Cap}, capsAt L js = some cs →
    ∃ ws : List V, ws.length = js.length ∧ ws.length = cs.length ∧ (∀ (j m : Nat) (w : V), js[j]? = some m → ws[j]? = some w → σ[m]? = some (some w)) ∧ ∀ (j : Nat) (w : V) (x : Cap), ws[j]? = some w → cs[j]? = some x → CB K ρ H w x
  | [], cs, e => by cases e; exact ⟨[], rfl, rfl, fun j m w e => by simp at e, fun j w x e => by simp at e⟩
  | j0 :: js, cs, e => by
    unfold capsAt at e
    split at e
    · rename_i x hx
      split at e
      · rename_i c hc
        split at e
        · rename_i cs' hcs
          cases e
          obtain ⟨v, h1, h2⟩ := rl.at_ _ _ hx
          obtain ⟨ws, l1, l2, a, b⟩ := capsAt_ok rl hcs
          refine ⟨v :: ws, by simp [l1], by simp [l2], fun j m w e1 e2 => ?_, fun j w y e1 e2 => ?_⟩
          · cases j with
            | zero =>
              cases e1
              cases e2
              exact h1
            | succ j => exact a j m w (by simpa using e1) (by simpa using e2)
          · cases j with
            | zero =>
              cases e1
              cases e2
              exact capOf_cb hc h2
            | succ j => exact b j w y (by simpa using e1) (by simpa using e2)
        · cases e
      · cases e
    · cases e
theorem Rel.ext {K : PySem.W.Frag} {ρ : List Addr} {H : Hp} {S : So} (r : Rel K ρ H S) {a : Addr} {φ : Heap → Prop} (e : H a = some (.ext φ)) : a ∉ ρ := fun z => by
  obtain ⟨n, hn⟩ := List.getElem?_of_mem z
  obtain ⟨c, _, q⟩ := r.at_ hn
  cases c with
  | lst ts =>
    obtain ⟨_, e2, _⟩ := q
    rw [e] at e2; cases e2
  | dct ts =>
    obtain ⟨_, e2, _⟩ := q
    rw [e] at e2; cases e2
  | lock =>
    obtain ⟨_, _, e2⟩ := q
    rw [e] at e2; cases e2
/-- a lambda that the running frame has just made -/
structure PreB (X : Cx) (σ : L2.St) (ρ : List Addr) (H : Hp) (v : V) (i : Nat) (cs : List Cap) : Prop where
  ex : ∃ (L : LamSrc) (f c : Addr) (ws : List V), Lams.src i = some L ∧ v = .ref f ∧ H f = some (LamO f (X.env.qual ++ "<lambda>") L (cloFrom X.env.cells L.scope.names []) c) ∧ H c = some (LamX.CodeO c (X.env.qual ++ "<lambda>")) ∧ f ∉ ρ ∧ c ∉ ρ ∧
    NdefX.ndefB X.env.scope L.scope L.fr = true ∧ ws.length = L.fr.length ∧ ws.length = cs.length ∧ (∀ (j : Nat) (y : Str) (w : V), L.fr[j]? = some y → ws[j]? = some w → ∃ m : Nat, X.N[m]? = some y ∧ σ[m]? = some (some w)) ∧ ∀ (j : Nat) (w : V) (x : Cap), ws[j]? = some w → cs[j]? = some x → CB X.K ρ H w x
def VP (X : Cx) (σ : L2.St) (ρ : List Addr) (H : Hp) (v : V) (x : Vl) : Prop := VB X.K ρ H v x ∨ ∃ i cs, x = .f i cs ∧ PreB X σ ρ H v i cs
inductive VPs (X : Cx) (σ : L2.St) (ρ : List Addr) (H : Hp) : List V → List Vl → Prop
  | nil : VPs X σ ρ H [] []
  | cons {v : V} {vs : List V} {x : Vl} {xs : List Vl} : VP X σ ρ H v x → VPs X σ ρ H vs xs → VPs X σ ρ H (v :: vs) (x :: xs)
section
variable {X : Cx} {σ : L2.St} {ρ ρ' : List Addr} {H H' : Hp}
theorem PreB.mono (s : Step ρ H ρ' H') {v : V} {i : Nat} {cs : List Cap} (h : PreB X σ ρ H v i cs) : PreB X σ ρ' H' v i cs := by
  obtain ⟨L, f, c, ws, h1, h2, h3, h4, h5, h6, h7, h8, h9, h10, h11⟩ := h
  obtain ⟨z1, z2⟩ := s.at_ h3 h5 lamO_ne
  obtain ⟨y1, y2⟩ := s.at_ h4 h6 LamX.codeO_ne
  exact ⟨L, f, c, ws, h1, h2, z1, y1, z2, y2, h7, h8, h9, h10, fun j w x a b => (h11 j w x a b).mono s⟩
theorem VP.mono (s : Step ρ H ρ' H') {v : V} {x : Vl} : VP X σ ρ H v x → VP X σ ρ' H' v x
  | .inl h => .inl (h.mono s)
  | .inr ⟨i, cs, e, h⟩ => .inr ⟨i, cs, e, h.mono s⟩
theorem VPs.length : ∀ {vs : List V} {xs : List Vl}, VPs X σ ρ H vs xs → vs.length = xs.length
  | _, _, .nil => rfl
  | _, _, .cons _ a => by rw [List.length_cons, List.length_cons, VPs.length a]
end
def tAP (X : Cx) (m : Sems) : TA := fun σ H Q => ∃ ρ L S xs S', RelL X.K ρ H σ L ∧ Rel X.K ρ H S ∧ m L S = some (xs, S') ∧ ∀ ρ' H' vs, Step ρ H ρ' H' → Rel X.K ρ' H' S' → VPs X σ ρ' H' vs xs → Q vs H'
def PMAP (X : Cx) (es : List Expr) (m : Sems) : Prop := PA X es (tAP X m)
/-- where a def's lambdas have their code objects -/
structure LamHome (X : Cx) : Prop where
  ex : ∃ c P, X.env.code = .ref c ∧ LamX.TabB X.base X.mg c P ∧ (P, X.env.qual ++ "<lambda>") ∈ tabsOf X.K ∧ ∀ p ∈ tabsOf X.K, p.1 = P → p.2 = X.env.qual ++ "<lambda>"
  fn : ∀ y, X.fn y = true
section
variable {X : Cx} {pos lpos p : Pos} {e : Expr} {es : List Expr} {me : Sem} {mr : Sems}
theorem pmap_nil : PMAP X [] aNil := impA pa_nil fun σ H Q ⟨ρ, L, S, xs, S', rl, r, e, k⟩ => by
  cases e
  exact k ρ H [] (Step.refl _ _) r .nil
theorem pmap_cons (ha : PM X e me) (hr : PMAP X es mr) (hs : starEach (e :: es) X.env = (false, eval e X.env) :: starEach es X.env := by kernel_rfl) : PMAP X (e :: es) (aCons me mr) := impA (pa_cons ha hr hs) fun σ H Q ⟨ρ, L, S, xs, S', rl, r, e, k⟩ => by
  obtain ⟨x, S1, ys, h1, h2, rfl⟩ := aCons_inv e
  exact ⟨ρ, L, S, x, S1, rl, r, h1, fun ρ1 H1 v s1 r1 b1 => ⟨ρ1, L, S1, ys, S', rl.mono s1, r1, h2, fun ρ2 H2 vs s2 r2 b2 => k ρ2 H2 (v :: vs) (s1.trans s2) r2 (.cons (.inl (b1.mono s2)) b2)⟩⟩
theorem pmap_lam {i : Nat} {js : List Nat} {L : LamSrc} (hm : LamHome X) (hsrc : Lams.src i = some L) (hr : PMAP X es mr) (hN : js.map (fun j => X.N[j]?) = L.fr.map some) (hnd : NdefX.ndefB X.env.scope L.scope L.fr = true) (hdef : defaultsOf L.params X.env = ([], []))
    (hs : starEach (.Lambda L.params L.body L.scope lpos :: es) X.env = (false, eval (.Lambda L.params L.body L.scope lpos) X.env) :: starEach es X.env := by kernel_rfl) : PMAP X (.Lambda L.params L.body L.scope lpos :: es) (aLam i js mr) := by
  obtain ⟨⟨c, P, hc, TB, hm1, hm2⟩, _⟩ := hm
  refine ⟨fun pos pins s σ H Q I ⟨ρ, Lc, S, xs, S', rl, r, e, k⟩ => ?_⟩
  unfold aLam at e
  split at e
  · rename_i cs hcs
    split at e
    · rename_i ys S1 hys
      cases e
      rw [hs]
      show wpAny _ _ (spliced ((false, eval (.Lambda L.params L.body L.scope lpos) X.env) :: backTo pos (starEach es X.env))) _ _ s
      have hfree : ∀ y ∈ L.scope.names, y.2 = .free → ∃ a, X.env.cells.lookup y.1 = some a := fun y hy ey => (NdefX.ndef_free hnd y hy ey).elim (fun z => I.ok.has _ (.inl z)) fun z => I.ok.has _ (.inr z)
      refine Calls.spliced_cons (lam_mk I TB hc hm1 hm2 (Rel.th r) hdef hfree fun f c' H1 s1 I1 g t1 ef ec => ?_)
      have r1 := g.rel t1 r
      obtain ⟨ws, l1, l2, a, b⟩ := capsAt_ok (rl.mono g.step) hcs
      have pre : PreB X σ ρ H1 (.ref f) i cs := ⟨L, f, c', ws, hsrc, rfl, ef, ec, r1.ext ef, r1.ext ec, hnd, by
          rw [l1]
          have q := congrArg List.length hN
          rw [List.length_map, List.length_map] at q
          exact q, l2, fun j y w e1 e2 => by
          have q : (js.map fun j => X.N[j]?)[j]? = (L.fr.map some)[j]? := by rw [hN]
          rw [List.getElem?_map, List.getElem?_map, e1] at q
          cases hj : js[j]? with
          | none => rw [hj] at q; cases q
          | some m =>
            rw [hj] at q
            exact ⟨m, Option.some.inj q, a j m w hj e2⟩, b⟩
      refine thn (hr.run pos pins s1 σ H1 _ I1 ⟨ρ, Lc, S, ys, S', rl.mono g.step, r1, hys, fun ρ2 H2 vs s2 r2 b2 => k ρ2 H2 (.ref f :: vs) (g.step.trans s2) r2 (.cons (.inr ⟨i, cs, rfl, pre.mono s2⟩) b2)⟩) fun us s2 ⟨vs, H2, I2, r2, q2⟩ => ⟨.ref f :: vs, H2, I2, .cons rfl r2, q2⟩
    · cases e
  · cases e
end
/-! ### the call -/
section
variable {X : Cx} {pins : List (Addr × Obj)} {σ : L2.St} {H : Hp} {s : Shared}
/-- the running frame's cells -/
def isCell (X : Cx) (b : Addr) : Prop := ∃ y, X.env.cells.lookup y = some b
theorem fz_of (I : Inv X pins σ H s) (hf : ∀ y, X.fn y = true) : Fz (isCell X) (frs X.stack) X.base s.heap H := by
  have ge : ∀ {b}, isCell X b → X.s_0.heap.objs.size ≤ b := fun {b} ⟨y, e⟩ => I.ok.cab y b (hf y) e
  refine ⟨fun b ⟨y, e⟩ => I.freeC y b e, fun b ⟨y, e⟩ => ?_, fun b hb z => ?_, fun b hb => Heap.get?_none_of_le (Nat.le_trans I.ok.bsz (ge hb))⟩
  · obtain ⟨v, o, h1, h2⟩ := I.cell y b e
    exact ⟨o, v, h1, h2⟩
  · rcases List.mem_cons.mp (I.stkSub b z) with h | h
    · obtain ⟨y, e⟩ := hb
      exact I.cne y b e h
    · obtain ⟨_, o, ho, _⟩ := I.ok.funs.mem h
      exact absurd (Nat.lt_of_lt_of_le (Heap.lt_size ho) (ge hb)) (Nat.lt_irrefl _)
theorem pre_frz {ρ : List Addr} {S : So} (I : Inv X pins σ H s) (hf : ∀ y, X.fn y = true) (r : Rel X.K ρ H S) {v : V} {i : Nat} {cs : List Cap} (h : PreB X σ ρ H v i cs) : VB X.K ρ (addC (isCell X) s.heap H) v (.f i cs) := by
  have z := fz_of I hf
  have z2 : ∀ b, isCell X b → ∃ o, s.heap.get? b = some o := fun b hb => let ⟨o, _, e, _⟩ := z.cell b hb; ⟨o, e⟩
  have g : Grow H (addC (isCell X) s.heap H) := grow_add z.free z2
  obtain ⟨L, f, c, ws, h1, h2, h3, h4, h5, h6, h7, h8, h9, h10, h11⟩ := h
  have hfree : ∀ y ∈ L.scope.names, y.2 = .free → ∃ a, X.env.cells.lookup y.1 = some a := fun y hy ey => (NdefX.ndef_free h7 y hy ey).elim (fun z => I.ok.has _ (.inl z)) fun z => I.ok.has _ (.inr z)
  refine ⟨L, f, c, _, _, ws, h1, h2, g.keep _ _ h3 lamO_ne, g.keep _ _ h4 LamX.codeO_ne, h5, h6, h8, h9, fun x y a e1 e2 => I.ok.inj x y a (NdefX.clo_cm hfree e1) (NdefX.clo_cm hfree e2), fun y a e => ?_, fun j y e => ?_, fun j w x a b => (h11 j w x a b).mono g.step⟩
  · have ha : isCell X a := ⟨y, NdefX.clo_cm hfree e⟩
    obtain ⟨o, u, e1, e2⟩ := z.cell a ha
    refine ⟨fun m => ?_, o, u, addC_at ha e1, e2⟩
    obtain ⟨o', eo⟩ := r.tr m
    rw [z.free a ha] at eo
    cases eo
  · have hj : j < ws.length := by rw [h8]; exact (List.getElem?_eq_some_iff.mp e).1
    have ew : ws[j]? = some ws[j] := List.getElem?_eq_getElem hj
    obtain ⟨m, hm, hs⟩ := h10 j y _ e ew
    have hk := NdefX.ndef_free h7 _ (NdefX.ndef_fr h7 y (List.mem_of_getElem? e)) rfl
    obtain ⟨mm, _, hl⟩ := I.loc
    obtain ⟨u, ru, lk⟩ := hl m y _ hm hs (hk.elim (fun q => .inr (.inl q)) fun q => .inr (.inr q))
    obtain ⟨a, ha, o, ho, hd⟩ : ∃ a, X.env.cells.lookup y = some a ∧ s.heap.IsCell a (some u) := by
      rcases lk with ⟨q, _⟩ | ⟨_, a, ha, hc⟩
      · have q' : X.env.scope.names.lookup y = some .local := q
        rcases hk with hk | hk <;> rw [hk] at q' <;> cases q'
      · exact ⟨a, ha, hc⟩
    exact ⟨a, o, u, ws[j], NdefX.clo_has hfree (NdefX.ndef_fr h7 y (List.mem_of_getElem? e)) ha, addC_at ⟨y, ha⟩ ho, hd, ru, ew⟩
theorem vps_frz {ρ : List Addr} {S : So} (I : Inv X pins σ H s) (hf : ∀ y, X.fn y = true) (r : Rel X.K ρ H S) : ∀ {vs : List V} {xs : List Vl}, VPs X σ ρ H vs xs → VBs X.K ρ (addC (isCell X) s.heap H) vs xs
  | _, _, .nil => .nil
  | _, _, .cons h a => by
    have z := fz_of I hf
    have g : Grow H (addC (isCell X) s.heap H) := grow_add z.free fun b hb => let ⟨o, _, e, _⟩ := z.cell b hb; ⟨o, e⟩
    refine .cons ?_ (vps_frz I hf r a)
    rcases h with h | ⟨i, cs, rfl, h⟩
    · exact h.mono g.step
    · exact pre_frz I hf r h
variable {k : Nat} {F : Fn} {x : Str} {st : Stmt} {ps : List Str} {p pos : Pos} {e : Expr} {es : List Expr} {m : Sems}
/-- f(.., lambda ..: ..) -/
theorem pm_dfF (d : Df X.prog X.w X.K X.mg X.base x st ps k F) (hr : Room k X.A) (hgd : X.A.guards = some []) (hg : Gl X x) (hm : LamHome X) (ha : PMAP X (e :: es) m) (hdb : (x == ("__debug__" : Str)) = false := by kernel_rfl)
    (he : starEach (e :: es) X.env = (false, eval e X.env) :: starEach es X.env := by kernel_rfl) (hpl : (backTo pos (starEach es X.env)).any (·.1) = false := by kernel_rfl) : PM X (.Call (.Name x p) (e :: es) [] pos) (eCallF F m) := by
  obtain ⟨⟨f, fd, e1, e2, e3⟩, e4, e5⟩ := d
  refine ⟨fun pins s σ H Q I ⟨ρ, L, S, y, S', rl, r, e, k⟩ => ?_⟩
  unfold eCallF at e
  split at e
  · rename_i xs S1 h1
    split at e
    · rename_i y' S2 h2
      split at e
      · rename_i hy
        cases e
        refine wpAny_Call_Name_kw (ld_glob I hg e1 (PySem.W.callWith_K (h₀ := X.base) I.ok.mod.kin e2.kp ?_ he hpl) hdb)
        refine thn (ha.run pos pins s σ H (fun vs H' => ∃ ρ', Step ρ H ρ' H' ∧ Rel X.K ρ' H' S1 ∧ VPs X σ ρ' H' vs xs) I ⟨ρ, L, S, xs, S1, rl, r, h1, fun ρ' H' vs s1 r1 b1 => ⟨ρ', s1, r1, b1⟩⟩) fun us s1 ⟨vs, H1, I1, rv, ρ1, st1, r1, b1⟩ => ⟨I1.kIn, ?_⟩
        have z := fz_of I1 hm.fn
        have z2 : ∀ b, isCell X b → ∃ o, s1.heap.get? b = some o := fun b hb => let ⟨o, _, e, _⟩ := z.cell b hb; ⟨o, e⟩
        have g : Grow H1 (addC (isCell X) s1.heap H1) := grow_add z.free z2
        have hl : us.length = ps.length := by rw [← rv.length, b1.length]; exact e5 _ _ _ h2
        have hbd := (e2.binds e4) s1 us I1.kIn (by rw [List.append_nil]; exact hl)
        rw [List.append_nil] at hbd
        have np : ∀ {ρ' : List Addr} {H' : Hp}, Step ρ1 (addC (isCell X) s1.heap H1) ρ' H' → ∀ b, isCell X b → b ∉ ρ' := fun {ρ' H'} s2 b hb m => by
          by_cases hm : b ∈ ρ1
          · obtain ⟨o, eo⟩ := r1.tr hm
            rw [z.free b hb] at eo
            cases eo
          · obtain ⟨o, eo⟩ := z2 b hb
            have q := s2.new b m hm
            rw [addC_at hb eo] at q
            cases q
        refine wpAny_call (codeAny_mono (e3 X.A X.stack s1 (addC (isCell X) s1.heap H1) ⟨us, []⟩ us vs (fun v H' => (∀ b, isCell X b → ∃ o, H' b = some (.frz o (.own 0))) → Q v (delC (isCell X) H')) hr hgd (env0_add z I1.env0) hl hbd rv
          ⟨ρ1, S1, xs, y, S', g.rel (tabs_add (Rel.th r1) z.free z2) r1, vps_frz I1 hm.fn r1 b1, h2, fun ρ' H' v s2 r2 b2 zz => k ρ' (delC (isCell X) H') v (st1.trans (Step.del z.free z2 s2)) (r2.del zz (np s2)) (b2.del zz hy)⟩) fun res s' hq => ?_)
        match res, hq with
        | .ok (.ret u), hq => exact I1.after (ce_back z hq)
        | .ok .next, hq => exact False.elim hq
        | .ok .brk, hq => exact False.elim hq
        | .ok .cont, hq => exact False.elim hq
        | .error _, hq => exact False.elim hq
      · cases e
    · cases e
  · cases e
end
end Mn

set_option maxHeartbeats 1000000
/-! MnVal: what a lambda promises; a call of a name that holds a function. -/
namespace Mn
open PySem PySem.Spec PyProof.Rows L2
abbrev SpL := List V → List V → Hp → VK → Prop
/-- a lambda of these words keeps its promise: ws, what its captured cells hold -/
def LamG (P : Program) (w : World) (K : PySem.W.Frag) (mg : Str → Option Value) (base : Heap) (k : Nat) (L : LamSrc) (sp : SpL) : Prop :=
  ∀ (A : Around) (outer : List Env) (s : Shared) (H : Hp) (f c : Addr) (q : Str) (cl : List (Str × Addr)) (us : List Value) (vs ws : List V) (Q : VK), Room k A → A.guards = some [] → Env0 P w K mg base A outer s H → H f = some (LamO f q L cl c) → H c = some (LamX.CodeO c q) →
    NdefX.CellsAt cl L.fr (ws.map some) s.heap H → Vals vs us → vs.length = L.ps.length → sp ws vs H Q → codeAny (model P w) A (.call (.ref f) ⟨us, []⟩) (CR NoCX outer P w H s Q NoX) s
/-- the context of a lambda's body -/
abbrev LCx (P : Program) (w : World) (K : PySem.W.Frag) (mg : Str → Option Value) (base : Heap) (N : List Str) (L : LamSrc) (q : Str) (cl : List (Str × Addr)) (c f : Addr) (A : Around) (outer : List Env) (s : Shared) (H : Hp) : Cx :=
  (NdefX.ncx NoCX P w K mg base N ⟨"<lambda>", q, L.params, [], L.scope, cl, c⟩ f A outer s H NoX).nox
section
variable {P : Program} {w : World} {K : PySem.W.Frag} {mg : Str → Option Value} {base : Heap} {L : LamSrc} {N : List Str} {k j : Nat} {sp sp' : SpL}
theorem LamG.mono (F : LamG P w K mg base j L sp) (h : j ≤ k) : LamG P w K mg base k L sp := fun A outer s H f c q cl us vs ws Q hr => F A outer s H f c q cl us vs ws Q (hr.mono h)
theorem lamG_of [Lams] (S : NdefX.NScope N L.ps L.fr L.scope) (hb : ∀ (q : Str) (cl : List (Str × Addr)) (pm cv ctv : Value) (us : List Value), us.length = L.ps.length → bindArgs (PySem.W.kla_fn "<lambda>" q L.params L.body L.scope cl pm cv ctv) ⟨us, []⟩ = pure (L.ps.zip us))
    (hbody : ∀ (q : Str) (cl : List (Str × Addr)) (c f : Addr) (A : Around) (outer : List Env) (s : Shared) (H : Hp) (vs ws : List V) (Q : VK), Room k (A.deeper (NdefX.envF ⟨"<lambda>", q, L.params, [], L.scope, cl, c⟩ f s.heap.objs.size)) → A.guards = some [] → vs.length = L.ps.length → ws.length = L.fr.length → sp ws vs H Q →
      ∃ t, PE (LCx P w K mg base N L q cl c f A outer s H) L.body t ∧ t (NdefX.startF N vs (ws.map some)) H Q) : LamG P w K mg base (k + 1) L sp := by
  intro A outer s H f c q cl us vs ws Q hr hg e0 ef ec C r hl hsp
  obtain ⟨pm, ctv, ho⟩ := lamO_at e0.hok ef
  have lim : s.heap.NoLimit := e0.mod.nolimit.keeps fun b o e => (e0.bs b o e).1
  have hw : ws.length = L.fr.length := by
    have := C.len
    rw [List.length_map] at this
    exact this
  refine PySem.W.kla_callFunE hr.depth ho rfl S.co S.gen rfl (NdefX.codeO_at e0.hok ec) ?_
  rw [hb q cl pm (.ref c) ctv us (by rw [← r.length]; exact hl)]
  refine wpAny_pure (wpAny_newFunctionEnv S.nocell (fun ⟨n, _⟩ hy => S.par n (List.of_mem_zip hy).1) (fun h₁ hns hsb => ⟨lim.fresh _ hsb, ?_⟩) S.kind)
  have kp : ∀ b o, s.heap.get? b = some o → h₁.get? b = some o := fun b o e => hsb.extBut b o (Nat.ne_of_lt (Heap.lt_size e)) (Heap.get?_push_of_some _ e)
  obtain ⟨t, ht, hq⟩ := hbody q cl c f A outer s H vs ws Q (hr.deeper _) hg hl hw hsp
  have I := NdefX.inv_startN (CX := NoCX) (E := NoX) (F := ⟨"<lambda>", q, L.params, [], L.scope, cl, c⟩) (f := f) (tk := s.toks + (L.ps.zip us).length) S hr.hd e0 hl r C hns kp
  refine PySem.W.kla_codeExpr (wpAny_mono (ht.nox.run [] _ _ H Q I hq) (fun v s' hs => ?_) fun e s' hs => hs)
  obtain ⟨v', H', J, rv, q'⟩ := hs
  exact ⟨v', H', J.os, J.bare, J.base, J.hok, rv, q'⟩
end
variable [Lams]
def spL (K : PySem.W.Frag) (F : List Cap → Fn) : SpL := fun ws vs H Q => ∃ ρ S xs cs x S', Rel K ρ H S ∧ VBs K ρ H vs xs ∧ ws.length = cs.length ∧ (∀ (j : Nat) (w : V) (y : Cap), ws[j]? = some w → cs[j]? = some y → CB K ρ H w y) ∧ F cs xs S = some (x, S') ∧
  ∀ ρ' H' v, Step ρ H ρ' H' → Rel K ρ' H' S' → VB K ρ' H' v x → Q v H'
theorem vbs_at {K : PySem.W.Frag} {ρ : List Addr} {H : Hp} : ∀ {vs : List V} {xs : List Vl} {i : Nat} {x : Vl}, VBs K ρ H vs xs → xs[i]? = some x → ∃ v, vs[i]? = some v ∧ VB K ρ H v x := VBs.get
section
variable {P : Program} {w : World} {K : PySem.W.Frag} {mg : Str → Option Value} {base : Heap} {L : LamSrc} {N : List Str} {k j : Nat}
theorem relL_lam {ρ : List Addr} {H : Hp} {vs ws : List V} {xs : List Vl} {cs : List Cap} (b : VBs K ρ H vs xs) (hl : ws.length = cs.length) (hc : ∀ (j : Nat) (w : V) (y : Cap), ws[j]? = some w → cs[j]? = some y → CB K ρ H w y) :
    RelL K ρ H (NdefX.startF N vs (ws.map some)) (xs.map some ++ (cs.map (fun c => some c.vl) ++ List.replicate (N.length - xs.length - cs.length) none)) := by
  have hlv := b.length
  refine ⟨by unfold NdefX.startF; simp only [List.length_append, List.length_map, List.length_replicate, hlv, hl], fun i x e => ?_⟩
  unfold NdefX.startF
  by_cases h1 : i < xs.length
  · rw [List.getElem?_append_left (by rw [List.length_map]; exact h1), List.getElem?_map] at e
    cases hx : xs[i]? with
    | none => rw [hx] at e; cases e
    | some y =>
      rw [hx] at e
      cases e
      obtain ⟨v, hv, bv⟩ := b.get hx
      exact ⟨v, by rw [List.getElem?_append_left (by rw [List.length_map, hlv]; exact h1), List.getElem?_map, hv]; rfl, bv⟩
  · rw [List.getElem?_append_right (by rw [List.length_map]; omega), List.length_map] at e
    by_cases h2 : i - xs.length < cs.length
    · rw [List.getElem?_append_left (by rw [List.length_map]; exact h2), List.getElem?_map] at e
      cases hx : cs[i - xs.length]? with
      | none => rw [hx] at e; cases e
      | some y =>
        rw [hx] at e
        cases e
        have hj : i - xs.length < ws.length := by rw [hl]; exact h2
        have ew : ws[i - xs.length]? = some ws[i - xs.length] := List.getElem?_eq_getElem hj
        refine ⟨ws[i - xs.length], ?_, cb_vl (hc _ _ _ ew hx)⟩
        have hlm : (vs.map some).length = xs.length := by rw [List.length_map, hlv]
        rw [List.getElem?_append_right (by rw [hlm]; omega), hlm, List.getElem?_append_left (by rw [List.length_map]; exact hj), List.getElem?_map, ew]
        rfl
    · rw [List.getElem?_append_right (by rw [List.length_map]; omega), List.getElem?_replicate] at e
      split at e <;> cases e
theorem lam_of {m : Sem} {np n : Nat} (S : NdefX.NScope N L.ps L.fr L.scope) (hb : ∀ (q : Str) (cl : List (Str × Addr)) (pm cv ctv : Value) (us : List Value), us.length = L.ps.length → bindArgs (PySem.W.kla_fn "<lambda>" q L.params L.body L.scope cl pm cv ctv) ⟨us, []⟩ = pure (L.ps.zip us))
    (hbody : ∀ (q : Str) (cl : List (Str × Addr)) (c f : Addr) (A : Around) (outer : List Env) (s : Shared) (H : Hp), Room k (A.deeper (NdefX.envF ⟨"<lambda>", q, L.params, [], L.scope, cl, c⟩ f s.heap.objs.size)) → A.guards = some [] → PM (LCx P w K mg base N L q cl c f A outer s H) L.body m)
    (hnp : L.ps.length = np := by kernel_rfl) (hn : N.length = n := by kernel_rfl) : LamG P w K mg base (k + 1) L (spL K (lamF np n m)) := by
  subst hnp hn
  refine lamG_of S hb fun q cl c f A outer s H vs ws Q hr hg hl hw ⟨ρ, S0, xs, cs, y, S', r, bx, l2, hc, e, kk⟩ => ⟨_, hbody q cl c f A outer s H hr hg, ?_⟩
  unfold lamF at e
  split at e
  · exact ⟨ρ, _, S0, y, S', relL_lam bx l2 hc, r, e, fun ρ' H' v st r' b' => kk ρ' H' v st r' b'⟩
  · cases e
end
/-- each lambda of the law does what tab tells; each def that is handed on does what gt tells -/
structure LamsOk (P : Program) (w : World) (K : PySem.W.Frag) (mg : Str → Option Value) (base : Heap) (k : Nat) (tab : Nat → List Cap → Fn) : Prop where
  ok : ∀ i L, Lams.src i = some L → (∀ cs xs S y, tab i cs xs S = some y → xs.length = L.ps.length) ∧ LamG P w K mg base k L (spL K (tab i))
structure DefsOk (P : Program) (w : World) (K : PySem.W.Frag) (mg : Str → Option Value) (base : Heap) (k : Nat) (gt : Str → Fn) : Prop where
  ok : ∀ x, (∀ xs S, gt x xs S = none) ∨ ∃ st ps, Df P w K mg base x st ps k (gt x) ∧ mg x = some (.ref (He.ga K x))
section
variable {X : Cx} {k i : Nat} {x : Str} {p pos : Pos} {e : Expr} {es : List Expr} {m : Sems} {tab : Nat → List Cap → Fn} {gt : Str → Fn}
/-- a def's name as a value -/
theorem pm_g (hg : Gl X x) (hm : X.mg x = some (.ref (He.ga X.K x))) (hd : (x == ("__debug__" : Str)) = false := by kernel_rfl) : PM X (.Name x pos) (eG x) := ⟨fun pins s σ H Q I ⟨ρ, L, S, y, S', rl, r, e, k⟩ => by
  cases e
  exact ld_glob I hg hm ⟨.ref (He.ga X.K x), H, I, rfl, k ρ H _ (Step.refl _ _) r rfl⟩ hd⟩
/-- i(..), a name that holds a function -/
theorem pm_callV (T : LamsOk X.prog X.w X.K X.mg X.base k tab) (G : DefsOk X.prog X.w X.K X.mg X.base k gt) (hr : Room k X.A) (hgd : X.A.guards = some []) (ha : PMA X (e :: es) m) (hN : X.N[i]? = some x := by kernel_rfl) (hv : Vis X.env.scope x := by first | exact Or.inl rfl | exact Or.inr (Or.inl rfl) | exact Or.inr (Or.inr rfl))
    (hd : (x == ("__debug__" : Str)) = false := by kernel_rfl) (hcd : (x == ("__classdict__" : Str)) = false := by kernel_rfl)
    (he : starEach (e :: es) X.env = (false, eval e X.env) :: starEach es X.env := by kernel_rfl) (hpl : (backTo pos (starEach es X.env)).any (·.1) = false := by kernel_rfl) : PM X (.Call (.Name x p) (e :: es) [] pos) (eCallV tab gt i m) := by
  refine ⟨fun pins s σ H Q I ⟨ρ, L, S, y, S', rl, r, e0, kk⟩ => ?_⟩
  unfold eCallV at e0
  split at e0
  · rename_i n cs hL
    split at e0
    · rename_i xs S1 h1
      split at e0
      · rename_i hxs
        obtain ⟨v, hs, Ls, f, c, q, cl, ws, hsrc, rfl, ef, ec, nf, nc, cb⟩ := rl.at_ i _ hL
        obtain ⟨hlen, hG⟩ := T.ok n Ls hsrc
        refine wpAny_Call_Name_kw (thn ((pe_var (pos := p) hN hv hd hcd).run pins s σ H (fun v H1 => v = .ref f ∧ H1 = H) I ⟨.ref f, hs, rfl, rfl⟩) fun u s1 ⟨v, H1, I1, r1, q1⟩ => ?_)
        obtain ⟨rfl, rfl⟩ := q1
        obtain rfl : u = Value.ref f := r1
        have fa : ∀ {σ' : L2.St} {pins' : List (Addr × Obj)} {H' : Hp} {s' : Shared}, Inv X pins' σ' H' s' → H' f = some (LamO f q Ls cl c) → PySem.W.FnAt f s'.heap := fun J e => by
          obtain ⟨pm, ct, ho⟩ := lamO_at J.hok e
          exact ⟨_, _, _, _, ho⟩
        refine PySem.W.callWith_F (first := []) (fa I1 ef) (thn (ha.run pos pins s1 σ _ (fun vs H' => ∃ ρ', Step ρ H1 ρ' H' ∧ Rel X.K ρ' H' S1 ∧ VBs X.K ρ' H' vs xs) I1 ⟨ρ, L, S, xs, S1, rl, r, h1, fun ρ' H' vs s1 r1 b1 => ⟨ρ', s1, r1, b1⟩⟩) fun us s2 ⟨vs, H2, I2, rv, ρ2, st2, r2, b2⟩ => ?_) he hpl
        obtain ⟨ef2, nf2⟩ := st2.at_ ef nf lamO_ne
        obtain ⟨ec2, nc2⟩ := st2.at_ ec nc LamX.codeO_ne
        have cb2 := cb.mono st2
        refine ⟨fa I2 ef2, ?_⟩
        have z : ∀ b, (∃ y, cl.lookup y = some b) → ∃ o, H2 b = some (.frz o (.own 0)) := fun b ⟨y, hy⟩ => let ⟨_, o, _, e, _⟩ := cb2.all y b hy; ⟨o, e⟩
        have C : NdefX.CellsAt cl Ls.fr (ws.map some) s2.heap (delC (fun b => ∃ y, cl.lookup y = some b) H2) := by
          refine ⟨by rw [List.length_map]; exact cb2.len, fun y a ha => ⟨delC_at ⟨y, ha⟩, ?_⟩, cb2.inj, fun j y hy => ?_⟩
          · obtain ⟨_, o, u, e1, e2⟩ := cb2.all y a ha
            exact ⟨u, o, (I2.hok a _ e1).1, e2⟩
          · obtain ⟨a, o, u, w, e1, e2, e3, e4, e5⟩ := cb2.has j y hy
            refine ⟨a, e1, fun v hv => ?_⟩
            rw [List.getElem?_map, e5] at hv
            cases hv
            exact ⟨u, e4, o, (I2.hok a _ e2).1, e3⟩
        have hl : vs.length = Ls.ps.length := by rw [b2.length]; exact hlen _ _ _ _ e0
        have sp : spL X.K (tab n) ws vs (delC (fun b => ∃ y, cl.lookup y = some b) H2) (fun v H' => (∀ b, (∃ y, cl.lookup y = some b) → H' b = none) → Q v (mixC (fun b => ∃ y, cl.lookup y = some b) H2 H')) :=
          ⟨ρ2, S1, xs, cs, y, S', r2.del z (fun b ⟨y, hy⟩ => (cb2.all y b hy).1), b2.del z hxs, cb2.len2, fun j w x a b => (cb2.cap j w x a b).del z, e0, fun ρ' H' v s3 r3 b3 nn => kk ρ' _ v (st2.trans (Step.mix z nn r3 s3)) ((grow_mix z nn).rel (tabs_mix (Rel.th r3) z nn) r3) (b3.mono (grow_mix z nn).step)⟩
        refine wpAny_call (codeAny_mono (hG X.A X.stack s2 _ f c q cl us vs ws _ hr hgd (env0_del z I2.env0) (del_at z ef2 fun _ y => by unfold LamO at y; cases y) (del_at z ec2 fun _ y => by unfold LamX.CodeO at y; cases y) C rv hl sp) fun res s' hq => ?_)
        match res, hq with
        | .ok (.ret u), hq => exact I2.after (ce_mix z I2.env0 hq)
        | .ok .next, hq => exact False.elim hq
        | .ok .brk, hq => exact False.elim hq
        | .ok .cont, hq => exact False.elim hq
        | .error _, hq => exact False.elim hq
      · cases e0
    · cases e0
  · rename_i z hL
    split at e0
    · rename_i xs S1 h1
      obtain ⟨v, hs, hv2⟩ := rl.at_ i _ hL
      obtain rfl : v = .ref (He.ga X.K z) := hv2
      rcases G.ok z with h | ⟨st, ps, ⟨⟨f, fd, e1, e2, e3⟩, e4, e5⟩, hm⟩
      · rw [h] at e0; cases e0
      · rw [hm] at e1
        cases e1
        refine wpAny_Call_Name_kw (thn ((pe_var (pos := p) hN hv hd hcd).run pins s σ H (fun v H1 => v = .ref (He.ga X.K z) ∧ H1 = H) I ⟨_, hs, rfl, rfl⟩) fun u s1 ⟨v, H1, I1, r1, q1⟩ => ?_)
        obtain ⟨rfl, rfl⟩ := q1
        obtain rfl : u = Value.ref (He.ga X.K z) := r1
        refine PySem.W.callWith_K (h₀ := X.base) I1.ok.mod.kin e2.kp (thn (ha.run pos pins s1 σ _ (fun vs H' => ∃ ρ', Step ρ H1 ρ' H' ∧ Rel X.K ρ' H' S1 ∧ VBs X.K ρ' H' vs xs) I1 ⟨ρ, L, S, xs, S1, rl, r, h1, fun ρ' H' vs s1 r1 b1 => ⟨ρ', s1, r1, b1⟩⟩) fun us s2 ⟨vs, H2, I2, rv, ρ2, st2, r2, b2⟩ => ⟨I2.kIn, ?_⟩) he hpl
        have hl : us.length = ps.length := by rw [← rv.length, b2.length]; exact e5 _ _ _ e0
        have hbd := (e2.binds e4) s2 us I2.kIn (by rw [List.append_nil]; exact hl)
        rw [List.append_nil] at hbd
        exact wpAny_call (goG e3 hr hgd I2 hl hbd rv ⟨ρ2, S1, xs, y, S', r2, b2, e0, fun ρ' H' v s3 r3 b3 => kk ρ' H' v (st2.trans s3) r3 b3⟩ fun u s' z => z)
    · cases e0
  · cases e0
end
end Mn

/-! MnDict: dict cells: d[k], d.get(k, x), d[k] = v. -/
namespace Mn
open PySem PySem.Spec PyProof.Rows L2
def keyT : T → Option Key
  | .int i => some (.inl i)
  | .str x => some (.inr x)
  | _ => none
theorem key_br [Lams] {K : PySem.W.Frag} {ρ : List Addr} {H : Hp} {v : V} {t : T} {k : Key} (b : Br K ρ H v t) (e : keyT t = some k) : v = kV k := by
  cases b with
  | int i => cases e; rfl
  | str x _ => cases e; rfl
  | non => cases e
  | bl _ => cases e
  | tup _ _ => cases e
  | lst _ _ => cases e
def valT (kts : List (Key × T)) (k : Key) : Option T := match kts with
  | [] => none
  | (j, t) :: r => if j = k then some t else valT r k
theorem val_br [Lams] {K : PySem.W.Frag} {ρ : List Addr} {H : Hp} {k : Key} : ∀ {kvs : List (Key × V)} {kts : List (Key × T)}, BrKv K ρ H kvs kts → (∀ t, valT kts k = some t → ∃ v, valV kvs k = some v ∧ Br K ρ H v t) ∧ (valT kts k = none → valV kvs k = none)
  | _, _, .nil => ⟨fun t h => (by cases h), fun _ => rfl⟩
  | _, _, .cons (k := j) (v := v) (t := t) (kvs := kvs) (kts := kts) b a => by
    obtain ⟨h1, h2⟩ := val_br (k := k) a
    unfold valT
    by_cases e : j = k
    · rw [if_pos e]
      refine ⟨fun u hu => ?_, fun hu => by cases hu⟩
      cases hu
      exact ⟨v, valV_pos e, b⟩
    · rw [if_neg e]
      have ev : valV ((j, v) :: kvs) k = valV kvs k := valV_neg e
      rw [ev]
      exact ⟨h1, h2⟩
/-- d.get(k, x), d a cell's dict -/
def eDGet2 (o k x : Sem) : Sem := fun L S => match o L S with
  | some (.r n, S1) => (match S1[n]? with
    | some (.dct _) => (match k L S1 with
      | some (.d kt, S2) => (match keyT kt with
        | some key => (match x L S2 with
          | some (.d xt, S3) => (match S3[n]? with
            | some (.dct kts) => some (.d ((valT kts key).getD xt), S3)
            | _ => none)
          | _ => none)
        | none => none)
      | _ => none)
    | _ => none)
  | _ => none
/-- d[k] -/
def eDSub (o k : Sem) : Sem := fun L S => match o L S with
  | some (.r n, S1) => (match k L S1 with
    | some (.d kt, S2) => (match keyT kt, S2[n]? with
      | some key, some (.dct kts) => (match valT kts key with
        | some t => some (.d t, S2)
        | none => none)
      | _, _ => none)
    | _ => none)
  | _ => none
theorem kept {ρ ρ' : List Addr} {H H' : Hp} {n : Nat} {a : Addr} (s : Step ρ H ρ' H') (h : ρ[n]? = some a) : ρ'[n]? = some a := by
  obtain ⟨more, rfl⟩ := s.pre
  rw [List.getElem?_append_left (List.getElem?_eq_some_iff.mp h).1]
  exact h
section
variable {X : Cx} {o e f : Expr} {apos cpos pos : Pos} {mo me mf : Sem}
theorem pm_dget2 [Lams] (hu : X.A.units + 1 < cLine) (ho : PM X o mo) (he : PM X e me) (hf : PM X f mf) (m : M2 X o "get" apos e f cpos) : PM X (.Call (.Attribute o "get" apos) [e, f] [] cpos) (eDGet2 mo me mf) :=
  imp (pe_dget2 hu ho he hf m) fun σ H Q ⟨ρ, L, S, y, S', rl, r, e, k⟩ => by
    unfold eDGet2 at e
    split at e
    · rename_i n S1 h1
      split at e
      · rename_i kts0 h2
        split at e
        · rename_i kt S2 h3
          split at e
          · rename_i key h4
            split at e
            · rename_i xt S3 h5
              split at e
              · rename_i kts h6
                cases e
                refine ⟨ρ, L, S, _, S1, rl, r, h1, fun ρ1 H1 v s1 r1 b1 => ?_⟩
                obtain ⟨a, ha, rfl⟩ := b1
                obtain ⟨kvs0, hk0, _⟩ := r1.cell _ _ _ ha h2
                refine ⟨a, rfl, .inl ⟨kvs0, .inl hk0⟩, ρ1, L, S1, _, S2, rl.mono s1, r1, h3, fun ρ2 H2 w s2 r2 b2 => ⟨ρ2, L, S2, _, _, (rl.mono s1).mono s2, r2, h5, fun ρ3 H3 z s3 r3 b3 => ?_⟩⟩
                have ha3 := kept s3 (kept s2 ha)
                obtain ⟨kvs, hk, bk⟩ := r3.cell _ _ _ ha3 h6
                have ew := key_br (show Br X.K ρ2 H2 w kt from b2) h4
                subst ew
                refine ⟨_, DGet.k hk, ?_⟩
                have st := (s1.trans s2).trans s3
                obtain ⟨v1, v2⟩ := val_br (k := key) bk
                cases hv : valT kts key with
                | some t =>
                  obtain ⟨v, e1, e2⟩ := v1 t hv
                  rw [hv] at k
                  rw [e1]
                  exact k ρ3 H3 _ st r3 e2
                | none =>
                  rw [hv] at k
                  rw [v2 hv]
                  exact k ρ3 H3 _ st r3 b3
              · cases e
            · cases e
          · cases e
        · cases e
      · cases e
    · cases e
end
end Mn

/-! MnDct: dict cells: d[k], k in d, d.setdefault, len, list, sorted, dict(pairs); sorts of texts and ints. -/
namespace Mn
open PySem PySem.Spec PyProof.Rows L2
/-! ### sorts -/
def leS (x y : Str) : Prop := ¬ y.cps.toList < x.cps.toList
def insS (x : Str) : List Str → List Str
  | [] => [x]
  | y :: r => if y.cps.toList < x.cps.toList then y :: insS x r else x :: y :: r
def sortS : List Str → List Str
  | [] => []
  | x :: r => insS x (sortS r)
def insI (x : Int) : List Int → List Int
  | [] => [x]
  | y :: r => if y < x then y :: insI x r else x :: y :: r
def sortI : List Int → List Int
  | [] => []
  | x :: r => insI x (sortI r)
theorem leS_trans {x y z : Str} (h : leS x y) (k : leS y z) : leS x z := List.not_lt.mpr (List.le_trans (List.not_lt.mp h) (List.not_lt.mp k))
theorem insS_perm (x : Str) : ∀ l : List Str, (insS x l).Perm (x :: l)
  | [] => .refl _
  | y :: r => by
    unfold insS
    split
    · exact ((insS_perm x r).cons y).trans (.swap x y r)
    · exact .refl _
theorem sortS_perm : ∀ l : List Str, (sortS l).Perm l
  | [] => .refl _
  | x :: r => (insS_perm x _).trans ((sortS_perm r).cons x)
theorem insS_pw (x : Str) : ∀ {l : List Str}, l.Pairwise leS → (insS x l).Pairwise leS
  | [], _ => List.pairwise_singleton _ _
  | y :: r, h => by
    obtain ⟨h1, h2⟩ := List.pairwise_cons.mp h
    unfold insS
    split
    · rename_i hy
      refine List.pairwise_cons.mpr ⟨fun z hz => ?_, insS_pw x h2⟩
      rcases List.mem_cons.mp ((insS_perm x r).mem_iff.mp hz) with e | hz
      · rw [e]; exact List.not_lt.mpr (List.le_of_lt hy)
      · exact h1 z hz
    · rename_i hy
      refine List.pairwise_cons.mpr ⟨fun z hz => ?_, h⟩
      rcases List.mem_cons.mp hz with e | hz
      · rw [e]; exact hy
      · exact leS_trans hy (h1 z hz)
theorem sortS_pw : ∀ l : List Str, (sortS l).Pairwise leS
  | [] => .nil
  | x :: r => insS_pw x (sortS_pw r)
theorem risingS_pw : ∀ {l : List Str} {p : Str}, risingS p l = true → (p :: l).Pairwise leS
  | [], p, _ => List.pairwise_singleton _ _
  | x :: r, p, h => by
    unfold risingS at h
    rw [Bool.and_eq_true] at h
    have ih := risingS_pw h.2
    have hx : leS p x := fun z => by
      have q := h.1
      rw [ltCps_eq, decide_eq_true z] at q
      cases q
    refine List.pairwise_cons.mpr ⟨fun z hz => ?_, ih⟩
    rcases List.mem_cons.mp hz with e | hz
    · rw [e]; exact hx
    · exact leS_trans hx ((List.pairwise_cons.mp ih).1 z hz)
theorem sortedS_eq {xs ys : List Str} (p : ys.Perm xs) (h : sortedS ys = true) : ys = sortS xs := by
  refine List.Perm.eq_of_pairwise (le := leS) (fun a b _ _ h1 h2 => ext_cps (List.le_antisymm (List.not_lt.mp h1) (List.not_lt.mp h2))) ?_ (sortS_pw xs) (p.trans (sortS_perm xs).symm)
  cases ys with
  | nil => exact .nil
  | cons y r => exact risingS_pw h
theorem insI_perm (x : Int) : ∀ l : List Int, (insI x l).Perm (x :: l)
  | [] => .refl _
  | y :: r => by
    unfold insI
    split
    · exact ((insI_perm x r).cons y).trans (.swap x y r)
    · exact .refl _
theorem sortI_perm : ∀ l : List Int, (sortI l).Perm l
  | [] => .refl _
  | x :: r => (insI_perm x _).trans ((sortI_perm r).cons x)
theorem insI_pw (x : Int) : ∀ {l : List Int}, l.Pairwise (· ≤ ·) → (insI x l).Pairwise (· ≤ ·)
  | [], _ => List.pairwise_singleton _ _
  | y :: r, h => by
    obtain ⟨h1, h2⟩ := List.pairwise_cons.mp h
    unfold insI
    split
    · rename_i hy
      refine List.pairwise_cons.mpr ⟨fun z hz => ?_, insI_pw x h2⟩
      rcases List.mem_cons.mp ((insI_perm x r).mem_iff.mp hz) with e | hz
      · rw [e]; omega
      · exact h1 z hz
    · rename_i hy
      refine List.pairwise_cons.mpr ⟨fun z hz => ?_, h⟩
      rcases List.mem_cons.mp hz with e | hz
      · rw [e]; omega
      · have := h1 z hz; omega
theorem sortI_pw : ∀ l : List Int, (sortI l).Pairwise (· ≤ ·)
  | [] => .nil
  | x :: r => insI_pw x (sortI_pw r)
theorem sortI_eq {xs ys : List Int} (p : ys.Perm xs) (h : ys.Pairwise (· ≤ ·)) : ys = sortI xs :=
  List.Perm.eq_of_pairwise (le := (· ≤ ·)) (fun a b _ _ h1 h2 => by omega) h (sortI_pw xs) (p.trans (sortI_perm xs).symm)

/-! ### what they do -/
/-- k in d (b true), k not in d -/
def eDIn (b : Bool) (k o : Sem) : Sem := fun L S => match k L S with
  | some (.d kt, S1) => (match o L S1 with
    | some (.r n, S2) => (match S2[n]? with
      | some (.dct kts) => (match keyT kt with
        | some key => some (.d (.bool ((valT kts key).isSome == b)), S2)
        | none => (match kt with
          | .none => some (.d (.bool (!b)), S2)
          | _ => none))
      | _ => none)
    | _ => none)
  | _ => none
/-- d.setdefault(k, x) -/
def eDSetd (o k x : Sem) : Sem := fun L S => match o L S with
  | some (.r n, S1) => (match S1[n]? with
    | some (.dct _) => (match k L S1 with
      | some (.d kt, S2) => (match keyT kt with
        | some key => (match x L S2 with
          | some (.d xt, S3) => (match S3[n]? with
            | some (.dct kts) => if kts.length < 100000 then (match valT kts key with
              | some t => some (.d t, S3)
              | none => some (.d xt, S3.set n (.dct (kts ++ [(key, xt)])))) else none
            | _ => none)
          | _ => none)
        | none => none)
      | _ => none)
    | _ => none)
  | _ => none
def eLenD (a : Sem) : Sem := fun L S => match a L S with
  | some (.r n, S1) => (match S1[n]? with
    | some (.dct kts) => some (.d (.int (kts.length : Nat)), S1)
    | _ => none)
  | _ => none
def keyD : Key → T
  | .inl i => .int i
  | .inr x => .str x
def keyOk : Key → Bool
  | .inl _ => true
  | .inr x => PyData.strOk x
/-- list(d): a list that never changes; a new cell -/
def eListD (a : Sem) : Sem := fun L S => match a L S with
  | some (.r n, S1) => (match S1[n]? with
    | some (.dct kts) => if kts.all (fun p => keyOk p.1) = true then some (.d (.list (kts.map fun p => keyD p.1)), S1) else none
    | _ => none)
  | _ => none
def eListDN (a : Sem) : Sem := fun L S => match a L S with
  | some (.r n, S1) => (match S1[n]? with
    | some (.dct kts) => if kts.all (fun p => keyOk p.1) = true then some (.r S1.length, S1 ++ [.lst (kts.map fun p => keyD p.1)]) else none
    | _ => none)
  | _ => none
def keysI : List (Key × T) → Option (List Int)
  | [] => some []
  | (.inl i, _) :: r => (match keysI r with
    | some xs => some (i :: xs)
    | none => none)
  | _ :: _ => none
/-- sorted(d), the keys ints -/
def eSortDI (a : Sem) : Sem := fun L S => match a L S with
  | some (.r n, S1) => (match S1[n]? with
    | some (.dct kts) => (match keysI kts with
      | some xs => if xs.length < 64 then some (.d (.list ((sortI xs).map PyData.int)), S1) else none
      | none => none)
    | _ => none)
  | _ => none
section
variable [Lams]
theorem keysI_br {K : PySem.W.Frag} {ρ : List Addr} {H : Hp} : ∀ {vs : List (Key × V)} {ts : List (Key × T)} {xs : List Int}, BrKv K ρ H vs ts → keysI ts = some xs → vs.map (·.1) = xs.map Sum.inl
  | _, _, _, .nil, e => by cases e; rfl
  | _, _, xs, .cons (k := k) b a, e => by
    cases k with
    | inr i => cases e
    | inl x =>
      unfold keysI at e
      split at e
      · rename_i ys hy
        cases e
        rw [List.map_cons, List.map_cons, keysI_br a hy]
      · cases e
theorem BrKv.length {K : PySem.W.Frag} {ρ : List Addr} {H : Hp} : ∀ {vs : List (Key × V)} {ts : List (Key × T)}, BrKv K ρ H vs ts → vs.length = ts.length
  | _, _, .nil => rfl
  | _, _, .cons _ a => by rw [List.length_cons, List.length_cons, BrKv.length a]
theorem BrKv.append {K : PySem.W.Frag} {ρ : List Addr} {H : Hp} : ∀ {vs ws : List (Key × V)} {ts us : List (Key × T)}, BrKv K ρ H vs ts → BrKv K ρ H ws us → BrKv K ρ H (vs ++ ws) (ts ++ us)
  | _, _, _, _, .nil, b => b
  | _, _, _, _, .cons h a, b => .cons h (BrKv.append a b)
theorem br_key {K : PySem.W.Frag} {ρ : List Addr} {H : Hp} {k : Key} (h : keyOk k = true) : Br K ρ H (kV k) (keyD k) := by
  cases k with
  | inl i => exact .int i
  | inr x => exact .str x h
theorem keys_list {K : PySem.W.Frag} {ρ : List Addr} {H : Hp} : ∀ {vs : List (Key × V)} {ts : List (Key × T)}, BrKv K ρ H vs ts → ts.all (fun p => keyOk p.1) = true → BrA K ρ H (vs.map fun kv => kV kv.1) (ts.map fun p => keyD p.1)
  | _, _, .nil, _ => .nil
  | _, _, .cons b a, e => by
    rw [List.all_cons, Bool.and_eq_true] at e
    exact .cons (br_key e.1) (keys_list a e.2)
theorem ints_list {K : PySem.W.Frag} {ρ : List Addr} {H : Hp} : ∀ xs : List Int, BrA K ρ H (xs.map V.int) (xs.map PyData.int)
  | [] => .nil
  | x :: r => .cons (.int x) (ints_list r)
theorem putK_new {kvs : List (Key × V)} {k : Key} {z : V} (h : valV kvs k = none) : putK kvs k z = kvs ++ [(k, z)] := by
  unfold putK
  have q : (kvs.any fun kv => decide (kv.1 = k)) = false := by
    induction kvs with
    | nil => rfl
    | cons p r ih =>
      obtain ⟨j, v⟩ := p
      by_cases e : j = k
      · rw [valV_pos e] at h
        cases h
      · rw [valV_neg e] at h
        rw [List.any_cons, ih h, decide_eq_false (show ¬ (j, v).1 = k from e), Bool.or_false]
  rw [q, if_neg Bool.false_ne_true]
variable {X : Cx} {o e f a : Expr} {apos cpos pos p : Pos} {mo me mf ma : Sem}
theorem pm_dsub (hu : X.A.units + 1 < cLine) (ho : PM X o mo) (he : PM X e me) (hs : NoSl e := by intro _ _; kernel_rfl) : PM X (.Subscript o e pos) (eDSub mo me) := imp (pe_dget hu ho he hs) fun σ H Q ⟨ρ, L, S, y, S', rl, r, e, k⟩ => by
  unfold eDSub at e
  split at e
  · rename_i n S1 h1
    split at e
    · rename_i kt S2 h3
      split at e
      · rename_i key kts h4 h5
        split at e
        · rename_i t h6
          cases e
          refine ⟨ρ, L, S, _, S1, rl, r, h1, fun ρ1 H1 v s1 r1 b1 => ?_⟩
          obtain ⟨a, ha, rfl⟩ := b1
          refine ⟨ρ1, L, S1, _, S', rl.mono s1, r1, h3, fun ρ2 H2 w s2 r2 b2 => ?_⟩
          obtain ⟨kvs, hk, bk⟩ := r2.cell _ _ _ (kept s2 ha) h5
          obtain rfl := key_br (show Br X.K ρ2 H2 w kt from b2) h4
          obtain ⟨v, e1, e2⟩ := (val_br (k := key) bk).1 t h6
          exact ⟨a, v, rfl, e1 ▸ DGet.k hk, k ρ2 H2 _ (s1.trans s2) r2 e2⟩
        · cases e
      · cases e
    · cases e
  · cases e
theorem tM_din {K : PySem.W.Frag} {b : Bool} {g : Bool → Bool} (hg : ∀ c, g c = (c == b)) : ∀ σ H Q, tM K (eDIn b mo me) σ H Q → tM K mo σ H fun y H1 => tM K me σ H1 fun x H2 => (∃ a o, x = .ref a ∧ DGet H2 a y o ∧ Q (.bl (g o.isSome)) H2) ∨ ∃ a kvs, x = .ref a ∧ y = .non ∧ Rd H2 a (.dK kvs) ∧ Q (.bl (!b)) H2 := fun σ H Q ⟨ρ, L, S, y, S', rl, r, e, k⟩ => by
  unfold eDIn at e
  split at e
  · rename_i kt S1 h1
    split at e
    · rename_i n S2 h2
      split at e
      · rename_i kts h3
        refine ⟨ρ, L, S, _, S1, rl, r, h1, fun ρ1 H1 w s1 r1 b1 => ⟨ρ1, L, S1, _, S2, rl.mono s1, r1, h2, fun ρ2 H2 v s2 r2 b2 => ?_⟩⟩
        obtain ⟨a, ha, rfl⟩ := b2
        obtain ⟨kvs, hk, bk⟩ := r2.cell _ _ _ ha h3
        have bw : Br K ρ1 H1 w kt := b1
        split at e
        · rename_i key h4
          cases e
          obtain rfl := key_br bw h4
          refine .inl ⟨a, _, rfl, DGet.k hk, ?_⟩
          obtain ⟨v1, v2⟩ := val_br (k := key) bk
          have es : (valV kvs key).isSome = (valT kts key).isSome := by
            cases hv : valT kts key with
            | none =>
              rw [v2 hv]
              rfl
            | some t =>
              obtain ⟨v, e1, _⟩ := v1 t hv
              rw [e1]
              rfl
          rw [hg, es]
          exact k ρ2 H2 _ (s1.trans s2) r2 (.bl _)
        · split at e
          · cases e
            cases bw
            exact .inr ⟨a, kvs, rfl, rfl, .inl hk, k ρ2 H2 _ (s1.trans s2) r2 (.bl _)⟩
          · cases e
      · cases e
    · cases e
  · cases e
theorem pm_din (hu : X.A.units + 1 < cLine) (he : PM X e me) (ho : PM X o mo) (hm : behindInMarks .In o = false := by kernel_rfl) : PM X (.Compare e [.In] [o] pos) (eDIn true me mo) := imp (pe_cmp (pc_dinN hu he ho) hm) (tM_din (g := id) fun c => by cases c <;> rfl)
theorem pm_dnotin (hu : X.A.units + 1 < cLine) (he : PM X e me) (ho : PM X o mo) (hm : behindInMarks .NotIn o = false := by kernel_rfl) : PM X (.Compare e [.NotIn] [o] pos) (eDIn false me mo) := imp (pe_cmp (pc_dnotinN hu he ho) hm) (tM_din (g := not) fun c => by cases c <;> rfl)
theorem pmt_din (hu : X.A.units + 1 < cLine) (he : PM X e me) (ho : PM X o mo) (hm : behindInMarks .In o = false := by kernel_rfl) : PMT X (.Compare e [.In] [o] pos) (eDIn true me mo) := impT (pt_cmp (pc_dinN hu he ho) hm) fun σ H Q h => tM_din (g := id) (fun c => by cases c <;> rfl) σ H _ h
theorem pmt_dnotin (hu : X.A.units + 1 < cLine) (he : PM X e me) (ho : PM X o mo) (hm : behindInMarks .NotIn o = false := by kernel_rfl) : PMT X (.Compare e [.NotIn] [o] pos) (eDIn false me mo) := impT (pt_cmp (pc_dnotinN hu he ho) hm) fun σ H Q h => tM_din (g := not) (fun c => by cases c <;> rfl) σ H _ h
theorem pm_dsetd (ho : PM X o mo) (he : PM X e me) (hf : PM X f mf) (m : M2 X o "setdefault" apos e f cpos) : PM X (.Call (.Attribute o "setdefault" apos) [e, f] [] cpos) (eDSetd mo me mf) :=
  imp (pe_dsetd ho he hf m) fun σ H Q ⟨ρ, L, S, y, S', rl, r, e, k⟩ => by
    unfold eDSetd at e
    split at e
    · rename_i n S1 h1
      split at e
      · rename_i kts0 h2
        split at e
        · rename_i kt S2 h3
          split at e
          · rename_i key h4
            split at e
            · rename_i xt S3 h5
              split at e
              · rename_i kts h6
                refine ⟨ρ, L, S, _, S1, rl, r, h1, fun ρ1 H1 v s1 r1 b1 => ?_⟩
                obtain ⟨a, ha, rfl⟩ := b1
                obtain ⟨kvs0, hk0, _⟩ := r1.cell _ _ _ ha h2
                refine ⟨a, rfl, .inl ⟨kvs0, .inl hk0⟩, ρ1, L, S1, _, S2, rl.mono s1, r1, h3, fun ρ2 H2 w s2 r2 b2 => ⟨ρ2, L, S2, _, _, (rl.mono s1).mono s2, r2, h5, fun ρ3 H3 z s3 r3 b3 => ?_⟩⟩
                have ha3 := kept s3 (kept s2 ha)
                obtain ⟨kvs, hk, bk⟩ := r3.cell _ _ _ ha3 h6
                obtain rfl := key_br (show Br X.K ρ2 H2 w kt from b2) h4
                have st := (s1.trans s2).trans s3
                obtain ⟨v1, v2⟩ := val_br (k := key) bk
                have bz : Br X.K ρ3 H3 z xt := b3
                split at e
                · rename_i hz
                  have hlt : kvs.length < sizeLine := by rw [bk.length]; exact Nat.lt_of_lt_of_le hz (by decide)
                  split at e
                  · rename_i t hv
                    cases e
                    obtain ⟨v, e1, e2⟩ := v1 t hv
                    refine ⟨kvs, key, hk, rfl, hlt, fun v' ev => ?_, fun ev => ?_⟩
                    · rw [e1] at ev
                      cases ev
                      exact k ρ3 H3 _ st r3 e2
                    · rw [e1] at ev
                      cases ev
                  · rename_i hv
                    cases e
                    refine ⟨kvs, key, hk, rfl, hlt, fun v' ev => ?_, fun _ => ?_⟩
                    · rw [v2 hv] at ev
                      cases ev
                    · rw [putK_new (v2 hv)]
                      have sp := Step.put (ρ := ρ3) (H := H3) (o := .dK (kvs ++ [(key, z)])) (List.mem_of_getElem? ha3) hk
                      exact k ρ3 _ _ (st.trans sp) (r3.put ha3 ⟨_, upd_same, (bk.append (.cons bz .nil)).mono sp⟩ hk) (bz.mono sp)
                · cases e
              · cases e
            · cases e
          · cases e
        · cases e
      · cases e
    · cases e
theorem pm_lenD (hg : Gl X "len") (hm : X.mg "len" = none) (ha : PM X a ma) (hs : starEach [a] X.env = (false, eval a X.env) :: starEach [] X.env := by kernel_rfl) (hpl : (backTo pos (starEach [] X.env)).any (·.1) = false := by kernel_rfl) :
    PM X (.Call (.Name "len" p) [a] [] pos) (eLenD ma) := imp (pe_callB call_lenD hg hm (by decide +kernel) (pa_cons ha pa_nil hs) (by decide) (by decide) hs hpl) fun σ H Q ⟨ρ, L, S, y, S', rl, r, e, k⟩ => by
  unfold eLenD at e
  split at e
  · rename_i n S1 h1
    split at e
    · rename_i kts h2
      cases e
      refine ⟨ρ, L, S, _, _, rl, r, h1, fun ρ1 H1 v s1 r1 b1 => ?_⟩
      obtain ⟨q, hq, rfl⟩ := b1
      obtain ⟨kvs, hk, bk⟩ := r1.cell _ _ _ hq h2
      refine ⟨q, kvs, rfl, hk, ?_⟩
      rw [bk.length]
      exact k ρ1 H1 _ s1 r1 (.int _)
    · cases e
  · cases e
theorem pm_listD (hc : X.calm = true) (hg : Gl X "list") (hm : X.mg "list" = none) (ha : PM X a ma) (hs : starEach [a] X.env = (false, eval a X.env) :: starEach [] X.env := by kernel_rfl) (hpl : (backTo pos (starEach [] X.env)).any (·.1) = false := by kernel_rfl) :
    PM X (.Call (.Name "list" p) [a] [] pos) (eListD ma) := imp (pe_callTy (call_listD hc) hg hm (by decide +kernel) (pa_cons ha pa_nil hs) (by decide) (by decide) hs hpl) fun σ H Q ⟨ρ, L, S, y, S', rl, r, e, k⟩ => by
  unfold eListD at e
  split at e
  · rename_i n S1 h1
    split at e
    · rename_i kts h2
      split at e
      · rename_i hz
        cases e
        refine ⟨ρ, L, S, _, _, rl, r, h1, fun ρ1 H1 v s1 r1 b1 => ?_⟩
        obtain ⟨q, hq, rfl⟩ := b1
        obtain ⟨kvs, hk, bk⟩ := r1.cell _ _ _ hq h2
        refine ⟨q, kvs, rfl, .inl hk, fun m hm => ?_⟩
        exact k ρ1 _ _ (s1.trans (Step.newO hm)) (r1.new hm) (.lst ⟨upd_same, r1.out hm⟩ ((keys_list bk hz).mono (Step.newO hm)))
      · cases e
    · cases e
  · cases e
theorem pm_listDN (hc : X.calm = true) (hg : Gl X "list") (hm : X.mg "list" = none) (ha : PM X a ma) (hs : starEach [a] X.env = (false, eval a X.env) :: starEach [] X.env := by kernel_rfl) (hpl : (backTo pos (starEach [] X.env)).any (·.1) = false := by kernel_rfl) :
    PM X (.Call (.Name "list" p) [a] [] pos) (eListDN ma) := imp (pe_callTy (call_listD hc) hg hm (by decide +kernel) (pa_cons ha pa_nil hs) (by decide) (by decide) hs hpl) fun σ H Q ⟨ρ, L, S, y, S', rl, r, e, k⟩ => by
  unfold eListDN at e
  split at e
  · rename_i n S1 h1
    split at e
    · rename_i kts h2
      split at e
      · rename_i hz
        cases e
        refine ⟨ρ, L, S, _, _, rl, r, h1, fun ρ1 H1 v s1 r1 b1 => ?_⟩
        obtain ⟨q, hq, rfl⟩ := b1
        obtain ⟨kvs, hk, bk⟩ := r1.cell _ _ _ hq h2
        refine ⟨q, kvs, rfl, .inl hk, fun m hm => ?_⟩
        refine k (ρ1 ++ [m]) _ _ (s1.trans (Step.cell hm)) (r1.alloc hm ⟨_, upd_same, (keys_list bk hz).mono (Step.cell hm)⟩) ⟨m, ?_, rfl⟩
        rw [← r1.len, List.getElem?_append_right (Nat.le_refl _), Nat.sub_self]
        rfl
      · cases e
    · cases e
  · cases e
theorem pm_sortDI (hc : X.calm = true) (hg : Gl X "sorted") (hm : X.mg "sorted" = none) (ha : PM X a ma) (hs : starEach [a] X.env = (false, eval a X.env) :: starEach [] X.env := by kernel_rfl) (hpl : (backTo pos (starEach [] X.env)).any (·.1) = false := by kernel_rfl) :
    PM X (.Call (.Name "sorted" p) [a] [] pos) (eSortDI ma) := imp (pe_callB (call_sortedDI hc) hg hm (by decide +kernel) (pa_cons ha pa_nil hs) (by decide) (by decide) hs hpl) fun σ H Q ⟨ρ, L, S, y, S', rl, r, e, k⟩ => by
  unfold eSortDI at e
  split at e
  · rename_i n S1 h1
    split at e
    · rename_i kts h2
      split at e
      · rename_i xs h3
        split at e
        · rename_i hz
          cases e
          refine ⟨ρ, L, S, _, _, rl, r, h1, fun ρ1 H1 v s1 r1 b1 => ?_⟩
          obtain ⟨q, hq, rfl⟩ := b1
          obtain ⟨kvs, hk, bk⟩ := r1.cell _ _ _ hq h2
          refine ⟨q, kvs, xs, rfl, .inl hk, keysI_br bk h3, hz, fun ys m pm so hm => ?_⟩
          rw [sortI_eq pm so]
          exact k ρ1 _ _ (s1.trans (Step.newO hm)) (r1.new hm) (.lst ⟨upd_same, r1.out hm⟩ (ints_list _))
        · cases e
      · cases e
    · cases e
  · cases e
end
end Mn

set_option maxHeartbeats 1000000
/-! MnMk: dict(pairs), {k: v}, plain tuples, tuples of trees and cells. -/
namespace Mn
open PySem PySem.Spec PyProof.Rows L2
/-! ### dict(t), t a tuple of pairs (the kit has lists) -/
theorem no_keys_tuple : typeLookup (.type "tuple") "keys" = pure none := am_miss_of_fast (by decide +kernel)
section
variable {prog : Program} {w : World} {A : Around} {E : Value → Shared → Prop}
theorem miss_tuple {st : Shared} {at_ : Addr} {ob : Obj} {its : Array Value} {n : Nat} {Q : Option Value → Shared → Prop} (e1 : st.heap.get? at_ = some ob) (e2 : ob.cls = .type "tuple") (e3 : ob.data = .seq its n) (e4 : ob.dict = none) (hA : A.handled = none)
    (k : ∀ h' tk, (∀ b ob, st.heap.get? b = some ob → h'.get? b = some ob) → Q none { st with heap := h', toks := tk }) : wpAny (model prog w) A (getAttr? (.ref at_) "keys") Q E st := by
  obtain ⟨c, dct, dat, sl⟩ := ob
  simp only at e2 e3 e4
  subst e2 e3 e4
  obtain ⟨hp, g, d, tk, os⟩ := st
  have isT : ∀ tk', (⟨hp, g, d, tk', os⟩ : Shared).TypeIs (.ref at_) "tuple" := fun _ => ⟨_, e1, rfl⟩
  have nm := no_keys_tuple
  have notSpecial : (["__module__", "__name__", "__qualname__", "__doc__", "__annotations__"] : List Str).contains "keys" = false := by decide +kernel
  have fits : ("keys" : Str).length + 100 ≤ sizeLine := by first | size_fits | decide +kernel
  have g1 := sub_AttributeError
  have g3 := PySem.F.slot_tuple_getattribute.lookup
  have g4 := PySem.F.slot_tuple_getattribute.bind (.ref at_)
  have g5 := am_tuple_getattr_none
  unfold getAttr? getAttrBy? getAttrBy
  repeat (any_goals (first | assumption | exact isT _ | ((with_reducible show wpAny _ _ (call (Value.builtin "tuple.__getattribute__") _ _) _ _ _); refine call_meets PySem.F.slot_tuple_getattribute (isT _) am_entry_tuple_getattribute (PySem.F.args_tuple_getattribute_2 _ _) (meets_getattribute_miss_tuple at_ its n sl "keys" _ nm notSpecial fits) ⟨e1, hA, fun h' tk' e hx' => ?_⟩) | wp_step))
  obtain ⟨t', u', there⟩ := hx'.there
  show wpAny _ _ (getattributeRaised _ _ _ _ _ _ _) _ _ _
  unfold getattributeRaised
  repeat (any_goals (first | assumption | wp_step))
  all_goals first | exact k _ _ hx'.keeps | (dsimp only; repeat (any_goals (first | assumption | exact k _ _ hx'.keeps | wp_step)))
/-- the walk over the pairs of a tuple -/
theorem pairs_loop {R : Result → Shared → Prop} {D I l : Addr} {items : Array Value} {res : Value} (hh : A.handled = none) (n1 : l ≠ I) (n2 : D ≠ I) (n3 : D ≠ l) :
    ∀ (rest : List (Key × Value)) (i : Nat) (acc : List (Key × Value)) (ix : Int) (t : Tok) (s : Shared), items.size = i + rest.length → acc.length + rest.length ≤ sizeLine →
      (∀ (j : Nat) (q : Key × Value), rest[j]? = some q → ∃ (b : Addr) (u : Value), items[i + j]? = some (.ref b) ∧ b ≠ D ∧ b ≠ I ∧ IsTup s.heap b #[u, q.2] ∧ keyIs q.1 u = true) →
      s.heap.IsTupleIter I l i → s.heap.IsTuple l items → s.heap.DictOf (mixKind prog w) D acc →
      (∀ h' tk, h'.DictOf (mixKind prog w) D (merged acc rest) → (∀ b o, b ≠ D → b ≠ I → s.heap.get? b = some o → h'.get? b = some o) → R (.ok (.ret res)) { s with heap := h', toks := tk }) →
      codeAny (model prog w) A (.builtin "dict.update.loop" ⟨[.ref D, .ref I, .int ix t, res], []⟩) R s
  | [], i, acc, ix, t, s, sz, ln, ht, hit, hl, hm, hR => by
    refine codeAny_builtin ud_entry ?_
    rw [Around.under_plainId ud_plain _]
    show wpAny _ A.in1 (pyNext (.ref I) >>= _) _ _ s
    refine wpAny_bind (wpAny_pyNext_tuple_end (A := A.in1) hh hit hl (by first | exact Array.getElem?_eq_none (Nat.le_of_eq sz) | (simp at sz; simp; omega)) fun h' he => ?_)
    show wpAny _ A.in1 (Builtin.Dict.addKeywords D [] >>= _) _ _ _
    exact wpAny_bind (wpAny_pure (wpAny_pure (hR h' s.toks (hm.extBut he n2) fun b o _ hb e => he b o hb e)))
  | q :: rest, i, acc, ix, t, s, sz, ln, ht, hit, hl, hm, hR => by
    obtain ⟨b, u, ib, bD, bI, tup, kq⟩ := ht 0 q rfl
    rw [List.length_cons] at sz ln
    refine codeAny_builtin ud_entry ?_
    rw [Around.under_plainId ud_plain _]
    show wpAny _ A.in1 (pyNext (.ref I) >>= _) _ _ s
    refine wpAny_bind (wpAny_pyNext_tuple_item (x := .ref b) hit hl (by simpa using ib) fun h1 it1 s1 => ?_)
    have tup1 : IsTup h1 b #[u, q.2] := tup.extBut s1.extBut bI
    have l1 : h1.IsTuple l items := hl.extBut s1.extBut n1
    have m1 : h1.DictOf (mixKind prog w) D acc := hm.extBut s1.extBut n2
    obtain ⟨o, ho, hc, n, hd⟩ := id tup1
    show wpAny _ A.in1 (holding [Value.ref b] _ >>= _) _ _ _
    refine wpAny_bind (wpAny_holding (wpAny_bind (wpAny_tryCatch ?_)))
    unfold Builtin.Dict.pairItems
    refine wpAny_bind (wpAny_typeOf (T := "tuple") ⟨o, ho, hc⟩ ?_)
    rw [if_pos (by first | decide | rfl | simp)]
    refine wpAny_bind (wpAny_seqItems ho hd (wpAny_pure ?_))
    show wpAny _ A.in1 (holding [u, q.2] (dictSet D u q.2)) _ _ _
    refine wpAny_holding (wpAny_dictSet_pairs (knd := mixKind prog w) (k := q.1) kq m1 (fun h2 m2 s2 => ?_) (by omega))
    have sl := stored_length_le acc q.1 q.2
    refine wpAny_pure ⟨plainId_quiet ud_plain _, pairs_loop (items := items) hh n1 n2 n3 rest (i + 1) (stored acc q.1 q.2) (ix + 1) 0 _ (show items.size = i + 1 + rest.length by omega) (by omega) (fun j q' e => ?_)
      (by obtain ⟨oi, a1, a2, a3⟩ := it1; exact ⟨oi, s2.extBut I oi (Ne.symm n2) a1, a2, a3⟩) (l1.extBut s2.extBut (Ne.symm n3)) m2 fun h' tk hd' k => hR h' tk hd' fun c oc h3 h4 e => k c oc h3 h4 (s2.extBut c oc h3 (s1.extBut c oc h4 e))⟩
    obtain ⟨b', u', ib', bD', bI', tup', kq'⟩ := ht (j + 1) q' (by simpa using e)
    exact ⟨b', u', by rw [show i + 1 + j = i + (j + 1) by omega]; exact ib', bD', bI', (tup'.extBut s1.extBut bI').extBut s2.extBut bD', kq'⟩
theorem call_dict_tuple {s : Shared} {l : Addr} {ol : Obj} {items : Array Value} {n : Nat} {prs : List (Key × Value)} {Q : Value → Shared → Prop} (hh : A.handled = none) (e1 : s.heap.get? l = some ol) (e2 : ol.cls = .type "tuple") (e4 : ol.dict = none)
    (e3 : ol.data = .seq items n) (sz : items.size = prs.length) (ln : prs.length ≤ sizeLine)
    (ht : ∀ (j : Nat) (q : Key × Value), prs[j]? = some q → ∃ (b : Addr) (u : Value), items[j]? = some (.ref b) ∧ IsTup s.heap b #[u, q.2] ∧ keyIs q.1 u = true)
    (k : ∀ h' tk, h'.DictOf (mixKind prog w) s.heap.objs.size (merged [] prs) → (∀ b o, s.heap.get? b = some o → h'.get? b = some o) → Q (.ref s.heap.objs.size) { s with heap := h', toks := tk }) :
    wpAny (model prog w) A (call (.type "dict") [.ref l]) Q E s := by
  refine callType_codes (Q₁ := fun obj s₁ => obj = .ref s.heap.objs.size ∧ s₁ = { s with heap := s.heap.push { cls := .type "dict", data := .dict #[] } }) PySem.F.kt_called_dict (PySem.F.kt_typeCall_dict_1 _) PySem.F.entry_dict_init (kt_code_dict_new _ ⟨rfl, rfl⟩) ?_
  rintro obj s₁ ⟨rfl, rfl⟩
  have new0 : (s.heap.push { cls := .type "dict", data := .dict #[] }).DictOf (mixKind prog w) s.heap.objs.size [] := Heap.DictOf.new s.heap
  have p0 : ∀ b o, s.heap.get? b = some o → (s.heap.push { cls := .type "dict", data := .dict #[] }).get? b = some o := fun b o e => Heap.get?_push_of_some _ e
  refine ⟨new0.typeIs, PySem.F.args_dict_init_2 _ _, ?_⟩
  unfold Builtin.«dict.__init__»
  refine wpAny_bind ?_
  unfold Builtin.Dict.selfAndRest
  refine wpAny_bind (wpAny_notOrdered_dict new0.typeIs ?_)
  show wpAny _ _ (pure (s.heap.objs.size, [Value.ref l])) _ _ _
  refine wpAny_pure ?_
  show wpAny _ _ (Builtin.Dict.updateFrom "dict.__init__" s.heap.objs.size (.ref l) [] .none) _ _ _
  unfold Builtin.Dict.updateFrom
  refine wpAny_bind (wpAny_typeOf (T := "tuple") ⟨ol, p0 _ _ e1, e2⟩ ?_)
  rw [if_pos (by first | decide | rfl | simp)]
  refine wpAny_bind (miss_tuple (p0 _ _ e1) e2 e3 e4 hh fun h1 tk1 k1 => ?_)
  rw [if_pos (show (none : Option Value).isNone = true from rfl)]
  refine wpAny_bind (wpAny_rule ?_)
  have tl : h1.IsTuple l items := ⟨ol, k1 _ _ (p0 _ _ e1), e2, n, e3⟩
  have lt1 : s.heap.objs.size < h1.objs.size := by
    have e : (s.heap.push { cls := .type "dict", data := .dict #[] }).get? s.heap.objs.size = some { cls := .type "dict", data := .dict #[] } := Heap.get?_push_size _ rfl
    exact Heap.lt_size (k1 _ _ e)
  refine wpAny_bind (wpAny_pyIter_tuple tl ?_)
  have p2 : ∀ b o, h1.get? b = some o → (h1.push { cls := .type "tuple_iterator", data := .fields #[.ref l, .int 0 0] }).get? b = some o := fun b o e => Heap.get?_push_of_some _ e
  have hlt : l < s.heap.objs.size := Heap.lt_size e1
  have key := pairs_loop (prog := prog) (w := w) (A := A.in1) (R := wants (fun r s₂ => r = .none ∧ Q (.ref s.heap.objs.size) s₂) E) (D := s.heap.objs.size) (I := h1.objs.size) (l := l) (items := items) (res := Value.none) hh
    (Nat.ne_of_lt (Nat.lt_trans hlt lt1)) (Nat.ne_of_lt lt1) (Nat.ne_of_gt hlt) prs 0 [] 0 0
    { s with heap := h1.push { cls := .type "tuple_iterator", data := .fields #[.ref l, .int 0 0] }, toks := tk1 } (by rw [sz, Nat.zero_add]) (by rw [List.length_nil, Nat.zero_add]; exact ln)
    (fun j q e => by
      obtain ⟨b, u, a1, a2, a3⟩ := ht j q e
      have hb : b < s.heap.objs.size := a2.lt
      exact ⟨b, u, by rw [Nat.zero_add]; exact a1, Nat.ne_of_lt hb, Nat.ne_of_lt (Nat.lt_trans hb lt1), a2.keeps fun c o z => p2 _ _ (k1 _ _ (p0 _ _ z)), a3⟩)
    ⟨_, Heap.get?_push_size _ rfl, rfl, rfl⟩ (by obtain ⟨ot, a1, a2⟩ := tl; exact ⟨ot, p2 _ _ a1, a2⟩) ((new0.at fun o e => k1 _ _ e).at fun o e => p2 _ _ e)
    (fun h' tk hd' kk => ⟨rfl, k h' tk hd' fun b o e => kk b o (Nat.ne_of_lt (Heap.lt_size e)) (Nat.ne_of_lt (Nat.lt_trans (Heap.lt_size e) lt1)) (p2 _ _ (k1 _ _ (p0 _ _ e)))⟩)
  first
    | exact wpAny_pure ⟨plainId_quiet ud_plain _, key⟩
    | exact wpAny_bind (wpAny_pure (wpAny_pure ⟨plainId_quiet ud_plain _, key⟩))
end
section
variable {X : Cx}
theorem call_dictT (hcalm : X.calm = true) : CallR X (.type "dict") (fun xs H Q => ∃ (a : Addr) (o : Obj) (ps : List Addr) (kvs : List (Key × V)), xs = [.ref a] ∧ H a = some (.frz o (.tup (ps.map V.ref))) ∧ o.dict = none ∧ Paired (fun p kv => SqT X.K H p [kV kv.1, kv.2]) ps kvs ∧
    ∀ p, H p = none → Q (.ref p) (upd H p (.dK (mergeK [] kvs)))) := by
  intro pins s σ H xs us Q I r q
  obtain ⟨a, o, ps, kvs, ex, hq, od, hp, q⟩ := q
  subst ex
  obtain ⟨u, eu, rx⟩ := vals1 r
  subst eu
  cases rx
  obtain ⟨ha, hz, its, rv, o', ho, hc, n, hdat⟩ := I.hok a _ hq
  rw [ha] at ho
  cases ho
  have ei := refs_at rv
  subst ei
  rw [List.length_map] at hz
  obtain ⟨prs, rel, hl, hpr⟩ := pairs_of I hp
  refine call_dict_tuple (prs := prs) (I.ok.hd hcalm) ha hc od hdat (by simp [hl]) (by rw [hl]; exact hz) (fun j q' e => ?_) fun h' tk hd' kp => ?_
  · obtain ⟨b, u, e1, e2, e3⟩ := hpr j q' e
    exact ⟨b, u, by simp [e1], e2, e3⟩
  · have nm : (s.heap.objs.size == sysModules) = false := beq_eq_false_iff_ne.mpr (Nat.ne_of_gt I.big)
    have hlen : (mergeK [] kvs).length ≤ sizeLine := by
      refine Nat.le_trans (length_mergeK kvs []) ?_
      rw [List.length_nil, Nat.zero_add, rel.length, hl]
      exact hz
    exact ⟨.ref s.heap.objs.size, upd H s.heap.objs.size (.dK (mergeK [] kvs)), I.laid (t' := tk) kp (Nat.le_refl _) (show ObjOk X.prog X.w _ _ _ (.dK (mergeK [] kvs)) from ⟨hlen, nm, merged [] prs, KV.merge rel .nil, hd'⟩), rfl, q _ (I.hok.fresh (Nat.le_refl _))⟩
/-- tuple(l): the new tuple's object is known -/
theorem call_tupleF : CallR X (.type "tuple") (fun xs H Q => ∃ p ys, xs = [.ref p] ∧ SqL X.K H p ys ∧ ∀ l o, H l = none → o.dict = none → o.cls = .type "tuple" → Q (.ref l) (upd H l (.frz o (.tup ys)))) := by
  intro pins s σ H xs us Q I r ⟨p, ys, ex, hq, q⟩
  subst ex
  obtain ⟨u, rfl, rx⟩ := vals1 r
  cases rx
  obtain ⟨its, r', pl, hz⟩ := I.list hq
  have hlen := r'.length
  refine call_tuple_list pl.isList (fun h' kp => ?_) (by simp only [List.size_toArray] <;> omega)
  have J : Inv X pins σ H { s with heap := h' } := I.kept (t' := s.toks) kp
  have J2 := J.laid (t' := s.toks) (a := h'.objs.size) (o := .frz { cls := .type "tuple", data := .seq its.toArray } (.tup ys)) (h' := h'.push { cls := .type "tuple", data := .seq its.toArray }) (fun b o e => Heap.get?_push_of_some _ e) (Nat.le_refl _)
    ⟨Heap.get?_push_size _ rfl, hz, its, r', IsTup.new _ _⟩
  exact ⟨.ref h'.objs.size, _, J2, rfl, q _ _ (J.hok.fresh (Nat.le_refl _)) rfl rfl⟩
end
end Mn

set_option maxHeartbeats 1000000
/-! MnMk2: dict(pairs), {k: v}, {.. for .. in d.items()}, plain tuples, tuples of trees and cells, names of such; what is dropped behind a statement. -/
namespace Mn
open PySem PySem.Spec PyProof.Rows L2
def pairsKv : List T → Option (List (Key × T))
  | [] => some []
  | .tuple [k, v] :: r => (match keyT k with
    | some key => (match pairsKv r with
      | some kts => some ((key, v) :: kts)
      | none => none)
    | none => none)
  | _ :: _ => none
def putT (kts : List (Key × T)) (k : Key) (v : T) : List (Key × T) := if (kts.any fun kv => decide (kv.1 = k)) = true then kts.map (fun kv => if kv.1 = k then (kv.1, v) else kv) else kts ++ [(k, v)]
def mergeT (kts : List (Key × T)) : List (Key × T) → List (Key × T)
  | [] => kts
  | kv :: r => mergeT (putT kts kv.1 kv.2) r
def eDictP (m : Sem) : Sem := fun L S => match m L S with
  | some (.d (.list ts), S1) => (match pairsKv ts with
    | some kts => some (.r S1.length, S1 ++ [.dct (mergeT [] kts)])
    | none => none)
  | _ => none
def eDictT (m : Sem) : Sem := fun L S => match m L S with
  | some (.p ts, S1) => (match pairsKv ts with
    | some kts => some (.r S1.length, S1 ++ [.dct (mergeT [] kts)])
    | none => none)
  | _ => none
/-- tuple(l): a plain tuple -/
def eTupP (m : Sem) : Sem := fun L S => match m L S with
  | some (.d (.list ts), S1) => some (.p ts, S1)
  | _ => none
def capsOf : List Vl → Option (List Cap)
  | [] => some []
  | x :: r => (match capOf x with
    | some c => (match capsOf r with
      | some cs => some (c :: cs)
      | none => none)
    | none => none)
def eTupU (r : Sems) : Sem := fun L S => match r L S with
  | some (xs, S1) => (match capsOf xs with
    | some cs => if cs.length ≤ 100000 then some (.u cs, S1) else none
    | none => none)
  | none => none
def plains : List Vl → Option (List (List T))
  | [] => some []
  | .p ts :: r => (match plains r with
    | some tss => some (ts :: tss)
    | none => none)
  | _ :: _ => none
def eTupQ (r : Sems) : Sem := fun L S => match r L S with
  | some (xs, S1) => (match plains xs with
    | some tss => if tss.length ≤ 100000 then some (.q tss, S1) else none
    | none => none)
  | none => none
def eIxQ (m b : Sem) : Sem := fun L S => match m L S with
  | some (.q tss, S1) => (match b L S1 with
    | some (.d (.int i), S2) => (match L2.atI tss i with
      | some ts => some (.p ts, S2)
      | none => none)
    | _ => none)
  | _ => none
def eIxU (m b : Sem) : Sem := fun L S => match m L S with
  | some (.u cs, S1) => (match b L S1 with
    | some (.d (.int i), S2) => (match L2.atI cs i with
      | some c => some (c.vl, S2)
      | none => none)
    | _ => none)
  | _ => none
/-- the same value as a tree -/
def eTree (m : Sem) : Sem := fun L S => match m L S with
  | some (.d t, S1) => some (.d t, S1)
  | some (.p ts, S1) => some (.d (.tuple ts), S1)
  | some (.q tss, S1) => some (.d (.tuple (tss.map .tuple)), S1)
  | _ => none
def setU : List Nat → List Cap → Lc → Option Lc
  | [], [], L => some L
  | i :: is, c :: cs, L => setU is cs (L.set i (some c.vl))
  | _, _, _ => none
/-- a, b, .. = a tuple of trees and cells -/
def tgU (is : List Nat) : Tg := fun x L S => match x with
  | .u cs => (match setU is cs L with
    | some L1 => if cs.length = is.length then some (L1, S) else none
    | none => none)
  | _ => none
def eDisp1 (mk mv : Sem) : Sem := fun L S => match mk L (S ++ [.dct []]) with
  | some (.d kt, S1) => (match mv L S1 with
    | some (.d t, S2) => (match keyT kt with
      | some key => (match S2[S.length]? with
        | some (.dct []) => some (.r S.length, S2.set S.length (.dct [(key, t)]))
        | _ => none)
      | none => none)
    | _ => none)
  | _ => none
/-- what a statement's value needed is dropped -/
def sDropCut (m : Sem) : Sts := fun L S => match m L S with
  | some (_, S1) => some (.nx L (S1.take S.length))
  | none => none
def wipeV (n : Nat) : Option Vl → Option Vl
  | some (.d t) => some (.d t)
  | some (.s ns) => some (.s ns)
  | some (.t x) => some (.t x)
  | some (.g x) => some (.g x)
  | some (.r m) => if m < n then some (.r m) else none
  | _ => none
/-- the cells that a block made are dropped behind it -/
def sScope (b : Sts) : Sts := fun L S => match b L S with
  | some (.nx L1 S1) => some (.nx (L1.map (wipeV S.length)) (S1.take S.length))
  | some (.ct L1 S1) => some (.ct (L1.map (wipeV S.length)) (S1.take S.length))
  | some (.bk L1 S1) => some (.bk (L1.map (wipeV S.length)) (S1.take S.length))
  | r => r
def itemsT (kts : List (Key × T)) : List T := kts.map fun p => .tuple [keyD p.1, p.2]
def dcN (f : TgF) (vs : List Nat) (mk mv : Sem) (n0 : Nat) : List T → Lc → So → Option So
  | [], _, S => some S
  | t :: r, L, S => match f t (wipeL L vs) with
    | some L1 => (match mk L1 S with
      | some (.d kt, S2) => (match mv L1 S2 with
        | some (.d y, S3) => (match keyT kt with
          | some key => (match S3[n0]? with
            | some (.dct acc) => if acc.length < 100000 then dcN f vs mk mv n0 r L (S3.set n0 (.dct (putT acc key y))) else none
            | _ => none)
          | none => none)
        | _ => none)
      | _ => none)
    | none => none
/-- {k: v for .. in d.items()}, d a name -/
def eDcI (i : Nat) (f : TgF) (vs : List Nat) (mk mv : Sem) : Sem := fun L S => match L[i]? with
  | some (some (.r n)) => (match S[n]? with
    | some (.dct kts) => if kts.all (fun p => keyOk p.1) = true then (match dcN f vs mk mv S.length (itemsT kts) L (S.set n .lock ++ [.dct []]) with
      | some S2 => (match S2[n]?, S2[S.length]? with
        | some .lock, some (.dct out) => some (.r S.length, (S2.take S.length).set n (.dct kts) ++ [.dct out])
        | _, _ => none)
      | none => none) else none
    | _ => none)
  | _ => none
section
variable [Lams] {K : PySem.W.Frag} {ρ ρ' : List Addr} {H H' : Hp}
theorem put_any {k : Key} : ∀ {vs : List (Key × V)} {ts : List (Key × T)}, BrKv K ρ H vs ts → (vs.any fun kv => decide (kv.1 = k)) = (ts.any fun kv => decide (kv.1 = k))
  | _, _, .nil => rfl
  | _, _, .cons _ a => by rw [List.any_cons, List.any_cons, put_any a]
theorem put_map {k : Key} {v : V} {t : T} (b : Br K ρ H v t) : ∀ {vs : List (Key × V)} {ts : List (Key × T)}, BrKv K ρ H vs ts → BrKv K ρ H (vs.map fun kv => if kv.1 = k then (kv.1, v) else kv) (ts.map fun kv => if kv.1 = k then (kv.1, t) else kv)
  | _, _, .nil => .nil
  | _, _, .cons (k := j) c a => by
    rw [List.map_cons, List.map_cons]
    by_cases e : j = k
    · simp only [if_pos e]
      exact .cons b (put_map b a)
    · simp only [if_neg e]
      exact .cons c (put_map b a)
theorem put_br {k : Key} {v : V} {t : T} {vs : List (Key × V)} {ts : List (Key × T)} (b : Br K ρ H v t) (a : BrKv K ρ H vs ts) : BrKv K ρ H (putK vs k v) (putT ts k t) := by
  unfold putK putT
  rw [put_any a]
  split
  · exact put_map b a
  · exact a.append (.cons b .nil)
theorem merge_br : ∀ {more : List (Key × V)} {mts : List (Key × T)} {vs : List (Key × V)} {ts : List (Key × T)}, BrKv K ρ H more mts → BrKv K ρ H vs ts → BrKv K ρ H (mergeK vs more) (mergeT ts mts)
  | _, _, _, _, .nil, a => a
  | _, _, _, _, .cons (k := key) (v := v) (kvs := more) b m, a => by
    unfold mergeT
    show BrKv K ρ H (mergeK (putK _ key v) more) _
    exact merge_br m (put_br b a)
theorem pairs_br : ∀ {xs : List V} {ts : List T} {kts : List (Key × T)}, BrA K ρ H xs ts → pairsKv ts = some kts → ∃ (ps : List Addr) (kvs : List (Key × V)), xs = ps.map V.ref ∧ Paired (fun p kv => SqT K H p [kV kv.1, kv.2]) ps kvs ∧ BrKv K ρ H kvs kts
  | _, _, _, .nil, e => by cases e; exact ⟨[], [], rfl, .nil, .nil⟩
  | _, _, kts, .cons (t := t) b a, e => by
    unfold pairsKv at e
    split at e
    · rename_i h; cases h
    · rename_i k v r h
      cases h
      split at e
      · rename_i key hk
        split at e
        · rename_i kts' hr
          cases e
          obtain ⟨ps, kvs, h1, h2, h3⟩ := pairs_br a hr
          cases b with
          | @tup p ys _ hp bs =>
            cases bs with
            | cons b1 bs => cases bs with
              | cons b2 bs =>
                cases bs
                obtain rfl := key_br b1 hk
                exact ⟨p :: ps, (key, _) :: kvs, by rw [h1]; rfl, .cons (Br.sqT hp) h2, .cons b2 h3⟩
        · cases e
      · cases e
    · cases e
theorem caps_br : ∀ {vs : List V} {xs : List Vl} {cs : List Cap}, VBs K ρ H vs xs → capsOf xs = some cs → CBs K ρ H vs cs
  | _, _, _, .nil, e => by cases e; exact .nil
  | _, _, cs, .cons h a, e => by
    unfold capsOf at e
    split at e
    · rename_i c hc
      split at e
      · rename_i cs' hr
        cases e
        exact .cons (capOf_cb hc h) (caps_br a hr)
      · cases e
    · cases e
theorem plains_br : ∀ {vs : List V} {xs : List Vl} {cs : List (List T)}, VBs K ρ H vs xs → plains xs = some cs → PlTs K ρ H vs cs
  | _, _, _, .nil, e => by cases e; exact .nil
  | _, _, cs, .cons (x := x) h a, e => by
    unfold plains at e
    split at e
    · rename_i q; cases q
    · rename_i ts r q
      cases q
      split at e
      · rename_i cs' hr
        cases e
        exact .cons h (plains_br a hr)
      · cases e
    · cases e
theorem CBs.length : ∀ {vs : List V} {xs : List Cap}, CBs K ρ H vs xs → vs.length = xs.length
  | _, _, .nil => rfl
  | _, _, .cons _ a => by rw [List.length_cons, List.length_cons, CBs.length a]
theorem PlTs.length : ∀ {vs : List V} {xs : List (List T)}, PlTs K ρ H vs xs → vs.length = xs.length
  | _, _, .nil => rfl
  | _, _, .cons _ a => by rw [List.length_cons, List.length_cons, PlTs.length a]
theorem CBs.get : ∀ {vs : List V} {xs : List Cap} {i : Nat} {x : Cap}, CBs K ρ H vs xs → xs[i]? = some x → ∃ v, vs[i]? = some v ∧ CB K ρ H v x
  | _, _, _, _, .nil, e => by simp at e
  | _, _, 0, _, .cons h _, e => by simp at e; subst e; exact ⟨_, rfl, h⟩
  | _, _, i + 1, x, .cons _ a, e => by
    obtain ⟨v, h1, h2⟩ := CBs.get (i := i) (x := x) a (by simpa using e)
    exact ⟨v, by simpa using h1, h2⟩
theorem PlTs.get : ∀ {vs : List V} {xs : List (List T)} {i : Nat} {x : List T}, PlTs K ρ H vs xs → xs[i]? = some x → ∃ v, vs[i]? = some v ∧ PlT K ρ H v x
  | _, _, _, _, .nil, e => by simp at e
  | _, _, 0, _, .cons h _, e => by simp at e; subst e; exact ⟨_, rfl, h⟩
  | _, _, i + 1, x, .cons _ a, e => by
    obtain ⟨v, h1, h2⟩ := PlTs.get (i := i) (x := x) a (by simpa using e)
    exact ⟨v, by simpa using h1, h2⟩
end
section
variable [Lams] {X : Cx} {p pos : Pos} {a b : Expr} {es : List Expr} {ma mb : Sem} {mr : Sems}
theorem new_dct {K : PySem.W.Frag} {ρ : List Addr} {H : Hp} {S : So} {m : Addr} {kvs : List (Key × V)} {kts : List (Key × T)} (r : Rel K ρ H S) (hm : H m = none) (b : BrKv K ρ H kvs kts) :
    Rel K (ρ ++ [m]) (upd H m (.dK kvs)) (S ++ [.dct kts]) ∧ VB K (ρ ++ [m]) (upd H m (.dK kvs)) (.ref m) (.r S.length) :=
  ⟨r.alloc hm ⟨_, upd_same, b.mono (Step.cell hm)⟩, m, by rw [← r.len, List.getElem?_append_right (Nat.le_refl _), Nat.sub_self]; rfl, rfl⟩
theorem pm_dictP (hc : X.calm = true) (hg : Gl X "dict") (hm : X.mg "dict" = none) (ha : PM X a ma) (hs : starEach [a] X.env = (false, eval a X.env) :: starEach [] X.env := by kernel_rfl) (hpl : (backTo pos (starEach [] X.env)).any (·.1) = false := by kernel_rfl) :
    PM X (.Call (.Name "dict" p) [a] [] pos) (eDictP ma) := imp (pe_callTy (call_dictP hc) hg hm (by decide +kernel) (pa_cons ha pa_nil hs) (by decide) (by decide) hs hpl) fun σ H Q ⟨ρ, L, S, y, S', rl, r, e, k⟩ => by
  unfold eDictP at e
  split at e
  · rename_i ts S1 h1
    split at e
    · rename_i kts h2
      cases e
      refine ⟨ρ, L, S, _, _, rl, r, h1, fun ρ1 H1 v s1 r1 b1 => ?_⟩
      obtain ⟨q, xs, rfl, h3, b3⟩ := (Dv.t b1 : Dv X.K ρ1 H1 v (.list ts)).list
      obtain ⟨ps, kvs, rfl, h4, h5⟩ := pairs_br b3 h2
      refine ⟨q, ps, kvs, rfl, .inl (.inl h3), h4, fun m hm => ?_⟩
      obtain ⟨r2, v2⟩ := new_dct r1 hm (merge_br h5 .nil)
      exact k _ _ _ (s1.trans (Step.cell hm)) r2 v2
    · cases e
  · cases e
theorem pm_dictT (hc : X.calm = true) (hg : Gl X "dict") (hm : X.mg "dict" = none) (ha : PM X a ma) (hs : starEach [a] X.env = (false, eval a X.env) :: starEach [] X.env := by kernel_rfl) (hpl : (backTo pos (starEach [] X.env)).any (·.1) = false := by kernel_rfl) :
    PM X (.Call (.Name "dict" p) [a] [] pos) (eDictT ma) := imp (pe_callTy (call_dictT hc) hg hm (by decide +kernel) (pa_cons ha pa_nil hs) (by decide) (by decide) hs hpl) fun σ H Q ⟨ρ, L, S, y, S', rl, r, e, k⟩ => by
  unfold eDictT at e
  split at e
  · rename_i ts S1 h1
    split at e
    · rename_i kts h2
      cases e
      refine ⟨ρ, L, S, _, _, rl, r, h1, fun ρ1 H1 v s1 r1 b1 => ?_⟩
      obtain ⟨q, o, xs, rfl, h3, od, oc, nq, b3⟩ := b1
      obtain ⟨ps, kvs, rfl, h4, h5⟩ := pairs_br b3 h2
      refine ⟨q, o, ps, kvs, rfl, h3, od, h4, fun m hm => ?_⟩
      obtain ⟨r2, v2⟩ := new_dct r1 hm (merge_br h5 .nil)
      exact k _ _ _ (s1.trans (Step.cell hm)) r2 v2
    · cases e
  · cases e
theorem pm_tupP (hg : Gl X "tuple") (hm : X.mg "tuple" = none) (ha : PM X a ma) (hs : starEach [a] X.env = (false, eval a X.env) :: starEach [] X.env := by kernel_rfl) (hpl : (backTo pos (starEach [] X.env)).any (·.1) = false := by kernel_rfl) :
    PM X (.Call (.Name "tuple" p) [a] [] pos) (eTupP ma) := imp (pe_callTy call_tupleF hg hm (by decide +kernel) (pa_cons ha pa_nil hs) (by decide) (by decide) hs hpl) fun σ H Q ⟨ρ, L, S, y, S', rl, r, e, k⟩ => by
  unfold eTupP at e
  split at e
  · rename_i ts S1 h1
    cases e
    refine ⟨ρ, L, S, _, _, rl, r, h1, fun ρ1 H1 v s1 r1 b1 => ?_⟩
    obtain ⟨q, xs, rfl, h3, b3⟩ := (Dv.t b1 : Dv X.K ρ1 H1 v (.list ts)).list
    exact ⟨q, xs, rfl, .inl (.inl h3), fun l o hl od oc => k ρ1 _ _ (s1.trans (Step.newO hl)) (r1.new hl) ⟨l, o, xs, rfl, upd_same, od, oc, r1.out hl, b3.mono (Step.newO hl)⟩⟩
  · cases e
theorem pm_tupU {x1} (h : PMA X es mr) : PM X (.Tuple es x1 pos) (eTupU mr) := imp (pe_tup h) fun σ H Q ⟨ρ, L, S, x, S', rl, r, e, k⟩ => by
  unfold eTupU at e
  split at e
  · rename_i xs S1 h1
    split at e
    · rename_i cs h2
      split at e
      · rename_i hz
        cases e
        refine ⟨ρ, L, S, xs, _, rl, r, h1, fun ρ1 H1 vs s1 r1 b1 => ?_⟩
        have b := caps_br b1 h2
        refine ⟨line_of (by rw [b.length]; exact hz), fun p hp => ?_⟩
        have st : Step ρ1 H1 ρ1 (upd H1 p (.tup vs)) := Step.newO hp
        exact k ρ1 _ _ (s1.trans st) (r1.new hp) ⟨p, vs, rfl, .inl ⟨.inl upd_same, r1.out hp⟩, b.mono st⟩
      · cases e
    · cases e
  · cases e
theorem pm_tupQ {x1} (h : PMA X es mr) : PM X (.Tuple es x1 pos) (eTupQ mr) := imp (pe_tup h) fun σ H Q ⟨ρ, L, S, x, S', rl, r, e, k⟩ => by
  unfold eTupQ at e
  split at e
  · rename_i xs S1 h1
    split at e
    · rename_i cs h2
      split at e
      · rename_i hz
        cases e
        refine ⟨ρ, L, S, xs, _, rl, r, h1, fun ρ1 H1 vs s1 r1 b1 => ?_⟩
        have b := plains_br b1 h2
        refine ⟨line_of (by rw [b.length]; exact hz), fun p hp => ?_⟩
        have st : Step ρ1 H1 ρ1 (upd H1 p (.tup vs)) := Step.newO hp
        exact k ρ1 _ _ (s1.trans st) (r1.new hp) ⟨p, vs, rfl, .inl ⟨.inl upd_same, r1.out hp⟩, b.mono st⟩
      · cases e
    · cases e
  · cases e
theorem atI_len {α β : Type} {xs : List α} {ys : List β} (h : xs.length = ys.length) {i : Int} {y : β} (e : L2.atI ys i = some y) : ∃ j : Nat, ys[j]? = some y ∧ L2.atI xs i = xs[j]? := by
  unfold L2.atI at e ⊢
  rw [h]
  cases hj : ixN ys.length i with
  | none => rw [hj] at e; cases e
  | some j => rw [hj] at e; exact ⟨j, e, rfl⟩
theorem pm_ixQ (ha : PM X a ma) (hb : PM X b mb) (hs : PlainIx b := by intro _ _; kernel_rfl) : PM X (.Subscript a b pos) (eIxQ ma mb) := imp (pe_ix ix_seq ha hb hs) fun σ H Q ⟨ρ, L, S, x, S', rl, r, e, k⟩ => by
  unfold eIxQ at e
  split at e
  · rename_i tss S1 h1
    split at e
    · rename_i i S2 h2
      split at e
      · rename_i ts h3
        cases e
        refine tM_two rl r h1 h2 fun ρ1 H1 v w s1 r1 b1 b2 => ?_
        obtain ⟨q, xs, rfl, hq, bq⟩ := b1
        have ew : w = .int i := by
          have z : Br X.K ρ1 H1 w (.int i) := b2
          cases z; rfl
        subst ew
        obtain ⟨j, hj, ej⟩ := atI_len bq.length h3
        obtain ⟨y, hy, by_⟩ := bq.get hj
        exact .inr (.inl ⟨q, xs, _, y, rfl, rfl, Br.sqT hq, by rw [ej]; exact hy, k ρ1 H1 y s1 r1 by_⟩)
      · cases e
    · cases e
  · cases e
theorem pm_ixU (ha : PM X a ma) (hb : PM X b mb) (hs : PlainIx b := by intro _ _; kernel_rfl) : PM X (.Subscript a b pos) (eIxU ma mb) := imp (pe_ix ix_seq ha hb hs) fun σ H Q ⟨ρ, L, S, x, S', rl, r, e, k⟩ => by
  unfold eIxU at e
  split at e
  · rename_i cs S1 h1
    split at e
    · rename_i i S2 h2
      split at e
      · rename_i c h3
        cases e
        refine tM_two rl r h1 h2 fun ρ1 H1 v w s1 r1 b1 b2 => ?_
        obtain ⟨q, xs, rfl, hq, bq⟩ := b1
        have ew : w = .int i := by
          have z : Br X.K ρ1 H1 w (.int i) := b2
          cases z; rfl
        subst ew
        obtain ⟨j, hj, ej⟩ := atI_len bq.length h3
        obtain ⟨y, hy, by_⟩ := bq.get hj
        exact .inr (.inl ⟨q, xs, _, y, rfl, rfl, Br.sqT hq, by rw [ej]; exact hy, k ρ1 H1 y s1 r1 (cb_vl by_)⟩)
      · cases e
    · cases e
  · cases e
theorem pm_tree (ha : PM X a ma) : PM X a (eTree ma) := imp ha fun σ H Q ⟨ρ, L, S, x, S', rl, r, e, k⟩ => by
  unfold eTree at e
  split at e
  · rename_i t S1 h1
    cases e
    exact ⟨ρ, L, S, _, _, rl, r, h1, k⟩
  · rename_i ts S1 h1
    cases e
    exact ⟨ρ, L, S, _, _, rl, r, h1, fun ρ1 H1 v s1 r1 b1 => k ρ1 H1 v s1 r1 (PlT.br b1)⟩
  · rename_i ts S1 h1
    cases e
    exact ⟨ρ, L, S, _, _, rl, r, h1, fun ρ1 H1 v s1 r1 b1 => k ρ1 H1 v s1 r1 (PlQ.br b1)⟩
  · cases e
theorem pm_disp1 (ha : PM X a ma) (hb : PM X b mb) (hp : PPs X pos [some a] [b] [(tM X.K ma, tM X.K mb)] := by exact pps_cons (by assumption) (by assumption) pps_nil) : PM X (.Dict [some a] [b] pos) (eDisp1 ma mb) :=
  imp (pe_disp hp (by rfl) (by rfl) (fun z => by cases z) (by show 1 ≤ 15; decide)) fun σ H Q ⟨ρ, L, S, x, S', rl, r, e, k⟩ => by
  unfold eDisp1 at e
  split at e
  · rename_i kt S1 h1
    split at e
    · rename_i t S2 h2
      split at e
      · rename_i key h3
        split at e
        · rename_i h4
          cases e
          intro m hm
          have c0 : CellB X.K (ρ ++ [m]) (upd H m (.dK [])) m (.dct []) := ⟨[], upd_same, .nil⟩
          have s0 : Step ρ H (ρ ++ [m]) (upd H m (.dK [])) := Step.cell hm
          refine tM_two (rl.mono s0) (r.alloc hm c0) h1 h2 fun ρ1 H1 v w s1 r1 b1 b2 => ?_
          have hm1 : ρ1[S.length]? = some m := kept s1 (by rw [← r.len, List.getElem?_append_right (Nat.le_refl _), Nat.sub_self]; rfl)
          obtain ⟨kvs, hk, bk⟩ := r1.cell _ _ _ hm1 h4
          cases bk
          obtain rfl := key_br (show Br X.K ρ1 H1 v kt from b1) h3
          refine ⟨hk, [(key, w)], rfl, by show 1 ≤ 15; decide, ?_⟩
          have sp := Step.put (ρ := ρ1) (H := H1) (o := .dK [(key, w)]) (List.mem_of_getElem? hm1) hk
          have bw : Br X.K ρ1 H1 w t := b2
          exact k ρ1 _ _ ((s0.trans s1).trans sp) (r1.put hm1 ⟨_, upd_same, .cons (bw.mono sp) .nil⟩ hk) ⟨m, hm1, rfl⟩
        · cases e
      · cases e
    · cases e
  · cases e
/-! ### names of a tuple's items -/
def gsU (K : PySem.W.Frag) (is : List Nat) : TGs := fun vs σ H Q => ∃ ρ L S cs L', RelL K ρ H σ L ∧ Rel K ρ H S ∧ CBs K ρ H vs cs ∧ setU is cs L = some L' ∧ ∀ σ', RelL K ρ H σ' L' → Q σ' H
def PGsU (X : Cx) (tgs : List Expr) (is : List Nat) : Prop := PGs X tgs (gsU X.K is)
theorem pgsu_nil : PGsU X [] [] := impGs pgs_nil fun v σ H Q ⟨ρ, L, S, cs, L', rl, r, b, e, k⟩ => by
  cases b with
  | nil => cases e; exact ⟨rfl, k σ rl⟩
  | cons _ _ => cases e
theorem pgsu_cons {i : Nat} {x : Str} {px : Pos} {is : List Nat} (hN : X.N.Nodup) (h2 : PGsU X es is) (hi : X.N[i]? = some x := by kernel_rfl) (hx : Loc X.env.scope x := by first | exact Or.inl rfl | exact Or.inr rfl) (hf : X.fn x = true ∨ X.env.scope.names.lookup x = some .local := by first | exact .inl rfl | exact .inr rfl | assumption)
    (hs : (assignEach (.Name x px :: es) X.env).map (·.2) = assign (.Name x px) X.env :: (assignEach es X.env).map (·.2) := by kernel_rfl) : PGsU X (.Name x px :: es) (i :: is) :=
  impGs (pgs_cons (pg_name hN hi hx hf) h2 hs) fun vs σ H Q ⟨ρ, L, S, cs, L', rl, r, b, e, k⟩ => by
    cases b with
    | nil => cases e
    | cons b1 b2 => exact ⟨_, _, rfl, ρ, _, S, _, L', rl.set (cb_vl b1), r, b2, e, k⟩
theorem pgm_tupU {kk : Nat} {is : List Nat} (hc : X.calm = true) (h : PGsU X es is) (hn : (assignEach es X.env).length = is.length := by kernel_rfl) (hst : (assignEach es X.env).findIdx? (·.1) = none := by kernel_rfl) : PGM X (.Tuple es kk pos) (tgU is) :=
  impG (pg_tup hc h hn hst) fun v σ H Q ⟨ρ, L, S, x, L', S', rl, r, b, e, k⟩ => by
    unfold tgU at e
    split at e
    · rename_i cs
      split at e
      · rename_i L1 h1
        split at e
        · rename_i hl
          cases e
          obtain ⟨q, ws, rfl, hq, bq⟩ := b
          exact ⟨q, ws, rfl, Br.sqT hq, bq.length.trans hl, ρ, L, S, cs, _, rl, r, bq, h1, fun σ' rl' => k ρ H σ' (Step.refl _ _) r rl'⟩
        · cases e
      · cases e
    · cases e
/-! ### what is dropped -/
theorem psm_dropCut (he : PM X a ma) (hs : swapsWith a none pos.line X.env = pure false := by kernel_rfl) : PSM X (.Expr a pos) (sDropCut ma) := impS (ps_expr he hs) fun D σ H ⟨ρ, L, S, o, rl, r, e, k⟩ => by
  unfold sDropCut at e
  split at e
  · rename_i x S1 h1
    cases e
    refine ⟨ρ, L, S, x, S1, rl, r, h1, fun ρ1 H1 v s1 r1 b1 => ?_⟩
    have q := r1.cut s1.pre
    rw [r.len] at q
    exact k ρ H1 σ s1.cut q (rl.mono s1.cut)
  · cases e
theorem relL_wipe {K : PySem.W.Frag} {ρ ρ' : List Addr} {H : Hp} {σ : L2.St} {L : Lc} (pre : ρ <+: ρ') (rl : RelL K ρ' H σ L) : RelL K ρ H σ (L.map (wipeV ρ.length)) := by
  have sub : ∀ a, a ∈ ρ → a ∈ ρ' := fun a h => pre.subset h
  refine ⟨by rw [List.length_map]; exact rl.len, fun i x e => ?_⟩
  rw [List.getElem?_map] at e
  cases hL : L[i]? with
  | none => rw [hL] at e; cases e
  | some o =>
    rw [hL] at e
    have e2 : wipeV ρ.length o = some x := Option.some.inj e
    cases o with
    | none => cases e2
    | some y =>
      obtain ⟨v, h1, h2⟩ := rl.at_ i y hL
      cases y with
      | d t => cases e2; exact ⟨v, h1, (show Br K ρ' H v t from h2).fewer sub⟩
      | s ns =>
        cases e2
        obtain ⟨a, e3, q⟩ := h2
        exact ⟨v, h1, a, e3, q.imp (fun ⟨z1, z2⟩ => ⟨z1, fun z => z2 (sub a z)⟩) id⟩
      | t z => cases e2; exact ⟨v, h1, h2⟩
      | g z => cases e2; exact ⟨v, h1, h2⟩
      | r m =>
        unfold wipeV at e2
        simp only at e2
        split at e2
        · rename_i hm
          cases e2
          obtain ⟨a, ha, rfl⟩ := h2
          obtain ⟨more, rfl⟩ := pre
          rw [List.getElem?_append_left hm] at ha
          exact ⟨_, h1, a, ha, rfl⟩
        · cases e2
      | f _ _ => cases e2
      | u _ => cases e2
      | p _ => cases e2
      | q _ => cases e2
theorem psm_scope {st : List Stmt} {mb : Sts} (h : PSsM X st mb) : PSsM X st (sScope mb) := impSs h fun D σ H ⟨ρ, L, S, o, rl, r, e, k⟩ => by
  have go : ∀ {ρ' : List Addr} {H' : Hp} {σ' : L2.St} {S1 : So} {L1 : Lc}, Step ρ H ρ' H' → Rel X.K ρ' H' S1 → RelL X.K ρ' H' σ' L1 → Step ρ H ρ H' ∧ Rel X.K ρ H' (S1.take S.length) ∧ RelL X.K ρ H' σ' (L1.map (wipeV S.length)) := fun st r1 l1 => by
    have q := r1.cut st.pre
    have w := relL_wipe st.pre l1
    rw [r.len] at q w
    exact ⟨st.cut, q, w⟩
  unfold sScope at e
  split at e
  · rename_i L1 S1 h1
    cases e
    exact ⟨ρ, L, S, _, rl, r, h1, fun ρ' H' σ' s1 r1 l1 => let ⟨a, b, c⟩ := go s1 r1 l1; k ρ H' σ' a b c⟩
  · rename_i L1 S1 h1
    cases e
    exact ⟨ρ, L, S, _, rl, r, h1, fun ρ' H' σ' s1 r1 l1 => let ⟨a, b, c⟩ := go s1 r1 l1; k ρ H' σ' a b c⟩
  · rename_i L1 S1 h1
    cases e
    exact ⟨ρ, L, S, _, rl, r, h1, fun ρ' H' σ' s1 r1 l1 => let ⟨a, b, c⟩ := go s1 r1 l1; k ρ H' σ' a b c⟩
  · exact ⟨ρ, L, S, o, rl, r, e, k⟩
/-- a def whose cells stay -/
theorem df_keeps {P : Program} {w : World} {K : PySem.W.Frag} {mg : Str → Option Value} {base : Heap} {x : Str} {st : Stmt} {ps N : List Str} {k np n : Nat} {b : Sts} (p : Pl K mg x st) (S : FnScope N ps (defScope st)) (hb : BiOk x st ps)
    (h : ∀ (f : Addr) (cdv : Value) (A : Around) (outer : List Env) (s : Shared) (H : Hp), Room k (A.deeper (envOfC x (defScope st) s.heap.objs.size f cdv)) → A.guards = some [] → PSsM (CxG P w K mg base N x st f cdv A outer s H) (defBody st) b) (hnp : ps.length = np := by kernel_rfl) (hnn : N.length = n := by kernel_rfl) : Df P w K mg base x st ps (k + 1) (run np n b) := by
  subst hnp hnn
  obtain ⟨f, fd, e1, e2⟩ := p
  exact ⟨⟨f, fd, e1, e2, okG e2 S (h f)⟩, hb, fun _ _ _ e => run_len e⟩
end
end Mn

set_option maxHeartbeats 1000000
/-! MnMk3: sorted(texts), xs.index(i), xs.pop(i), list(range(n)), list(x) as a new cell, zip of tuples, is True. -/
namespace Mn
open PySem PySem.Spec PyProof.Rows L2
/-! ### sorted(t), t a tuple of texts -/
section
variable {prog : Program} {w : World} {A : Around} {E : Value → Shared → Prop} {s : Shared}
theorem collect_tupleV {l : Addr} {vs : List Value} {Q : List Value → Shared → Prop} (hl : IsTup s.heap l vs.toArray) (h : ∀ h', (∀ b o, s.heap.get? b = some o → h'.get? b = some o) → s.heap.objs.size ≤ h'.objs.size → Q vs { s with heap := h' }) (hz : vs.length ≤ sizeLine) :
    wpAny (model prog w) A (collect (.ref l)) Q E s := by
  obtain ⟨o, ho, hc, n, hd⟩ := id hl
  unfold collect
  refine wpAny_bind (wpAny_runValue (codeAny_builtin F.entry_proto_collect ?_))
  rw [Around.under_plainId F.plain_proto_collect _]
  show wpAny _ A.in1 (newList [] >>= fun q => again (.builtin "list.__iadd__" ⟨[q, .ref l], []⟩)) _ _ s
  refine wpAny_bind (wpAny_newObj_type (wpAny_pure ⟨plainId_quiet F.plain_list_iadd _, codeAny_builtin F.entry_list_iadd ?_⟩))
  rw [Around.under_plainId F.plain_list_iadd _]
  show wpAny _ A.in1 (Builtin.List.listExtendWith (.ref s.heap.objs.size) (.ref l) (.ref s.heap.objs.size)) _ _ { s with heap := s.heap.push (seqObj "list" #[] 0) }
  unfold Builtin.List.listExtendWith
  have hp := Heap.get?_push_of_some (seqObj "list" #[] 0) ho
  refine wpAny_bind (wpAny_typeOf (T := "tuple") ⟨o, hp, hc⟩ ?_)
  rw [if_pos (by simp)]
  refine wpAny_bind (listItems_at hp hd (wpAny_bind (listItems_at (xs := #[]) (n := 0) (Heap.get?_push_size _ rfl) rfl ?_)))
  rw [if_neg (by simp)]
  refine wpAny_bind (listUpdate_at (xs := #[]) (n := 0) (Heap.get?_push_size _ rfl) rfl ?_ (Nat.zero_le _) (by show (#[] ++ vs.toArray).size ≤ sizeLine + 1; simp only [Array.size_append, List.size_toArray, List.length_nil]; omega))
  refine wpAny_pure ?_
  show wpAny (model prog w) A (load s.heap.objs.size >>= _) Q E _
  refine wpAny_bind (wpAny_load (get?_update_seq (Heap.get?_push_size _ rfl) _) ?_)
  show wpAny _ _ (pure ((#[] : Array Value) ++ vs.toArray).toList) Q E _
  rw [show ((#[] : Array Value) ++ vs.toArray).toList = vs by simp]
  refine wpAny_pure (h _ (fun b o e => ?_) ?_)
  · exact (Heap.get?_update_other _ _ (Nat.ne_of_gt (Heap.lt_size e))).trans (Heap.get?_push_of_some _ e)
  · rw [Heap.size_update, size_push']
    exact Nat.le_succ _
theorem sorted_tupleS {l : Addr} {vs : List Value} {ss : List Str} {Q : Value → Shared → Prop} (hl : IsTup s.heap l vs.toArray) (hS : StrsAre vs ss) (hL : vs.length < 64)
    (h : ∀ (h' : Heap) (p : Addr) (out : Array Value) (ys : List Str) (c : Nat), (∀ b o, s.heap.get? b = some o → h'.get? b = some o) → s.heap.objs.size ≤ p → h'.get? p = some (seqObj "list" out c) → StrsAre out.toList ys → ys.Perm ss → sortedS ys = true → Q (.ref p) { s with heap := h' }) :
    wpAny (model prog w) A (call (.builtin "sorted") [.ref l]) Q E s := by
  refine Calls.call_function_entry kind_sorted plain_sorted entry_sorted (args_sorted1 _) ?_
  unfold Builtin.«sorted»
  refine wpAny_bind (m := checkCount "sorted" 1 1 _) (wpAny_pure ?_)
  refine wpAny_bind (collect_tupleV hl (fun h1 k1 hz => ?_) (by rw [sizeLine_eq]; omega))
  refine wpAny_bind (wpAny_newList ?_ (by rw [sizeLine_eq]; omega))
  have hoL : (h1.push (seqObj "list" vs.toArray 0)).get? h1.objs.size = some (seqObj "list" vs.toArray 0) := Heap.get?_push_size _ rfl
  refine wpAny_bind (wpAny_holding (wpAny_call_entry slot_list_sort ⟨_, hoL, rfl⟩ entry_list_sort (list_sort_treeK PyProof.Rows.strKind_oneLt (s := { s with heap := h1.push (seqObj "list" vs.toArray 0) }) hoL hS.keysOf (fun v₁ v₂ rest e => keyKind_strs (by rw [← e]; exact hS)) hL fun st' hp hs => ⟨_, rfl, ?_⟩) (args_list_sort _)))
  obtain ⟨ys, q1, q2, q3⟩ := sorted_out_str hS hp hs
  obtain ⟨c, hc⟩ := sortedHeap_at (vs := vs) (out := (arrOf st').map (·.2)) hoL
  refine wpAny_pure ⟨_, rfl, h _ h1.objs.size _ ys c (fun b u e => ?_) hz hc q1 q2 q3⟩
  have q := k1 b u e
  have hlt := Heap.lt_size q
  show (sortedHeap (h1.push (seqObj "list" vs.toArray 0)) h1.objs.size vs ((arrOf st').map (·.2))).get? b = some u
  rw [sortedHeap_old (Nat.ne_of_lt hlt) (by rw [size_push']; exact Nat.lt_succ_of_lt hlt)]
  exact Heap.get?_push_of_some _ q
end
section
variable {X : Cx}
theorem call_sortedTS : CallR X (.builtin "sorted") (fun vs H Q => ∃ (a : Addr) (xs : List Str), vs = [V.ref a] ∧ (SqL X.K H a (xs.map V.str) ∨ SqT X.K H a (xs.map V.str)) ∧ xs.length < 64 ∧ ∀ (ys : List Str) (p : Addr), ys.Perm xs → sortedS ys = true → H p = none → Q (.ref p) (upd H p (.lst (ys.map V.str)))) := by
  intro pins s σ H vs us Q I r h
  obtain ⟨a, xs, ev, hs, h64, q⟩ := h
  rcases hs with hs | hs
  · exact cr_sortedS pins s σ H vs us Q I r ⟨a, xs, ev, hs, h64, q⟩
  · subst ev
    obtain ⟨its, rv, tp, _⟩ := I.tuple hs
    rw [Vals.ref1 r]
    have hl0 := rv.length
    rw [List.length_map] at hl0
    refine sorted_tupleS tp rv.strs (by rw [← hl0]; exact h64) fun h' p out ys c kp hp hc h1 h2 h3 => ?_
    have hlen : (ys.map V.str).length ≤ sizeLine := by rw [List.length_map, h2.length_eq]; exact small64 h64
    exact ⟨.ref p, upd H p (.lst (ys.map V.str)), I.laid (t' := s.toks) kp hp ⟨hlen, out.toList, c, vals_of_strs h1, by simpa [seqObj] using hc⟩, rfl, q ys p h2 h3 (I.hok.fresh hp)⟩
end
/-! ### what they do -/
def strsT : List T → Option (List Str)
  | [] => some []
  | .str x :: r => (match strsT r with
    | some xs => some (x :: xs)
    | none => none)
  | _ :: _ => none
/-- sorted(texts), a list or a tuple -/
def eSortT (m : Sem) : Sem := fun L S => match m L S with
  | some (.d (.list ts), S1) => (match strsT ts with
    | some xs => if xs.length < 64 then some (.d (.list ((sortS xs).map PyData.str)), S1) else none
    | none => none)
  | some (.d (.tuple ts), S1) => (match strsT ts with
    | some xs => if xs.length < 64 then some (.d (.list ((sortS xs).map PyData.str)), S1) else none
    | none => none)
  | _ => none
def isIntT : T → Bool
  | .int _ => true
  | _ => false
/-- the first place of an int -/
def idxI (i : Int) : List T → Option Nat
  | [] => none
  | .int j :: r => if j = i then some 0 else (idxI i r).map (· + 1)
  | _ :: _ => none
/-- xs.index(i), a list of ints that never changes -/
def eIndex (o a : Sem) : Sem := fun L S => match o L S with
  | some (.d (.list ts), S1) => (match a L S1 with
    | some (.d (.int i), S2) => if ts.all isIntT = true then (match idxI i ts with
      | some j => some (.d (.int (j : Nat)), S2)
      | none => none) else none
    | _ => none)
  | _ => none
/-- xs.pop(i), a cell's list -/
def ePopAt (o a : Sem) : Sem := fun L S => match eCell o a L S with
  | some (n, .d (.int i), ts, S2) => if 0 ≤ i ∧ i < 4294967296 then (match ts[i.toNat]? with
    | some t => some (.d t, S2.set n (.lst (ts.eraseIdx i.toNat)))
    | none => none) else none
  | _ => none
/-- list(range(n)) -/
def eListRng (a : Sem) : Sem := fun L S => match a L S with
  | some (.d (.int n), S1) => if 0 ≤ n ∧ n ≤ 1000 then some (.d (.list (intsT n.toNat)), S1) else none
  | _ => none
/-- list(x) as a new cell -/
def eListN (m : Sem) : Sem := fun L S => match m L S with
  | some (.d (.list ts), S1) => some (.r S1.length, S1 ++ [.lst ts])
  | some (.d (.tuple ts), S1) => some (.r S1.length, S1 ++ [.lst ts])
  | _ => none
def zipT : List T → List T → List T
  | t :: r, u :: q => .tuple [t, u] :: zipT r q
  | _, _ => []
/-- zip of two tuples -/
def iZipM (r : Sems) : SemI := fun L S => match r L S with
  | some ([.d (.tuple ts), .d (.tuple us)], S1) => some (zipT ts us, S1)
  | _ => none
def fIsB : T → T → Option T
  | .bool a, .bool b => some (.bool (decide (a = b)))
  | _, _ => none
def fNotB : T → T → Option T
  | .bool a, .bool b => some (.bool (!decide (a = b)))
  | _, _ => none
variable [Lams]
theorem o_isB {X : Cx} : Op2 X (compareOp .Is) fIsB := ⟨_, op_is_bl, fun ρ H S v w t u z Q rs dv dw e k => by
  unfold fIsB at e
  split at e
  · cases e
    exact ⟨_, _, dv.bl, dw.bl, k H _ (Step.refl _ _) rs (.bl _)⟩
  · cases e⟩
theorem o_notB {X : Cx} : Op2 X (compareOp .IsNot) fNotB := ⟨_, op_isnot_bl, fun ρ H S v w t u z Q rs dv dw e k => by
  unfold fNotB at e
  split at e
  · cases e
    exact ⟨_, _, dv.bl, dw.bl, k H _ (Step.refl _ _) rs (.bl _)⟩
  · cases e⟩
theorem strs_br {K : PySem.W.Frag} {ρ : List Addr} {H : Hp} : ∀ {vs : List V} {ts : List T} {xs : List Str}, BrA K ρ H vs ts → strsT ts = some xs → vs = xs.map V.str ∧ ∀ x ∈ xs, PyData.strOk x = true
  | _, _, _, .nil, e => by cases e; exact ⟨rfl, fun _ h => by simp at h⟩
  | _, _, xs, .cons b a, e => by
    unfold strsT at e
    split at e
    · rename_i q; cases q
    · rename_i x r q
      cases q
      split at e
      · rename_i ys hy
        cases e
        obtain ⟨h1, h2⟩ := strs_br a hy
        cases b with
        | str _ ho => exact ⟨by rw [h1]; rfl, fun z hz => (List.mem_cons.mp hz).elim (fun q => by rw [q]; exact ho) (h2 z)⟩
      · cases e
    · cases e
theorem br_strs {K : PySem.W.Frag} {ρ : List Addr} {H : Hp} : ∀ {xs : List Str}, (∀ x ∈ xs, PyData.strOk x = true) → BrA K ρ H (xs.map V.str) (xs.map PyData.str)
  | [], _ => .nil
  | x :: r, h => .cons (.str x (h x (List.mem_cons_self ..))) (br_strs fun y hy => h y (List.mem_cons_of_mem _ hy))
section
variable {X : Cx} {p q pos apos cpos : Pos} {a b o e : Expr} {ma mb mo me : Sem} {mr : Sems}
theorem pm_sortT (hg : Gl X "sorted") (hm : X.mg "sorted" = none) (ha : PM X a ma) (hs : starEach [a] X.env = (false, eval a X.env) :: starEach [] X.env := by kernel_rfl) (hpl : (backTo pos (starEach [] X.env)).any (·.1) = false := by kernel_rfl) :
    PM X (.Call (.Name "sorted" p) [a] [] pos) (eSortT ma) := imp (pe_callB call_sortedTS hg hm (by decide +kernel) (pa_cons ha pa_nil hs) (by decide) (by decide) hs hpl) fun σ H Q ⟨ρ, L, S, y, S', rl, r, e, k⟩ => by
  have fin : ∀ {ts : List T} {xs : List Str} {ρ1 : List Addr} {H1 : Hp} {vs : List V}, BrA X.K ρ1 H1 vs ts → strsT ts = some xs → Rel X.K ρ1 H1 S' → y = .d (.list ((sortS xs).map PyData.str)) → Step ρ H ρ1 H1 → vs = xs.map V.str ∧ ∀ (ys : List Str) (m : Addr), ys.Perm xs → sortedS ys = true → H1 m = none → Q (.ref m) (upd H1 m (.lst (ys.map V.str))) := fun {ts xs ρ1 H1 vs} b h2 r1 ey s1 => by
    obtain ⟨h3, h4⟩ := strs_br b h2
    refine ⟨h3, fun ys m pm so hm => ?_⟩
    subst ey
    rw [sortedS_eq pm so]
    exact k ρ1 _ _ (s1.trans (Step.newO hm)) (r1.new hm) (.lst ⟨upd_same, r1.out hm⟩ (br_strs fun x hx => h4 x ((sortS_perm xs).mem_iff.mp hx)))
  unfold eSortT at e
  split at e
  · rename_i ts S1 h1
    split at e
    · rename_i xs h2
      split at e
      · rename_i hz
        cases e
        refine ⟨ρ, L, S, _, _, rl, r, h1, fun ρ1 H1 v s1 r1 b1 => ?_⟩
        obtain ⟨n, ws, rfl, h3, b3⟩ := (Dv.t b1 : Dv X.K ρ1 H1 v (.list ts)).list
        obtain ⟨rfl, fz⟩ := fin b3 h2 r1 rfl s1
        exact ⟨n, xs, rfl, .inl (.inl (.inl h3)), hz, fz⟩
      · cases e
    · cases e
  · rename_i ts S1 h1
    split at e
    · rename_i xs h2
      split at e
      · rename_i hz
        cases e
        refine ⟨ρ, L, S, _, _, rl, r, h1, fun ρ1 H1 v s1 r1 b1 => ?_⟩
        obtain ⟨n, ws, rfl, h3, b3⟩ := (Dv.t b1 : Dv X.K ρ1 H1 v (.tuple ts)).tuple
        obtain ⟨rfl, fz⟩ := fin b3 h2 r1 rfl s1
        exact ⟨n, xs, rfl, .inr (Br.sqT h3), hz, fz⟩
      · cases e
    · cases e
  · cases e
theorem ints_flat {K : PySem.W.Frag} {ρ : List Addr} {H : Hp} : ∀ {vs : List V} {ts : List T}, BrA K ρ H vs ts → ts.all isIntT = true → vs.all flatV = true
  | _, _, .nil, _ => rfl
  | _, _, .cons b a, h => by
    rw [List.all_cons, Bool.and_eq_true] at h ⊢
    refine ⟨?_, ints_flat a h.2⟩
    cases b <;> first | rfl | cases h.1
theorem idx_br {K : PySem.W.Frag} {ρ : List Addr} {H : Hp} {i : Int} : ∀ {vs : List V} {ts : List T} {j : Nat}, BrA K ρ H vs ts → idxI i ts = some j → vs[j]? = some (.int i) ∧ ∀ (m : Nat) (z : V), m < j → vs[m]? = some z → eqV z (.int i) = false
  | _, _, _, .nil, e => by cases e
  | _, _, j, .cons (ts := r) b a, e => by
    cases b with
    | int k =>
      unfold idxI at e
      split at e
      · rename_i hk
        cases e
        subst hk
        exact ⟨rfl, fun m z h => by omega⟩
      · rename_i hk
        cases hi : idxI i r with
        | none => rw [hi] at e; cases e
        | some j' =>
          rw [hi] at e
          cases e
          obtain ⟨h1, h2⟩ := idx_br a hi
          refine ⟨h1, fun m z hm hz => ?_⟩
          cases m with
          | zero =>
            cases hz
            show (k == i) = false
            simpa using hk
          | succ m => exact h2 m z (Nat.lt_of_succ_lt_succ hm) hz
    | non => cases e
    | bl _ => cases e
    | str _ _ => cases e
    | tup _ _ => cases e
    | lst _ _ => cases e
theorem pm_index (ho : PM X o mo) (ha : PM X e me) (hbase : attributeBase o "index" X.env (eval o X.env) = eval o X.env := by kernel_rfl)
    (hfew : ((backTo cpos (starEach [e] X.env)).all (fun x => !x.1) && (backToKw cpos (keywordEach [] X.env)).all (fun x => x.1.isSome) && decide ([e].length + ([] : List Keyword).length + (if ([] : List Keyword).isEmpty then 0 else 1) < 30)) = true := by kernel_rfl)
    (hline : (apos.endLine == cpos.line) = true := by kernel_rfl) (hs : starEach [e] X.env = (false, eval e X.env) :: starEach [] X.env := by kernel_rfl) (hplain : (backTo cpos (starEach [] X.env)).any (·.1) = false := by kernel_rfl) : PM X (.Call (.Attribute o "index" apos) [e] [] cpos) (eIndex mo me) :=
  imp (pe_bm F.plainAttrs_list F.slot_list_index F.type_list_index mt_index ho (pa_cons ha pa_nil hs) hbase hfew hline hs hplain) fun σ H Q ⟨ρ, L, S, x, S', rl, r, e, k⟩ => by
    unfold eIndex at e
    split at e
    · rename_i ts S1 h1
      split at e
      · rename_i i S2 h2
        split at e
        · rename_i hz
          split at e
          · rename_i j hj
            cases e
            refine ⟨ρ, L, S, _, S1, rl, r, h1, fun ρ1 H1 v s1 r1 b1 => ?_⟩
            have b1' : Br X.K ρ1 H1 v (.list ts) := b1
            cases b1' with
            | @lst n ws _ h3 b3 =>
              refine ⟨.inl ⟨rfl, ws, Br.sqL h3⟩, ρ1, L, S1, _, _, rl.mono s1, r1, h2, fun ρ2 H2 w s2 r2 b2 => ?_⟩
              have bw : Br X.K ρ2 H2 w (.int i) := b2
              cases bw
              have bz := b3.mono s2
              obtain ⟨q1, q2⟩ := idx_br bz hj
              exact ⟨n, ws, .int i, j, .int i, rfl, rfl, Br.sqL (h3.mono s2), rfl, ints_flat bz hz, q1, by show (i == i) = true; simp, q2, k ρ2 H2 _ (s1.trans s2) r2 (.int _)⟩
          · cases e
        · cases e
      · cases e
    · cases e
theorem BrA.erase {K : PySem.W.Frag} {ρ : List Addr} {H : Hp} : ∀ {vs : List V} {ts : List T} (j : Nat), BrA K ρ H vs ts → BrA K ρ H (vs.eraseIdx j) (ts.eraseIdx j)
  | _, _, _, .nil => .nil
  | _, _, 0, .cons _ a => a
  | _, _, j + 1, .cons b a => .cons b (BrA.erase j a)
theorem pm_popAt (ho : PM X o mo) (ha : PM X e me) (hbase : attributeBase o "pop" X.env (eval o X.env) = eval o X.env := by kernel_rfl)
    (hfew : ((backTo cpos (starEach [e] X.env)).all (fun x => !x.1) && (backToKw cpos (keywordEach [] X.env)).all (fun x => x.1.isSome) && decide ([e].length + ([] : List Keyword).length + (if ([] : List Keyword).isEmpty then 0 else 1) < 30)) = true := by kernel_rfl)
    (hline : (apos.endLine == cpos.line) = true := by kernel_rfl) (hs : starEach [e] X.env = (false, eval e X.env) :: starEach [] X.env := by kernel_rfl) (hplain : (backTo cpos (starEach [] X.env)).any (·.1) = false := by kernel_rfl) : PM X (.Call (.Attribute o "pop" apos) [e] [] cpos) (ePopAt mo me) :=
  imp (pe_bm F.plainAttrs_list F.slot_list_pop F.type_list_pop mt_popAt ho (pa_cons ha pa_nil hs) hbase hfew hline hs hplain) fun σ H Q ⟨ρ, L, S, x, S', rl, r, e, k⟩ => by
    unfold ePopAt at e
    split at e
    · rename_i n i ts S2 h1
      split at e
      · rename_i hz
        split at e
        · rename_i t ht
          cases e
          refine tM_cell rl r h1 fun ρ1 H1 a xs v s1 r1 ha hx bx bv => ?_
          have bv' : Br X.K ρ1 H1 v (.int i) := bv
          cases bv'
          obtain ⟨w, hw, bw⟩ := bx.get ht
          have hlt : i.toNat < xs.length := (List.getElem?_eq_some_iff.mp hw).1
          have hseq : seqIndex? i xs.length = some i.toNat := by
            unfold seqIndex?
            have h0 : ¬ i < 0 := by omega
            simp only [h0, if_false]
            rw [if_pos (by simp; omega)]
          have st := Step.put (ρ := ρ1) (H := H1) (o := .lst (xs.eraseIdx i.toNat)) (List.mem_of_getElem? ha) hx
          exact ⟨a, xs, i, i.toNat, w, rfl, rfl, hx, by omega, by omega, hseq, hw, k ρ1 _ _ (s1.trans st) (r1.put ha ⟨_, upd_same, (bx.erase _).mono st⟩ hx) (bw.mono st)⟩
        · cases e
      · cases e
    · cases e
theorem rg_br {K : PySem.W.Frag} {ρ : List Addr} {H : Hp} (n : Nat) : BrA K ρ H ((List.range n).map fun i => V.int (0 + (i : Nat))) (intsT n) := by
  unfold intsT
  have go : ∀ l : List Nat, BrA K ρ H (l.map fun i => V.int (0 + (i : Nat))) (l.map fun i => PyData.int (i : Nat)) := fun l => by
    induction l with
    | nil => exact .nil
    | cons x r ih => exact .cons (by show Br K ρ H (V.int (0 + (x : Int))) (.int x); rw [Int.zero_add]; exact .int _) ih
  exact go _
theorem pm_listRng (hc : X.calm = true) (hg : Gl X "list") (hm : X.mg "list" = none) (hg2 : Gl X "range") (hm2 : X.mg "range" = none) (ha : PM X a ma) (hs : starEach [a] X.env = (false, eval a X.env) :: starEach [] X.env := by kernel_rfl)
    (hs2 : starEach [.Call (.Name "range" q) [a] [] cpos] X.env = (false, eval (.Call (.Name "range" q) [a] [] cpos) X.env) :: starEach [] X.env := by kernel_rfl) : PM X (.Call (.Name "list" p) [.Call (.Name "range" q) [a] [] cpos] [] pos) (eListRng ma) :=
  imp (pe_listRg hc hg hm (prg_1 hg2 hm2 ha hs) hs2) fun σ H Q ⟨ρ, L, S, x, S', rl, r, e, k⟩ => by
    unfold eListRng at e
    split at e
    · rename_i n S1 h1
      split at e
      · rename_i hz
        cases e
        refine ⟨ρ, L, S, _, _, rl, r, h1, fun ρ1 H1 v s1 r1 b1 => ?_⟩
        have b1' : Br X.K ρ1 H1 v (.int n) := b1
        cases b1'
        refine ⟨n, rfl, RgOk.of_le (by omega) (by omega) (by omega) (by omega), fun m hm => ?_⟩
        unfold rgV
        rw [Int.sub_zero]
        exact k ρ1 _ _ (s1.trans (Step.newO hm)) (r1.new hm) (.lst ⟨upd_same, r1.out hm⟩ (rg_br _))
      · cases e
    · cases e
theorem new_lst {K : PySem.W.Frag} {ρ : List Addr} {H : Hp} {S : So} {m : Addr} {xs : List V} {ts : List T} (r : Rel K ρ H S) (hm : H m = none) (b : BrA K ρ H xs ts) :
    Rel K (ρ ++ [m]) (upd H m (.lst xs)) (S ++ [.lst ts]) ∧ VB K (ρ ++ [m]) (upd H m (.lst xs)) (.ref m) (.r S.length) :=
  ⟨r.alloc hm ⟨_, upd_same, b.mono (Step.cell hm)⟩, m, by rw [← r.len, List.getElem?_append_right (Nat.le_refl _), Nat.sub_self]; rfl, rfl⟩
theorem pm_listN (hg : Gl X "list") (hm : X.mg "list" = none) (ha : PM X a ma) (hs : starEach [a] X.env = (false, eval a X.env) :: starEach [] X.env := by kernel_rfl) (hpl : (backTo pos (starEach [] X.env)).any (·.1) = false := by kernel_rfl) :
    PM X (.Call (.Name "list" p) [a] [] pos) (eListN ma) := imp (pe_callTy call_list_of hg hm (by decide +kernel) (pa_cons ha pa_nil hs) (by decide) (by decide) hs hpl) fun σ H Q ⟨ρ, L, S, y, S', rl, r, e, k⟩ => by
  unfold eListN at e
  split at e
  · rename_i ts S1 h1
    cases e
    refine ⟨ρ, L, S, _, _, rl, r, h1, fun ρ1 H1 v s1 r1 b1 => ?_⟩
    obtain ⟨n, ws, rfl, h3, b3⟩ := (Dv.t b1 : Dv X.K ρ1 H1 v (.list ts)).list
    refine ⟨n, ws, rfl, .inl (.inl (.inl h3)), fun m hm => ?_⟩
    obtain ⟨r2, v2⟩ := new_lst r1 hm b3
    exact k _ _ _ (s1.trans (Step.cell hm)) r2 v2
  · rename_i ts S1 h1
    cases e
    refine ⟨ρ, L, S, _, _, rl, r, h1, fun ρ1 H1 v s1 r1 b1 => ?_⟩
    obtain ⟨n, ws, rfl, h3, b3⟩ := (Dv.t b1 : Dv X.K ρ1 H1 v (.tuple ts)).tuple
    refine ⟨n, ws, rfl, .inr (Br.sqT h3), fun m hm => ?_⟩
    obtain ⟨r2, v2⟩ := new_lst r1 hm b3
    exact k _ _ _ (s1.trans (Step.cell hm)) r2 v2
  · cases e
theorem zip_get : ∀ {ts us : List T} {i : Nat} {z : T}, (zipT ts us)[i]? = some z → ∃ t u, ts[i]? = some t ∧ us[i]? = some u ∧ z = .tuple [t, u]
  | [], us, i, z, e => by unfold zipT at e; simp at e
  | t :: r, [], i, z, e => by unfold zipT at e; simp at e
  | t :: r, u :: q, 0, z, e => by unfold zipT at e; simp at e; exact ⟨t, u, rfl, rfl, e.symm⟩
  | t :: r, u :: q, i + 1, z, e => by
    unfold zipT at e
    obtain ⟨a, b, h1, h2, h3⟩ := zip_get (ts := r) (us := q) (i := i) (by simpa using e)
    exact ⟨a, b, by simpa using h1, by simpa using h2, h3⟩
theorem zip_len : ∀ {ts us : List T}, (zipT ts us).length = min ts.length us.length
  | [], us => by unfold zipT; simp
  | t :: r, [] => by unfold zipT; simp
  | t :: r, u :: q => by unfold zipT; rw [List.length_cons, zip_len (ts := r) (us := q), List.length_cons, List.length_cons]; omega
theorem pim_zip {tpos : Pos} {elts : List Expr} {kk : Nat} (hg : Gl X "zip") (hm : X.mg "zip" = none) (ha : PMA X [a, b] mr) (hs : starEach [a, b] X.env = (false, eval a X.env) :: starEach [b] X.env := by kernel_rfl) (hpl : (backTo pos (starEach [b] X.env)).any (·.1) = false := by kernel_rfl) :
    PIM X (.Tuple elts kk tpos) (.Call (.Name "zip" p) [a, b] [] pos) (iZipM mr) := impI (RZ.pi_zipA hg hm ha hs hpl) fun σ H R ⟨ρ, L, S, ts, S', rl, r, e, k⟩ => by
  unfold iZipM at e
  split at e
  · rename_i us ws S1 h1
    cases e
    refine ⟨ρ, L, S, _, _, rl, r, h1, fun ρ1 H1 vs s1 r1 b1 => ?_⟩
    cases b1 with
    | cons c1 b1 => cases b1 with
      | cons c2 b1 =>
        cases b1
        obtain ⟨p1, xs, rfl, h2, b2⟩ := (Dv.t c1 : Dv X.K ρ1 H1 _ (.tuple us)).tuple
        obtain ⟨p2, ys, rfl, h3, b3⟩ := (Dv.t c2 : Dv X.K ρ1 H1 _ (.tuple ws)).tuple
        refine ⟨p1, p2, xs, ys, rfl, .inr ⟨Br.sqT h2, Br.sqT h3, k ρ1 H1 _ (fun ρ H => (Tk X.K ρ H p1 xs ∧ BrA X.K ρ H xs us) ∧ Tk X.K ρ H p2 ys ∧ BrA X.K ρ H ys ws) s1 r1 ⟨fun s c => ⟨⟨c.1.1.mono s, c.1.2.mono s⟩, c.2.1.mono s, c.2.2.mono s⟩, fun {ρ H i} c hi => ?_, fun {ρ H i} c hi => ?_, fun {ρ H S i x H' t} c rr y ht => ?_⟩ ⟨⟨h2, b2⟩, h3, b3⟩⟩⟩
        · rw [zip_len] at hi
          obtain ⟨v, hv, _⟩ := c.1.2.get (List.getElem?_eq_getElem (show i < us.length by omega))
          obtain ⟨w, hw, _⟩ := c.2.2.get (List.getElem?_eq_getElem (show i < ws.length by omega))
          exact ⟨xs, ys, v, w, Br.sqT c.1.1, Br.sqT c.2.1, hv, hw⟩
        · rw [zip_len] at hi
          refine ⟨xs, ys, Br.sqT c.1.1, Br.sqT c.2.1, ?_⟩
          rw [c.1.2.length, c.2.2.length]
          omega
        · obtain ⟨T0, x1, y1, rfl, hT, rfl, q1, q2⟩ := y
          obtain ⟨t1, u1, e1, e2, rfl⟩ := zip_get ht
          obtain ⟨v, hv, bv⟩ := c.1.2.get e1
          obtain ⟨w, hw, bw⟩ := c.2.2.get e2
          have z1 := q1 xs (Br.sqT c.1.1)
          have z2 := q2 ys (Br.sqT c.2.1)
          rw [hv] at z1
          rw [hw] at z2
          cases z1
          cases z2
          have st : Step ρ H ρ (upd H T0 (.tup [x1, y1])) := Step.newO hT
          exact ⟨st, rr.new hT, .tup (.inl ⟨.inl upd_same, rr.out hT⟩) (.cons (bv.mono st) (.cons (bw.mono st) .nil))⟩
  · cases e
end
end Mn

set_option maxHeartbeats 1000000
/-! MnMk4: {.. for .. in d.items()}; defs with lambdas; the law's call where tables of code objects are tracked. -/
namespace Mn
open PySem PySem.Spec PyProof.Rows L2
variable [Lams]
section
variable {K : PySem.W.Frag} {ρ : List Addr} {H H' : Hp}
mutual
theorem Br.same (hs : ∀ b o, b ∉ ρ → H b = some o → (∀ ps, o ≠ .tbl ps) → H' b = some o) : ∀ {v : V} {t : T}, Br K ρ H v t → Br K ρ H' v t
  | _, _, .non => .non
  | _, _, .bl b => .bl b
  | _, _, .int i => .int i
  | _, _, .str x h => .str x h
  | _, _, .tup h a => .tup (h.imp (fun ⟨q, n⟩ => ⟨q.imp (fun q => hs _ _ n q (fun _ z => by cases z)) (fun ⟨o, q⟩ => ⟨o, hs _ _ n q (fun _ z => by cases z)⟩), n⟩) id) (BrA.same hs a)
  | _, _, .lst h a => .lst ⟨hs _ _ h.2 h.1 (fun _ z => by cases z), h.2⟩ (BrA.same hs a)
theorem BrA.same (hs : ∀ b o, b ∉ ρ → H b = some o → (∀ ps, o ≠ .tbl ps) → H' b = some o) : ∀ {vs : List V} {ts : List T}, BrA K ρ H vs ts → BrA K ρ H' vs ts
  | _, _, .nil => .nil
  | _, _, .cons h a => .cons (Br.same hs h) (BrA.same hs a)
end
theorem BrKv.same (hs : ∀ b o, b ∉ ρ → H b = some o → (∀ ps, o ≠ .tbl ps) → H' b = some o) : ∀ {vs : List (Key × V)} {ts : List (Key × T)}, BrKv K ρ H vs ts → BrKv K ρ H' vs ts
  | _, _, .nil => .nil
  | _, _, .cons h a => .cons (h.same hs) (BrKv.same hs a)
/-- a locked cell is let go -/
theorem Rel.unlock {S : So} {n : Nat} {a : Addr} {o : Obj} {u w : HO} {c : Cell} (r : Rel K ρ H S) (ha : ρ[n]? = some a) (hl : H a = some (.frz o u)) (hc : CellB K ρ (upd H a w) a c) : Rel K ρ (upd H a w) (S.set n c) := by
  have nt : ∀ ps, w ≠ .tbl ps := by
    obtain ⟨o', e, n, _⟩ := hc.obj
    rw [upd_same] at e
    cases e
    exact n
  have hm : a ∈ ρ := List.mem_of_getElem? ha
  have hs : ∀ b o, b ∉ ρ → H b = some o → (∀ ps, o ≠ .tbl ps) → upd H a w b = some o := fun b o nb e _ => by rw [upd_ne fun z : b = a => nb (z ▸ hm)]; exact e
  refine ⟨by rw [List.length_set]; exact r.len, r.nd, fun m b c' hb hc' => ?_, tabs_upd r.tabs (fun _ z => by rw [hl] at z; cases z) (fun _ _ z => by rw [hl] at z; unfold LamX.CodeO at z; cases z), only_upd r.only nt⟩
  by_cases hn : n = m
  · subst hn
    rw [ha] at hb
    cases hb
    rw [List.getElem?_set_self (by rw [← r.len]; exact (List.getElem?_eq_some_iff.mp ha).1)] at hc'
    cases hc'
    exact hc
  · rw [List.getElem?_set_ne hn] at hc'
    have ne : b ≠ a := fun z => hn (nodup_at r.nd (by rw [← z] at ha; exact ha) hb)
    have q := r.cell m b c' hb hc'
    cases c' with
    | lst ts =>
      obtain ⟨xs, e, b⟩ := q
      exact ⟨xs, by rw [upd_ne ne]; exact e, b.same hs⟩
    | dct ts =>
      obtain ⟨xs, e, b⟩ := q
      exact ⟨xs, by rw [upd_ne ne]; exact e, b.same hs⟩
    | lock =>
      obtain ⟨o, u, e⟩ := q
      exact ⟨o, u, by rw [upd_ne ne]; exact e⟩
theorem BrKv.get : ∀ {vs : List (Key × V)} {ts : List (Key × T)} {i : Nat} {k : Key} {v : V}, BrKv K ρ H vs ts → vs[i]? = some (k, v) → ∃ t, ts[i]? = some (k, t) ∧ Br K ρ H v t
  | _, _, _, _, _, .nil, e => by simp at e
  | _, _, 0, _, _, .cons h _, e => by simp at e; obtain ⟨rfl, rfl⟩ := e; exact ⟨_, rfl, h⟩
  | _, _, i + 1, k, v, .cons _ a, e => by
    obtain ⟨t, h1, h2⟩ := BrKv.get (i := i) (k := k) (v := v) a (by simpa using e)
    exact ⟨t, by simpa using h1, h2⟩
end
section
variable {X : Cx}
theorem tM_dcI {K : PySem.W.Frag} {i : Nat} {own : List (Str × Nat)} {f : TgF} {g : TG} {mk mv : Sem} (hgf : TgC K (own.map (·.2)) g f) : ∀ σ H Q, tM K (eDcI i f (own.map (·.2)) mk mv) σ H Q → tLockE (tDc (iItems (tVar i)) g (tMT K eYes) (tM K mk) (tM K mv) (own.map (·.2))) σ H Q := fun σ H Q ⟨ρ, L, S, x, S', rl, r, e, k⟩ => by
    unfold eDcI at e
    split at e
    · rename_i n hL
      split at e
      · rename_i kts hS
        split at e
        · rename_i hok
          split at e
          · rename_i S2 h2
            split at e
            · rename_i out h3 h4
              cases e
              obtain ⟨v, hσ, a, ha, rfl⟩ := rl.at_ i _ hL
              obtain ⟨kvs, hka, bk⟩ := r.cell n a _ ha hS
              have hm : a ∈ ρ := List.mem_of_getElem? ha
              refine ⟨a, .dK kvs, hka, trivial, fun od => ?_⟩
              have s0 : Step ρ H ρ (upd H a (.frz od (.dK kvs))) := Step.put hm hka
              have r0 : Rel K ρ (upd H a (.frz od (.dK kvs))) (S.set n .lock) := r.put ha ⟨od, _, upd_same⟩ hka
              generalize hH0 : upd H a (.frz od (.dK kvs)) = H0 at s0 r0
              have hf0 : H0 a = some (.frz od (.dK kvs)) := by rw [← hH0, upd_same]
              have gone0 : ∀ b, H0 b = none → H b = none := s0.gone
              refine ⟨_, hσ, a, od, kvs, rfl, hf0, fun D hD => ?_⟩
              have hlen : ρ.length = S.length := r.len
              let Wd : Nat → Hp → Prop := fun j H => ∃ ρ1 S1, ρ1[S.length]? = some D ∧ Step ρ H0 ρ1 H ∧ Rel K ρ1 H S1 ∧ BrKv K ρ1 H kvs kts ∧ dcN f (own.map (·.2)) mk mv S.length ((itemsT kts).drop j) L S1 = some S2
              have st0 : Step ρ H0 (ρ ++ [D]) (upd H0 D (.dK [])) := Step.cell hD
              have hil : (itemsT kts).length = kvs.length := by unfold itemsT; rw [List.length_map, bk.length]
              refine ⟨fun j m H => m = kvs.length - j ∧ j ≤ kvs.length ∧ Wd j H, ⟨kvs.length, by simp, Nat.zero_le _, ρ ++ [D], S.set n .lock ++ [.dct []], ?_, st0, r0.alloc (c := .dct []) hD ⟨[], upd_same, .nil⟩, (bk.mono s0).mono st0, by rw [List.drop_zero]; exact h2⟩, ?_⟩
              · rw [← hlen, List.getElem?_append_right (Nat.le_refl _), Nat.sub_self]
                rfl
              rintro j m Hc ⟨rfl, hj, ρ1, S1, hd1, st, r1, b1, e⟩
              have hfr := st.frz a od _ hf0
              by_cases hlt : j < kvs.length
              · have hlt2 : j < (itemsT kts).length := by rw [hil]; exact hlt
                rw [List.drop_eq_getElem_cons hlt2] at e
                refine .inr ⟨⟨hfr, hlt⟩, Wd (j + 1), fun H' w => ⟨kvs.length - (j + 1), by omega, rfl, hlt, w⟩, fun x H' y => ?_⟩
                obtain ⟨T0, k0, v0, hkv, rfl, hT, rfl⟩ := y
                obtain ⟨t0, ht0, bt0⟩ := b1.get hkv
                have s2 : Step ρ1 Hc ρ1 (upd Hc T0 (.tup [kV k0, v0])) := Step.newO hT
                have r2 := r1.new (o := .tup [kV k0, v0]) hT
                have hko : keyOk k0 = true := (List.all_eq_true.mp hok (k0, t0) (List.mem_of_getElem? ht0))
                have hit : (itemsT kts)[j] = .tuple [keyD k0, t0] := by
                  have q : (itemsT kts)[j]? = some (.tuple [keyD k0, t0]) := by unfold itemsT; rw [List.getElem?_map, ht0]; rfl
                  rw [List.getElem?_eq_getElem hlt2] at q
                  exact Option.some.inj q
                have b2 : Br K ρ1 (upd Hc T0 (.tup [kV k0, v0])) (.ref T0) (itemsT kts)[j] := by
                  rw [hit]
                  exact .tup (.inl ⟨.inl upd_same, r1.out hT⟩) (.cons (br_key hko) (.cons (bt0.mono s2) .nil))
                unfold dcN at e
                split at e
                · rename_i L1 h5
                  have rlw := ((rl.mono s0).mono (st.trans s2)).wipe (own.map (·.2))
                  refine hgf.run rlw b2 h5 fun σ' rl' hw => ⟨hw.trans wipe_wipe, ?_⟩
                  refine tMT_bool rl' r2 (show eYes L1 S1 = some (.d (.bool true), S1) from rfl) fun ρ3 H3 s3 r3 => ?_
                  rw [if_pos rfl]
                  split at e
                  · rename_i kt S3 h6
                    split at e
                    · rename_i yy S4 h7
                      split at e
                      · rename_i key h8
                        split at e
                        · rename_i acc h9
                          split at e
                          · rename_i hz
                            refine ⟨ρ3, L1, S1, _, S3, rl'.mono s3, r3, h6, fun ρ4 H4 w4 s4 r4 b4 => ⟨ρ4, L1, S3, _, S4, (rl'.mono s3).mono s4, r4, h7, fun ρ5 H5 w5 s5 r5 b5 => ?_⟩⟩
                            have s25 := ((s2.trans s3).trans s4).trans s5
                            have hd5 := kept s25 hd1
                            obtain ⟨accv, hacc, bacc⟩ := r5.cell _ _ _ hd5 h9
                            obtain rfl := key_br (show Br K ρ4 H4 w4 kt from b4) h8
                            have by_ : Br K ρ5 H5 w5 yy := b5
                            have s6 : Step ρ5 H5 ρ5 (upd H5 D (.dK (putK accv key w5))) := Step.put (List.mem_of_getElem? hd5) hacc
                            refine ⟨accv, key, rfl, hacc, Nat.lt_of_lt_of_le (by rw [bacc.length]; exact hz) (by decide), ρ5, _, hd5, st.trans (s25.trans s6), r5.put (c := .dct (putT acc key yy)) hd5 ⟨_, upd_same, (put_br by_ bacc).mono s6⟩ hacc, b1.mono (s25.trans s6), e⟩
                          · cases e
                        · cases e
                      · cases e
                    · cases e
                  · cases e
                · cases e
              · have hn : (itemsT kts).drop j = [] := List.drop_eq_nil_of_le (by omega)
                rw [hn] at e
                cases e
                refine .inl ⟨⟨hfr, by omega⟩, hfr, ?_⟩
                obtain ⟨ov, hov, bov⟩ := r1.cell _ _ _ hd1 h4
                have q := r1.cutOne st.pre hd1 (by omega) h4
                have haD : (ρ ++ [D])[n]? = some a := by
                  rw [List.getElem?_append_left (List.getElem?_eq_some_iff.mp ha).1]
                  exact ha
                have sub : ∀ b, b ∈ ρ ++ [D] → b ∈ ρ1 := fun b hb => (List.mem_append.mp hb).elim (fun z => st.pre.subset z) fun z => by rw [List.mem_singleton.mp z]; exact List.mem_of_getElem? hd1
                have bk1 : BrKv K (ρ ++ [D]) Hc kvs kts := b1.fewer sub
                have hmD : a ∈ ρ ++ [D] := List.mem_append_left _ hm
                have u := q.unlock (w := .dK kvs) (c := .dct kts) haD hfr ⟨kvs, upd_same, bk1.same fun b o nb e _ => by rw [upd_ne fun z : b = a => nb (by rw [z]; exact hmD)]; exact e⟩
                have hn2 : n < (S2.take ρ.length).length := by
                  have := q.len
                  rw [List.length_append, List.length_append] at this
                  have h9 := (List.getElem?_eq_some_iff.mp ha).1
                  simp only [List.length_singleton] at this
                  omega
                rw [List.set_append_left _ _ hn2, hlen] at u
                have neD : D ≠ a := fun z => by rw [z, hf0] at hD; cases hD
                refine k (ρ ++ [D]) (upd Hc a (.dK kvs)) (.ref D) ⟨List.prefix_append _ _, fun b hb nb => ?_, fun b o nb e nt => ?_, fun b e => ?_, fun b o w e => ?_⟩ u ⟨D, by rw [← hlen, List.getElem?_append_right (Nat.le_refl _), Nat.sub_self]; rfl, rfl⟩
                · rcases List.mem_append.mp hb with hb | hb
                  · exact absurd hb nb
                  · rw [List.mem_singleton.mp hb]
                    exact gone0 D hD
                · have nba : b ≠ a := fun z => nb (by rw [z]; exact hm)
                  rw [upd_ne nba]
                  exact st.keep b o nb (s0.keep b o nb e nt) nt
                · have nba : b ≠ a := fun z => by rw [z, upd_same] at e; cases e
                  rw [upd_ne nba] at e
                  exact gone0 b (st.gone b e)
                · have nba : b ≠ a := fun z => by rw [z, hka] at e; cases e
                  rw [upd_ne nba]
                  exact st.frz b o w (s0.frz b o w e)
            · cases e
          · cases e
        · cases e
      · cases e
    · cases e
theorem pm_dcI {dn : Str} {i : Nat} {kx vx : Expr} {elts : List Expr} {kk : Nat} {tpos pd ap cp pos : Pos} {scope : Scope} {own : List (Str × Nat)} {f : TgF} {g : TG} {mk mv : Sem} (hc : X.calm = true) (hN : X.N.Nodup) (hi : X.N[i]? = some dn) (hv : Vis X.env.scope dn) (ok : BlkOk X.N X.env.scope scope own) (hgf : TgC X.K (own.map (·.2)) g f)
    (hg : ∀ (s : Shared) (H : Hp) (C : Addr) (cl : List (Str × Addr)) (fp : List Addr), PG (X.blk s H scope (compEnvC scope cl C X.env) fp) (.Tuple elts kk tpos) g)
    (hk : ∀ (s : Shared) (H : Hp) (C : Addr) (cl : List (Str × Addr)) (fp : List Addr), PM (X.blk s H scope (compEnvC scope cl C X.env) fp) kx mk)
    (he : ∀ (s : Shared) (H : Hp) (C : Addr) (cl : List (Str × Addr)) (fp : List Addr), PM (X.blk s H scope (compEnvC scope cl C X.env) fp) vx mv)
    (hd : (dn == ("__debug__" : Str)) = false := by kernel_rfl) (hcd : (dn == ("__classdict__" : Str)) = false := by kernel_rfl) (hbase : attributeBase (.Name dn pd) "items" X.env (eval (.Name dn pd) X.env) = eval (.Name dn pd) X.env := by kernel_rfl) (hline : (ap.endLine == cp.line) = true := by kernel_rfl)
    (hs : ∀ x, foldedSetIterable (.Call (.Attribute (.Name dn pd) "items" ap) [] [] cp) X.env x = pure x := by intro _; kernel_rfl) :
    PM X (.DictComp kx vx [⟨.Tuple elts kk tpos, .Call (.Attribute (.Name dn pd) "items" ap) [] [] cp, [], 0⟩] scope pos) (eDcI i f (own.map (·.2)) mk mv) :=
  imp (pe_lock (pe_dc (tt := tMT X.K eYes) (tk := tM X.K mk) (tv := tM X.K mv) hc hN (pi_items (pe_var hi hv hd hcd) hbase hline) ok hg (fun s H C cl fp => (pmts_nil : PMTs (X.blk s H scope (compEnvC scope cl C X.env) fp) [] eYes)) (fun s H C cl fp => hk s H C cl fp) (fun s H C cl fp => he s H C cl fp) hs)) (tM_dcI hgf)
/-- y = {.. for ..}: the target is stored within the comprehension -/
theorem ps_setDc {i : Nat} {y : Str} {py : Pos} {kx vx tg iter : Expr} {ifs : List Expr} {scope : Scope} {own : List (Str × Nat)} {pos spos : Pos} {wi : TI} {g : TG} {tt : TT} {tk tv : TE} (hc : X.calm = true) (hN : X.N.Nodup) (hy : X.N[i]? = some y) (hyl : X.env.scope.names.lookup y = some .local)
    (hsw : swapsWith (.DictComp kx vx [⟨tg, iter, ifs, 0⟩] scope pos) (some (.Name y py)) spos.line X.env = pure true) (hi : PI X tg iter wi) (ok : BlkOk X.N X.env.scope scope own)
    (hg : ∀ (s : Shared) (H : Hp) (C : Addr) (cl : List (Str × Addr)) (fp : List Addr), PG (X.blk s H scope (compEnvC scope cl C X.env) fp) tg g) (ht : ∀ (s : Shared) (H : Hp) (C : Addr) (cl : List (Str × Addr)) (fp : List Addr), PTs (X.blk s H scope (compEnvC scope cl C X.env) fp) ifs tt)
    (hk : ∀ (s : Shared) (H : Hp) (C : Addr) (cl : List (Str × Addr)) (fp : List Addr), PE (X.blk s H scope (compEnvC scope cl C X.env) fp) kx tk)
    (he : ∀ (s : Shared) (H : Hp) (C : Addr) (cl : List (Str × Addr)) (fp : List Addr), PE (X.blk s H scope (compEnvC scope cl C X.env) fp) vx tv) (hs : ∀ x, foldedSetIterable iter X.env x = pure x) :
    PS X (.Assign [.Name y py] (.DictComp kx vx [⟨tg, iter, ifs, 0⟩] scope pos) spos) (tAsg (tDc wi g tt tk tv (own.map (·.2))) (gName i)) := by
  refine ⟨fun pins s σ H D I h => ?_⟩
  rw [exec_Assign_Name_used _ _ _ _ hsw]
  refine wpAny_bind (wpAny_standAt (wpAny_bind ?_))
  show wpAny _ X.A (do let _ ← comprehension (.DictComp kx vx [⟨tg, iter, ifs, 0⟩] scope pos) scope X.env (firstIterPos [⟨tg, iter, ifs, 0⟩] pos) newDict false (eval iter X.env) (some (assign (.Name y py) X.env))) _ _ s
  have h' : tDc wi g tt tk tv (own.map (·.2)) σ H (fun x H1 => gName i x σ H1 D.nx) := h
  refine wpAny_bind (thn (dc_core (Qf := fun _ s' => SP X pins D .next s') hc hN I hi ok hg ht hk he hs h' fun L C s' m H' J q hn fr => ?_) fun _ s' hq => wpAny_pure (wpAny_pure hq))
  show wpAny _ _ (assign (.Name y py) X.env (.ref L)) _ _ _
  refine wpAny_assign_Name (store_ok2 (v := V.ref L) J hN hy (.inl hyl) rfl (fun s2 J2 ⟨a, sb, ha⟩ => ?_) (.inr hyl))
  obtain ⟨z0, z1, z2, z3, z4, z5⟩ := fr
  have ne : C ≠ a := by
    rcases ha with z | z
    · rw [z]; exact z1
    · exact fun e => z4 y a z e.symm
  exact ⟨m, hn.sameBut sb ne, fun h3 sb3 => ⟨_, H', J2.turned (t' := s2.toks) (fun b o hb e => (sb3.2 b hb).trans e) z0 z1 z3 z4 z5, q⟩⟩
theorem swd_true {kx vx : Expr} {gs : List Comprehension} {scope : Scope} {pos py : Pos} {y : Str} {l : Nat} {env : Env} (hk : env.scope.kind = .function) (hy : env.scope.names.lookup y = some .local) (hl : (py.line == pos.line) = true)
    (ha : (scope.names.any fun (n, k) => n == y && (k == .local || k == .cell)) = false) : swapsWith (.DictComp kx vx gs scope pos) (some (.Name y py)) l env = pure true := by
  have ky : env.kindOf y = some .local := hy
  have hb : env.blockKind = .function := by unfold Env.blockKind; rw [hk]; rfl
  unfold swapsWith
  simp only [hb, ky, ha, Expr.pos, hl]
  rfl
theorem psm_setDcI {j : Nat} {y : Str} {py spos : Pos} {dn : Str} {i : Nat} {kx vx : Expr} {elts : List Expr} {kk : Nat} {tpos pd ap cp pos : Pos} {scope : Scope} {own : List (Str × Nat)} {f : TgF} {g : TG} {mk mv : Sem} (hc : X.calm = true) (hN : X.N.Nodup) (hy : X.N[j]? = some y) (hyl : X.env.scope.names.lookup y = some .local) (hi : X.N[i]? = some dn) (hv : Vis X.env.scope dn) (ok : BlkOk X.N X.env.scope scope own) (hgf : TgC X.K (own.map (·.2)) g f)
    (hg : ∀ (s : Shared) (H : Hp) (C : Addr) (cl : List (Str × Addr)) (fp : List Addr), PG (X.blk s H scope (compEnvC scope cl C X.env) fp) (.Tuple elts kk tpos) g)
    (hk : ∀ (s : Shared) (H : Hp) (C : Addr) (cl : List (Str × Addr)) (fp : List Addr), PM (X.blk s H scope (compEnvC scope cl C X.env) fp) kx mk)
    (he : ∀ (s : Shared) (H : Hp) (C : Addr) (cl : List (Str × Addr)) (fp : List Addr), PM (X.blk s H scope (compEnvC scope cl C X.env) fp) vx mv)
    (hsw : swapsWith (.DictComp kx vx [⟨.Tuple elts kk tpos, .Call (.Attribute (.Name dn pd) "items" ap) [] [] cp, [], 0⟩] scope pos) (some (.Name y py)) spos.line X.env = pure true) (hd : (dn == ("__debug__" : Str)) = false := by kernel_rfl) (hcd : (dn == ("__classdict__" : Str)) = false := by kernel_rfl) (hbase : attributeBase (.Name dn pd) "items" X.env (eval (.Name dn pd) X.env) = eval (.Name dn pd) X.env := by kernel_rfl) (hline : (ap.endLine == cp.line) = true := by kernel_rfl)
    (hs : ∀ x, foldedSetIterable (.Call (.Attribute (.Name dn pd) "items" ap) [] [] cp) X.env x = pure x := by intro _; kernel_rfl) :
    PSM X (.Assign [.Name y py] (.DictComp kx vx [⟨.Tuple elts kk tpos, .Call (.Attribute (.Name dn pd) "items" ap) [] [] cp, [], 0⟩] scope pos) spos) (sSet j (eDcI i f (own.map (·.2)) mk mv)) :=
  impS (ps_lock (ps_setDc (tt := tMT X.K eYes) (tk := tM X.K mk) (tv := tM X.K mv) hc hN hy hyl hsw (pi_items (pe_var hi hv hd hcd) hbase hline) ok hg (fun s H C cl fp => (pmts_nil : PMTs (X.blk s H scope (compEnvC scope cl C X.env) fp) [] eYes)) (fun s H C cl fp => hk s H C cl fp) (fun s H C cl fp => he s H C cl fp) hs)) fun D σ H h => by
    obtain ⟨d, u, h1, h2, h3⟩ := tM_dcI hgf σ H _ (tS_set D σ H h)
    exact ⟨d, u, h1, h2, h3⟩
end
end Mn

/-! MnTops: what the top has left, by tests that the kernel runs; the law's end. -/
namespace Mn
open PySem PySem.Spec PyProof.Rows L2
section
variable {K : PySem.W.Frag} {h : Heap} {mg : Str → Option Value}
/-- a def of the module -/
theorem pl_mk (X : K.In h) (G : h.Ns mainGlobals mg) {x : Str} {st : Stmt} (e : He.fnObs K (x, none) = some (x, x, defArgs st, .stmts (defBody st), defScope st, mainGlobals, [], .none, builtinsNs)) (c : (He.Fa.code (x, none) x).ok K = true) (g : (He.Fa.glo x).ok K = true) (k : (He.Fa.keep x).ok K = true) : Pl K mg x st := by
  obtain ⟨oc, od, osl, kV, doc, pm, an, cdv, ct, h1, h2⟩ := He.fn_ok (d := ⟨(x, none), x, x, defArgs st, defBody st, defScope st⟩) e c
  exact ⟨He.ga K x, _, He.glo_ok X G g, fun_mk h1 h2 (He.keep_ok k)⟩
theorem none_mk (X : K.In h) (G : h.Ns mainGlobals mg) {x : Str} (c : (He.Fa.free x).ok K = true) : mg x = none := He.free_ok X G c
end
/-! ### written values -/
mutual
def brB (K : PySem.W.Frag) : T → Value → Bool
  | .none, .none => true
  | .bool b, .bool c => b == c
  | .int i, .int j _ => decide (i = j)
  | .str x, .str y _ => decide (x = y) && PyData.strOk x
  | .tuple ts, .ref a => (match K.lookup a with
    | some ⟨.type c, _, .seq its _, _⟩ => decide (c = "tuple") && (decide (its.size ≤ 100000) && brBs K ts its.toList)
    | _ => false)
  | _, _ => false
def brBs (K : PySem.W.Frag) : List T → List Value → Bool
  | [], [] => true
  | t :: ts, u :: us => brB K t u && brBs K ts us
  | _, _ => false
end
mutual
theorem brB_ok [Lams] {K : PySem.W.Frag} : ∀ (t : T) (u : Value), brB K t u = true → ∃ v, RelV v u ∧ ∀ ρ H, Br K ρ H v t
  | .none, u, h => by
    cases u with
    | none => exact ⟨.non, rfl, fun _ _ => .non⟩
    | _ => simp [brB] at h
  | .bool b, u, h => by
    cases u with
    | bool c =>
      simp only [brB, beq_iff_eq] at h
      subst h
      exact ⟨.bl b, rfl, fun _ _ => .bl b⟩
    | _ => simp [brB] at h
  | .int i, u, h => by
    cases u with
    | int j t =>
      simp only [brB, decide_eq_true_eq] at h
      subst h
      exact ⟨.int i, ⟨t, rfl⟩, fun _ _ => .int i⟩
    | _ => simp [brB] at h
  | .str x, u, h => by
    cases u with
    | str y t =>
      simp only [brB, Bool.and_eq_true, decide_eq_true_eq] at h
      obtain ⟨rfl, h2⟩ := h
      exact ⟨.str x, ⟨t, rfl⟩, fun _ _ => .str x h2⟩
    | _ => simp [brB] at h
  | .list ts, u, h => by simp [brB] at h
  | .dict ts, u, h => by simp [brB] at h
  | .tuple ts, u, h => by
    cases u with
    | ref a =>
      simp only [brB] at h
      split at h
      · rename_i o c od its n osl hl
        simp only [Bool.and_eq_true, decide_eq_true_eq] at h
        obtain ⟨rfl, h2, h3⟩ := h
        obtain ⟨vs, h4, h5⟩ := brBs_ok ts its.toList h3
        exact ⟨.ref a, rfl, fun ρ H => .tup (.inr fun H' => .inr ⟨_, its, n, hl, rfl, rfl, line_of h2, h4⟩) (h5 ρ H)⟩
      · cases h
    | _ => simp [brB] at h
theorem brBs_ok [Lams] {K : PySem.W.Frag} : ∀ (ts : List T) (us : List Value), brBs K ts us = true → ∃ vs, Vals vs us ∧ ∀ ρ H, BrA K ρ H vs ts
  | [], us, h => by
    cases us with
    | nil => exact ⟨[], .nil, fun _ _ => .nil⟩
    | cons _ _ => simp [brBs] at h
  | t :: ts, us, h => by
    cases us with
    | nil => simp [brBs] at h
    | cons u us =>
      simp only [brBs, Bool.and_eq_true] at h
      obtain ⟨v, h1, h2⟩ := brB_ok t u h.1
      obtain ⟨vs, h3, h4⟩ := brBs_ok ts us h.2
      exact ⟨v :: vs, .cons h1 h3, fun ρ H => .cons (h2 ρ H) (h4 ρ H)⟩
end
def ctB (K : PySem.W.Frag) (x : Str) (t : T) : Bool := match PySem.W.nsIn K mainGlobals x with
  | some (some u) => brB K t u
  | _ => false
theorem ct_mk [Lams] {K : PySem.W.Frag} {h : Heap} {mg : Str → Option Value} (X : K.In h) (G : h.Ns mainGlobals mg) {x : Str} {t : T} (c : ctB K x t = true) : Ct K mg x t := by
  unfold ctB at c
  split at c
  · rename_i u e
    obtain ⟨v, h1, h2⟩ := brB_ok t u c
    exact ⟨u, v, PySem.W.mg_of X G e, h1, h2⟩
  · cases c
/-- a table's entries -/
def entB (K : PySem.W.Frag) : List (Str × T) → List DictEntry → Bool
  | [], [] => true
  | (k, t) :: r, e :: es => (match e.key with
    | .str x _ => decide (x = k)
    | _ => false) && (brB K t e.val && entB K r es)
  | _, _ => false
theorem ent_ok {K : PySem.W.Frag} : ∀ {tbl : List (Str × T)} {es : List DictEntry} (z : Str), entB K tbl es = true → (match tbl.lookup z with
    | some t => ∃ e, es.find? (·.key.isStr z) = some e ∧ brB K t e.val = true
    | none => es.find? (·.key.isStr z) = none) ∧ es.any (·.refKey) = false
  | [], [], z, _ => ⟨rfl, rfl⟩
  | [], _ :: _, z, h => by simp [entB] at h
  | (k, t) :: r, [], z, h => by simp [entB] at h
  | (k, t) :: r, e :: es, z, h => by
    simp only [entB, Bool.and_eq_true] at h
    obtain ⟨h1, h2, h3⟩ := h
    obtain ⟨i1, i2⟩ := ent_ok z h3
    obtain ⟨x, tk, hx⟩ : ∃ x tk, e.key = .str x tk := by
      split at h1
      · exact ⟨_, _, by assumption⟩
      · cases h1
    rw [hx] at h1
    have ek : x = k := of_decide_eq_true h1
    subst ek
    refine ⟨?_, ?_⟩
    · rw [List.lookup_cons, List.find?_cons]
      have es1 : e.key.isStr z = (x == z) := by
        rw [hx]
        rfl
      cases q : z == x with
      | true =>
        have ez := beq_iff_eq.mp q
        subst ez
        simp only [es1, beq_self_eq_true]
        exact ⟨e, rfl, h2⟩
      | false =>
        have q2 : (x == z) = false := by
          rw [beq_eq_false_iff_ne] at q ⊢
          exact fun y => q y.symm
        simp only [es1, q2]
        exact i1
    · rw [List.any_cons, i2]
      have : e.refKey = false := by
        unfold DictEntry.refKey
        rw [hx]
        all_goals rfl
      rw [this]
      rfl
def tbB (K : PySem.W.Frag) (x : Str) (tbl : List (Str × T)) : Bool := match K.lookup (He.ga K x) with
  | some ⟨_, _, .dict es _, _⟩ => entB K tbl es.toList
  | _ => false
theorem tb_mk [Lams] {K : PySem.W.Frag} {w : World} {h : Heap} {mg : Str → Option Value} (X : K.In h) (G : h.Ns mainGlobals mg) {x : Str} {tbl : List (Str × T)} (g : (He.Fa.glo x).ok K = true) (d : He.dicW K (He.ga K x) = some (He.keysIn w.params (tbl.map (·.1)))) (c : tbB K x tbl = true) : Tb K w mg x tbl := by
  obtain ⟨es, n, kd⟩ := He.dicW_ok d
  unfold tbB at c
  rw [kd.at_] at c
  have c2 : entB K tbl es.toList = true := c
  have ens : ∀ z, PySem.W.nsIn K (He.ga K x) z = (match es.toList.find? (·.key.isStr z) with
      | some e => some (some e.val)
      | none => if es.toList.any (·.refKey) then none else some none) := fun z => by
    unfold PySem.W.nsIn
    rw [kd.at_]
    rfl
  refine ⟨He.ga K x, He.glo_ok X G g, ⟨es, n, kd⟩, fun z t hz => ?_, fun z hz => ?_⟩
  · have q := (ent_ok z c2).1
    rw [hz] at q
    obtain ⟨e, h1, h2⟩ := q
    obtain ⟨v, h3, h4⟩ := brB_ok t e.val h2
    exact ⟨e.val, v, by rw [ens z, h1], h3, h4⟩
  · have q := ent_ok z c2
    have q1 := q.1
    rw [hz] at q1
    rw [ens z, q1, q.2]
    rfl

end Mn

set_option maxHeartbeats 1000000
/-! MnEnd: defs that make lambdas; the law's call where tables of code objects are tracked; the end. -/
namespace Mn
open PySem PySem.Spec PyProof.Rows L2
/-- the code object of the def at f -/
def CdOf (K : PySem.W.Frag) (f : Addr) (cdv : Value) : Prop := ∃ oc od fd osl, K.lookup f = some ⟨oc, od, .func fd, osl⟩ ∧ fd.code = cdv
/-- the def's code object has a table of its own among those that are tracked -/
def homeB [Lams] (K : PySem.W.Frag) (x : Str) : Bool := match K.lookup (He.ga K x) with
  | some ⟨_, _, .func fd, _⟩ => (match fd.code with
    | .ref c => (match K.lookup c with
      | some o => (match tabAt K o with
        | some (P, q) => decide (q = (x ++ ".<locals>.") ++ "<lambda>") && (PySem.W.codeHdIn K c P && (tabsOf K).all fun p => decide (p.1 ≠ P) || decide (p.2 = q))
        | none => false)
      | none => false)
    | _ => false)
  | _ => false
theorem mem_lk {K : PySem.W.Frag} {c : Addr} {o : Obj} (h : K.lookup c = some o) : (c, o) ∈ K := by
  induction K with
  | nil => cases h
  | cons p r ih =>
    obtain ⟨d, u⟩ := p
    rw [List.lookup_cons] at h
    split at h
    · rename_i e
      cases h
      rw [beq_iff_eq.mp e]
      exact List.mem_cons_self ..
    · exact List.mem_cons_of_mem _ (ih h)
def tabsHd [Lams] (K : PySem.W.Frag) : Bool := K.all fun p => match tabAt K p.2 with
  | some (P, _) => PySem.W.codeHdIn K p.1 P
  | none => true
def TabsBase [Lams] (base : Heap) (mg : Str → Option Value) (K : PySem.W.Frag) : Prop := ∀ p ∈ tabsOf K, base.BuiltinsAt mg p.1 ∧ mainGlobals ≠ p.1
section
variable {P : Program} {w : World} {K : PySem.W.Frag} {mg : Str → Option Value} {base : Heap}
theorem fnG_ofL {x qual : Str} {st : Stmt} {f : Addr} {fd : FuncData} {N ps : List Str} {k : Nat} {sp : SpG} (F : Fun K x qual st f fd) (S : FnScope N ps (defScope st))
    (hbody : ∀ (cdv : Value) (A : Around) (outer : List Env) (s : Shared) (H : Hp) (vs : List V) (Q : VK), CdOf K f cdv → K.In base → Room k (A.deeper (envOfC qual (defScope st) s.heap.objs.size f cdv)) → A.guards = some [] → vs.length = ps.length → sp vs H Q →
      ∃ t, PSs (CxG P w K mg base N qual st f cdv A outer s H) (defBody st) t ∧ t { nx := fun _ H' => Q .non H', rt := Q } (start N vs) H) : FnG P w K mg base (k + 1) f fd ps sp := by
  intro A outer s H args us vs Q hr hg e0 hlu hb r hs
  obtain ⟨oc, od, kV, doc, pm, an, cdv, ct, osl, rfl, lk, hcd⟩ := F.ex
  have cd : CdOf K f cdv := ⟨_, _, _, _, lk, rfl⟩
  have hlv : vs.length = ps.length := r.length.trans hlu
  have there : ∀ b o, base.get? b = some o → s.heap.get? b = some o := fun b o e => (e0.bs b o e).1
  refine Att.call_fn (e0.mod.kin.keeps there) (e0.mod.nolimit.keeps there) lk hcd hr.depth hb ?_ (fun s1 x => ?_) S.co S.gen S.kind
  · rw [List.all_eq_true]
    rintro ⟨n, u⟩ hm
    rcases S.par n (List.of_mem_zip hm).1 with q | q <;> simp [q]
  · obtain ⟨t, ht, hq⟩ := hbody cdv A outer s H vs Q cd e0.mod.kin (hr.deeper _) hg hlv hs
    have I0 := inv_start (CX := NoCX) (E := NoX) S hr.hd e0 hlv r x
    refine wpAny_mono (ht.nox.run [] s1 (start N vs) H _ I0 hq) (fun fl s2 hf => ?_) fun e s2 he => he
    cases fl with
    | next =>
      obtain ⟨_, H', J, q⟩ := hf
      exact ⟨V.non, H', J.os, J.bare, J.base, J.hok, rfl, q⟩
    | ret u =>
      obtain ⟨v, _, H', J, rv, q⟩ := hf
      exact ⟨v, H', J.os, J.bare, J.base, J.hok, rv, q⟩
    | brk => exact (hf.elim fun _ h => h.elim fun _ h => h.2).elim
    | cont => exact (hf.elim fun _ h => h.elim fun _ h => h.2).elim
variable [Lams]
theorem home_of {x : Str} {st : Stmt} {N : List Str} {f : Addr} {cdv : Value} {A : Around} {outer : List Env} {s : Shared} {H : Hp} (hh : homeB K x = true) (hB : TabsBase base mg K) (hf : f = He.ga K x) (cd : CdOf K f cdv) (KX : K.In base) : LamHome (CxG P w K mg base N x st f cdv A outer s H) := by
  refine ⟨?_, fun _ => rfl⟩
  obtain ⟨oc, od, fd, osl, lk, rfl⟩ := cd
  subst hf
  unfold homeB at hh
  rw [lk] at hh
  simp only at hh
  split at hh
  · rename_i c hc
    split at hh
    · rename_i o ho
      split at hh
      · rename_i Pa q hq
        simp only [Bool.and_eq_true, decide_eq_true_eq, List.all_eq_true, Bool.or_eq_true] at hh
        obtain ⟨h1, h2, h3⟩ := hh
        have hm : (Pa, q) ∈ tabsOf K := List.mem_filterMap.mpr ⟨(c, o), mem_lk ho, hq⟩
        obtain ⟨b1, b2⟩ := hB _ hm
        have e1 : (CxG P w K mg base N x st (He.ga K x) fd.code A outer s H).env.qual ++ "<lambda>" = q := h1.symm
        refine ⟨c, Pa, hc, ⟨PySem.W.codeHd_of_K KX h2, b1, b2⟩, by rw [e1]; exact hm, fun p hp hP => ?_⟩
        rw [e1]
        rcases h3 p hp with z | z
        · exact absurd hP z
        · exact z
      · cases hh
    · cases hh
  · cases hh
theorem df_ofL {x : Str} {st : Stmt} {ps N : List Str} {k np n : Nat} {b : Sts} (p : Pl K mg x st) (pg : mg x = some (.ref (He.ga K x))) (hh : homeB K x = true) (hB : TabsBase base mg K) (S : FnScope N ps (defScope st)) (hb : BiOk x st ps)
    (h : ∀ (f : Addr) (cdv : Value) (A : Around) (outer : List Env) (s : Shared) (H : Hp), LamHome (CxG P w K mg base N x st f cdv A outer s H) → Room k (A.deeper (envOfC x (defScope st) s.heap.objs.size f cdv)) → A.guards = some [] → PSsM (CxG P w K mg base N x st f cdv A outer s H) (defBody st) b) (hnp : ps.length = np := by kernel_rfl) (hnn : N.length = n := by kernel_rfl) : Df P w K mg base x st ps (k + 1) (runT np n b) := by
  subst hnp hnn
  obtain ⟨f, fd, e1, e2⟩ := p
  have hf : f = He.ga K x := by
    rw [pg] at e1
    cases e1
    rfl
  have G : FnG P w K mg base (k + 1) f fd ps (spM K (run ps.length N.length b)) := fnG_ofL e2 S fun cdv A outer s H vs Q cd KX hr hg hl hsp => by
    obtain ⟨ρ, S0, xs, y, S', r, bx, e, kk⟩ := hsp
    refine ⟨_, h f cdv A outer s H (home_of hh hB hf cd KX) hr hg, ?_⟩
    unfold run at e
    split at e
    · split at e
      · rename_i L1 S1 h1
        cases e
        exact ⟨ρ, _, S0, _, relL_start bx, r, h1, fun ρ1 H1 σ1 s1 r1 l1 => kk ρ1 H1 _ s1 r1 .non⟩
      · rename_i v S1 h1
        cases e
        exact ⟨ρ, _, S0, _, relL_start bx, r, h1, fun ρ1 H1 v s1 r1 b1 => kk ρ1 H1 v s1 r1 b1⟩
      · cases e
    · cases e
  exact ⟨⟨f, fd, e1, e2, G.toT⟩, hb, fun _ _ _ e => runT_len e⟩
end
/-! ### the law's call -/
section
variable [Lams] {P : Program} {w : World} {K : PySem.W.Frag} {mg mb : Str → Option Value} {k : Nat} {fa a : Addr} {fd : FuncData} {x : Str} {s₁ : Shared} {vs : List Value} {ns : List Int}
/-- what is tracked at the law's call: the script, unless the module has it written; the tables -/
def H0T (K : PySem.W.Frag) (a : Addr) (vs : List Value) (ns : List Int) : Hp := fun b => if b = a ∧ (K.lookup a).isNone = true then some (.frz (scriptO vs) (.lst (ns.map V.int))) else if ((tabsOf K).any fun p => decide (p.1 = b)) = true then some (.tbl #[]) else none
theorem tabsOf_none {p : Addr × Str} (h : p ∈ tabsOf K) : K.lookup p.1 = none := by
  obtain ⟨q, _, hq⟩ := List.mem_filterMap.mp h
  unfold tabAt at hq
  split at hq
  · split at hq
    · split at hq
      · rename_i hc
        cases hq
        exact Option.isNone_iff_eq_none.mp hc.1
      · cases hq
    · cases hq
  · cases hq
theorem H0T_cases {b : Addr} {u : HO} (h : H0T K a vs ns b = some u) : (b = a ∧ K.lookup a = none ∧ u = .frz (scriptO vs) (.lst (ns.map V.int))) ∨ ((∃ q, (b, q) ∈ tabsOf K) ∧ u = .tbl #[]) := by
  unfold H0T at h
  split at h
  · rename_i c
    cases h
    exact .inl ⟨c.1, Option.isNone_iff_eq_none.mp c.2, rfl⟩
  · split at h
    · rename_i c
      cases h
      obtain ⟨p, hp, e⟩ := List.any_eq_true.mp c
      exact .inr ⟨⟨p.2, by rw [← of_decide_eq_true e]; exact hp⟩, rfl⟩
    · cases h
theorem tabs_hd (hC : tabsHd K = true) {p : Addr × Str} (h : p ∈ tabsOf K) : ∃ c, PySem.W.codeHdIn K c p.1 = true := by
  obtain ⟨q, hm, hq⟩ := List.mem_filterMap.mp h
  have z := List.all_eq_true.mp hC q hm
  rw [hq] at z
  exact ⟨q.1, z⟩
theorem topGT {F : Fn} (KX : K.In s₁.heap) (hC : tabsHd K = true) (hT : ∀ p ∈ tabsOf K, s₁.heap.get? p.1 = some { cls := .none, data := .fields #[] }) (hns : s₁.heap.Ns mainGlobals mg) (hb : s₁.heap.Ns builtinsNs mb) (hbb : ∀ x : Str, x ≠ "__name__" → mb x = bootBuiltins x) (hlim : s₁.heap.NoLimit) (hg : s₁.gens = #[])
    (hbm : ∃ (bm : Addr) (ob : Obj), mg "__builtins__" = some (.ref bm) ∧ bm ≠ builtinsNs ∧ s₁.heap.get? bm = some ob ∧ ob.cls = .type "module" ∧ ob.dict = some builtinsNs ∧ ob.data = .plain)
    (ha : s₁.heap.get? a = some (scriptO vs)) (hi : IntsAre vs ns) (hl : ns.length ≤ sizeLine) (hr : Room k callerA)
    (G : ∀ base : Heap, K.In base → base.Ns mainGlobals mg → TabsBase base mg K → FnG P w K mg base k fa fd [x] (spM K F)) (hbind : ∀ (s : Shared) (u : Value), BindsTo s fd ⟨[u], []⟩ [(x, u)])
    (m : ∃ S', F [.s ns] [] = some (.d (.bool true), S')) :
    codeAny (model P w) callerA (.call (.ref fa) ⟨[.ref a], []⟩) (fun r s' => r = .ok (.ret (.bool true)) ∧ OldK s₁.heap s'.heap ∧ s'.os = s₁.os ∧ AllBare s'.gens) s₁ := by
  have aT : ∀ q, (a, q) ∉ tabsOf K := fun q z => by
    have e := hT _ z
    rw [ha] at e
    cases e
  have hkA : ∀ o, K.lookup a = some o → o = scriptO vs := fun o e => by
    have q := KX a o e
    rw [ha] at q
    exact (Option.some.inj q).symm
  have atT : ∀ p ∈ tabsOf K, H0T K a vs ns p.1 = some (.tbl #[]) := fun p hp => by
    unfold H0T
    rw [if_neg fun z => aT p.2 (by rw [← z.1]; exact hp), if_pos (List.any_eq_true.mpr ⟨p, hp, decide_eq_true rfl⟩)]
  have hok : HOk P w (H0T K a vs ns) s₁.heap := fun b u h => by
    rcases H0T_cases h with ⟨rfl, _, rfl⟩ | ⟨⟨q, hq⟩, rfl⟩
    · exact ⟨ha, by rw [List.length_map]; exact hl, vs, _, vals_ints hi, ha⟩
    · exact hT _ hq
  have noD : ∀ {b : Addr} {o : Obj}, s₁.heap.get? b = some o → (∀ us n, o.data ≠ .seq us n) → o.data ≠ .fields #[] → H0T K a vs ns b = none := fun {b o} e h1 h2 => by
    cases q : H0T K a vs ns b with
    | none => rfl
    | some u =>
      rcases H0T_cases q with ⟨rfl, _, _⟩ | ⟨⟨q, hq⟩, _⟩
      · rw [ha] at e
        cases e
        exact (h1 _ _ rfl).elim
      · have e2 := hT _ hq
        rw [e] at e2
        cases e2
        exact (h2 rfl).elim
  have lowD : ∀ {b : Addr} {o : Obj} {es : Array DictEntry} {ep : Nat}, s₁.heap.get? b = some o → o.data = .dict es ep → H0T K a vs ns b = none := fun {b o es ep} e d => noD e (fun us n z => by rw [d] at z; cases z) fun z => by rw [d] at z; cases z
  have lowNs : ∀ {b : Addr} {f : Str → Option Value}, s₁.heap.Ns b f → (hidT s₁.heap (H0T K a vs ns)).Ns b f := fun {b f} ⟨o, es, ep, e, d, r⟩ => ⟨o, es, ep, hidT_get e (lowD e d), d, r⟩
  have lowK : K.In (hidT s₁.heap (H0T K a vs ns)) := fun b o e => hidT_get (KX b o e) (by
    cases q : H0T K a vs ns b with
    | none => rfl
    | some u =>
      rcases H0T_cases q with ⟨z1, z2, _⟩ | ⟨⟨q, hq⟩, _⟩
      · rw [z1, z2] at e
        cases e
      · rw [tabsOf_none hq] at e
        cases e)
  have lowB : TabsBase (hidT s₁.heap (H0T K a vs ns)) mg K := fun p hp => by
    have hTp := hT p hp
    obtain ⟨bm, ob, b1, b2, b3, b4, b5, b6⟩ := hbm
    have nG : bm ≠ mainGlobals := fun q => by
      obtain ⟨o, es, ep, e, hd, _⟩ := hns
      rw [q, e] at b3
      cases b3
      rw [hd] at b6
      cases b6
    have nP : bm ≠ p.1 := fun q => by
      rw [q, hTp] at b3
      cases b3
      cases b6
    refine ⟨⟨bm, ob, b1, b2, nG, nP, hidT_get b3 (noD b3 (fun us n z => by rw [b6] at z; cases z) fun z => by rw [b6] at z; cases z), b4, b5, b6⟩, fun z => ?_⟩
    obtain ⟨o, es, ep, e, hd, _⟩ := hns
    rw [z, hTp] at e
    cases e
    cases hd
  have e0 : Env0 P w K mg (hidT s₁.heap (H0T K a vs ns)) callerA [] s₁ (H0T K a vs ns) := by
    obtain ⟨ml, l1, l2⟩ := hlim
    exact ⟨rfl, ⟨lowK, lowNs hns, ⟨mb, lowNs hb, hbb⟩, ⟨ml, lowNs l1, l2⟩⟩, fun b o e => of_hidT e, by rw [hidT_size]; exact Nat.le_refl _, trivial, fun b hb => absurd (show b ∈ ([] : List Addr) from hb) (by simp), hok, AllBare.of_eq hg⟩
  have scr : (Rd (H0T K a vs ns) a (.lst (ns.map V.int)) ∧ a ∉ ([] : List Addr)) ∨ ∀ H', SqL K H' a (ns.map V.int) := by
    cases hk : K.lookup a with
    | none => exact .inl ⟨.inr ⟨scriptO vs, if_pos ⟨rfl, by rw [hk]; rfl⟩⟩, by simp⟩
    | some o =>
      refine .inr fun H' => .inr ⟨o, vs.toArray, 0, hk, ?_⟩
      rw [hkA o hk]
      exact ⟨rfl, rfl, rfl, by rw [List.size_toArray, hi.length]; exact hl, by simpa using vals_ints hi⟩
  obtain ⟨S', hm⟩ := m
  have sp : spM K F [.ref a] (H0T K a vs ns) fun v _ => v = .bl true :=
    ⟨[], [], [.s ns], .d (.bool true), S', ⟨rfl, List.nodup_nil, fun n a c h => by simp at h, fun p hp => LamX.TabS.nil (atT p hp), fun b ps h => by
        rcases H0T_cases h with ⟨_, _, z⟩ | ⟨z, _⟩
        · cases z
        · exact z⟩, .cons ⟨a, rfl, scr⟩ .nil, hm, fun ρ' H' v _ _ b => by
      have b' : Br K ρ' H' v (.bool true) := b
      cases b'
      rfl⟩
  refine codeAny_mono (G _ lowK (lowNs hns) lowB callerA [] s₁ (H0T K a vs ns) ⟨[.ref a], []⟩ [.ref a] [.ref a] _ hr rfl e0 rfl (hbind s₁ (.ref a)) (.cons rfl .nil) sp) fun res s' h => ?_
  match res, h with
  | .ok (.ret u), ⟨v, H', h1, h2, un, hok', h5, h6⟩ =>
    have e6 : v = .bl true := h6
    subst e6
    have e5 : u = Value.bool true := h5
    subst e5
    have key : ∀ b o, (∀ q, (b, q) ∉ tabsOf K) → s₁.heap.get? b = some o → s'.heap.get? b = some o := fun b o nb e => by
      cases q : H0T K a vs ns b with
      | none => exact un.keep b o e q (by intro z; cases z) (by simp)
      | some u =>
        rcases H0T_cases q with ⟨rfl, _, rfl⟩ | ⟨⟨q, hq⟩, _⟩
        · have q2 := (hok' b _ (un.frzs b _ _ q)).1
          rw [ha] at e
          cases e
          exact q2
        · exact absurd hq (nb q)
    have grown : ∀ p ∈ tabsOf K, ∃ more : Array Value, s'.heap.get? p.1 = some { cls := .none, data := .fields more } := fun p hp => by
      obtain ⟨more, z⟩ := un.tbls p.1 #[] (atT p hp)
      exact ⟨_, hok' p.1 _ z⟩
    refine ⟨rfl, ⟨fun b o e => ?_, fun b o e => ?_⟩, h1, h2⟩
    · by_cases hb : ∃ q, (b, q) ∈ tabsOf K
      · obtain ⟨q, hq⟩ := hb
        obtain ⟨more, hm⟩ := grown _ hq
        obtain ⟨c, hc⟩ := tabs_hd hC hq
        have e2 := hT _ hq
        rw [e] at e2
        cases e2
        exact .inr (.inl ⟨((PySem.W.codeHd_of_K KX hc).tab e).isCodeTable, rfl, #[], more, rfl, by rw [Array.empty_append]; exact hm⟩)
      · exact .inl (key b o (fun q z => hb ⟨q, z⟩) e)
    · by_cases hb : ∃ q, (b, q) ∈ tabsOf K
      · obtain ⟨q, hq⟩ := hb
        obtain ⟨more, hm⟩ := grown _ hq
        exact ⟨_, hm⟩
      · exact ⟨o, key b o (fun q z => hb ⟨q, z⟩) e⟩
  | .ok .next, h => exact False.elim h
  | .ok .brk, h => exact False.elim h
  | .ok .cont, h => exact False.elim h
  | .error e, h => exact False.elim h
end
theorem hu1 {k : Nat} {A : Around} (hr : Room k A) : A.units + 1 < cLine := by have := hr.un; omega
theorem LamsOk.mono [Lams] {P : Program} {w : World} {K : PySem.W.Frag} {mg : Str → Option Value} {base : Heap} {j k : Nat} {tab : Nat → List Cap → Fn} (T : LamsOk P w K mg base j tab) (h : j ≤ k) : LamsOk P w K mg base k tab :=
  ⟨fun i L e => ⟨(T.ok i L e).1, (T.ok i L e).2.mono h⟩⟩
theorem DefsOk.mono [Lams] {P : Program} {w : World} {K : PySem.W.Frag} {mg : Str → Option Value} {base : Heap} {j k : Nat} {gt : Str → Fn} (T : DefsOk P w K mg base j gt) (h : j ≤ k) : DefsOk P w K mg base k gt :=
  ⟨fun x => (T.ok x).imp id fun ⟨st, ps, d, m⟩ => ⟨st, ps, d.mono h, m⟩⟩
theorem tabs_in [Lams] {K : PySem.W.Frag} {ts : List Addr} (h : ((tabsOf K).all fun p => ts.contains p.1) = true) : ∀ p ∈ tabsOf K, p.1 ∈ ts := fun p hp => by
  have q := List.all_eq_true.mp h p hp
  simpa using q
theorem fun_same {K : PySem.W.Frag} {x y : Str} {st : Stmt} {f : Addr} {fd fd' : FuncData} (F : Fun K x y st f fd) (F' : Fun K x y st f fd') : fd = fd' := by
  obtain ⟨oc, od, kV, doc, pm, an, cdv, ct, osl, e1, lk, _⟩ := F.ex
  obtain ⟨oc', od', kV', doc', pm', an', cdv', ct', osl', e1', lk', _⟩ := F'.ex
  rw [lk] at lk'
  injection lk' with q
  injection q with q1 q2 q3 q4
  injection q3
theorem law_mkT [Lams] {P : Program} {w : World} {K : PySem.W.Frag} {mg : Str → Option Value} {x p : Str} {st : Stmt} {k : Nat} {F : Fn} {fa : Addr} (hfa : mg x = some (.ref fa)) (pl : Pl K mg x st) (hb : BiOk x st [p]) (all : ∀ base : Heap, TabsBase base mg K → Df P w K mg base x st [p] k F) :
    ∃ fd : FuncData, (∀ (s : Shared) (u : Value), BindsTo s fd ⟨[u], []⟩ [(p, u)]) ∧ ∀ base : Heap, K.In base → base.Ns mainGlobals mg → TabsBase base mg K → FnG P w K mg base k fa fd [p] (spM K F) := by
  obtain ⟨f, fd, e1, e2⟩ := pl
  rw [hfa] at e1
  cases e1
  refine ⟨fd, fun s u => ?_, fun base _ _ hB => ?_⟩
  · obtain ⟨oc, od, kV, doc, pm, an, cdv, ct, osl, rfl, lk, hcd⟩ := e2.ex
    exact .of_eq (hb kV doc pm an cdv ct [u] rfl)
  · obtain ⟨f', fd', e3, e4, e5⟩ := (all base hB).ex
    rw [hfa] at e3
    cases e3
    rw [fun_same e2 e4]
    exact e5
/-- the place of a def that is handed on -/
theorem ga_mk {K : PySem.W.Frag} {h : Heap} {mg : Str → Option Value} (X : K.In h) (G : h.Ns mainGlobals mg) {x : Str} (g : (He.Fa.glo x).ok K = true) : mg x = some (.ref (He.ga K x)) := He.glo_ok X G g
theorem lamF_len {np n : Nat} {m : Sem} {cs : List Cap} {xs : List Vl} {S : So} {y : Vl × So} (h : lamF np n m cs xs S = some y) : xs.length = np := by
  unfold lamF at h
  split at h
  · assumption
  · cases h
/-- the lambda that is the argument j of the call that a def's last row returns -/
def lamIn : Expr → Nat → Nat → List Str → List Str → Option LamSrc
  | .Call _ as _ _, j, _, ps, fr => (match as[j]? with
    | some (.Lambda p b s _) => some ⟨p, b, s, ps, fr⟩
    | _ => none)
  | .Tuple es _ _, j, d + 1, ps, fr => (match es[0]? with
    | some e => lamIn e j d ps fr
    | none => none)
  | _, _, _, _, _ => none
def lamAt (st : Stmt) (j : Nat) (ps fr : List Str) : Option LamSrc := match (defBody st).getLast? with
  | some (.Return (some e) _) => lamIn e j 3 ps fr
  | _ => none
/-- the goal that the head leaves, from the law's promise -/
theorem walkGT [Lams] {l : PySem.W.OpenLaw} {n k : Nat} {q : Program} {loose : List Str} {XP : (Str → Option Value) → Heap → Prop} {YP : World → Heap → Prop} {d : DefRec} {F : Fn} {x : Str}
    (hn : l.most = some n) (hn2 : n ≤ sizeLine) (hdf : d.params.defaults = []) (hr : Room k callerA)
    (G : ∀ (w : World) (mg : Str → Option Value) (fa : Addr) (h : Heap), YP w h → XP mg h → h.Ns mainGlobals mg → mg d.name = some (.ref fa) →
      ∃ K : PySem.W.Frag, K.In h ∧ tabsHd K = true ∧ (∀ p ∈ tabsOf K, h.get? p.1 = some { cls := .none, data := .fields #[] }) ∧ ∃ fd : FuncData, (∀ (s : Shared) (u : Value), BindsTo s fd ⟨[u], []⟩ [(x, u)]) ∧ ∀ base : Heap, K.In base → base.Ns mainGlobals mg → TabsBase base mg K → FnG l.prog w K mg base k fa fd [x] (spM K F))
    (m : ∀ ns : List Int, ns.length ≤ n → ∃ S', F [.s ns] [] = some (.d (.bool true), S')) :
    PySem.W.WalkO q loose XP YP l.row.toRowW d [] (fun f vs => PySem.call f vs) :=
  Att.attach_call hn hdf fun w s₀ s₁ mg mb fa o pm cd doc a vs ns Gr Y ho hd hcd hmg hobj hints hlen hg => by
    obtain ⟨K, KX, hC, hT, fd, hb, hF⟩ := G w mg fa _ Y Gr.X Gr.T.g hmg
    exact topGT KX hC hT Gr.T.g Gr.T.b Gr.T.builtins Gr.T.nolimit hg Gr.T.bmain hobj hints (Nat.le_trans hlen hn2) hr hF hb (m ns hlen)
end Mn

/-! the functions of the defs (printed by gen2.py) -/
namespace Mn.k20
open PySem Mn
def k_ANY : T := (.str "any")
def k_FIGURES : T := (.str "0123456789")
def k_FN : T := (.str "fn")
def k_GREAT : T := (.str "ABCDEFGHIJKLMNOPQRSTUVWXYZ")
def k_LIST : T := (.str "list")
def k_MOST_SIGNS : T := (.int 12)
def k_NOTHING : T := (.tuple [(.str "row"), (.tuple []), .none])
def k_PAIR : T := (.str "pair")
def k_PLAIN : T := (.tuple [(.str "int"), (.str "bool"), (.str "unit")])
def k_ROW : T := (.str "row")
def k_SMALL : T := (.str "abcdefghijklmnopqrstuvwxyz")
def b__law_draw : Sts := (sSeq (sIf (eBin fGt (eBin fIdx (eLoc 0) (eC (.int 0))) (eC (.int 0))) (sSeq (sAsg (eBlt bDivmod (aCons (eBin fIdx (eLoc 0) (eC (.int 0))) (aCons (eLoc 1) aNil))) (tTuple 2 (tgCons (tSubL (eLoc 0) (eC (.int 0))) (tgCons (tName 2) tgNil)))) (sRet (eLoc 2))) sNil) (sSeq (sAsg (eBin fMod (eBlt bInt (aCons (eBin fAdd (eBin fMul (eBin fIdx (eLoc 0) (eC (.int 1))) (eC (.int 48271))) (eC (.int 8039))) aNil)) (eC (.int 2147483587))) (tSubL (eLoc 0) (eC (.int 1)))) (sRet (eBin fMod (eBlt bInt (aCons (eBin fFdiv (eBin fMod (eBlt bInt (aCons (eBin fMul (eBin fIdx (eLoc 0) (eC (.int 1))) (eBin fIdx (eLoc 0) (eC (.int 1)))) aNil)) (eC (.int 2147483549))) (eC (.int 17))) aNil)) (eLoc 1)))))
def f__law_draw : Fn := runT 2 3 b__law_draw
def b__law_pick : Sts := (sRet (eBin fIdx (eLoc 1) (eCall f__law_draw (aCons (eLoc 0) (aCons (eBlt bLen (aCons (eLoc 1) aNil)) aNil)))))
def f__law_pick : Fn := runT 2 2 b__law_pick
def b__law_row : Sts := (sSeq (sSet 1 (eComp (iRngM (aCons (eCall f__law_pick (aCons (eLoc 0) (aCons (eLst (aCons (eC (.int 0)) (aCons (eC (.int 0)) (aCons (eC (.int 1)) (aCons (eC (.int 1)) (aCons (eC (.int 2)) (aCons (eC (.int 3)) aNil))))))) aNil))) aNil)) (fName 2) [2] eYes (eCall f__law_pick (aCons (eLoc 0) (aCons (eLst (aCons (eC (.str "A")) (aCons (eC (.str "B")) (aCons (eC (.str "Get")) aNil)))) aNil))))) (sRet (eTup (aCons (eC (.str "row")) (aCons (eBlt bTuple (aCons (eSortT (eLoc 1)) aNil)) (aCons (eCall f__law_pick (aCons (eLoc 0) (aCons (eLst (aCons (eC .none) (aCons (eC (.int 0)) (aCons (eC (.int 1)) (aCons (eC (.int 1)) (aCons (eC (.int 2)) aNil)))))) aNil))) aNil))))))
def f__law_row : Fn := runT 1 3 b__law_row
def b__law_kind (rc : Fn) : Sts := (sSeq (sSet 2 (eCall f__law_draw (aCons (eLoc 0) (aCons (eIte (eBin fGt (eLoc 1) (eC (.int 0))) (eC (.int 9)) (eC (.int 5))) aNil)))) (sSeq (sIf (eBin fLt (eLoc 2) (eC (.int 5))) (sRet (eBin fIdx (eLst (aCons (eTup (aCons (eC (.str "int")) aNil)) (aCons (eTup (aCons (eC (.str "bool")) aNil)) (aCons (eTup (aCons (eC (.str "unit")) aNil)) (aCons (eTup (aCons (eC (.str "any")) (aCons (eCall f__law_draw (aCons (eLoc 0) (aCons (eC (.int 3)) aNil))) aNil))) (aCons (eTup (aCons (eC (.str "any")) (aCons (eCall f__law_draw (aCons (eLoc 0) (aCons (eC (.int 3)) aNil))) aNil))) aNil)))))) (eLoc 2))) sNil) (sSeq (sIf (eBin fEq (eLoc 2) (eC (.int 5))) (sRet (eTup (aCons (eC (.str "list")) (aCons (eCall rc (aCons (eLoc 0) (aCons (eBin fSub (eLoc 1) (eC (.int 1))) aNil))) aNil)))) sNil) (sSeq (sIf (eBin fEq (eLoc 2) (eC (.int 6))) (sRet (eTup (aCons (eC (.str "pair")) (aCons (eCall rc (aCons (eLoc 0) (aCons (eBin fSub (eLoc 1) (eC (.int 1))) aNil))) (aCons (eCall rc (aCons (eLoc 0) (aCons (eBin fSub (eLoc 1) (eC (.int 1))) aNil))) aNil))))) sNil) (sRet (eTup (aCons (eC (.str "fn")) (aCons (eCall rc (aCons (eLoc 0) (aCons (eBin fSub (eLoc 1) (eC (.int 1))) aNil))) (aCons (eCall f__law_row (aCons (eLoc 0) aNil)) (aCons (eCall rc (aCons (eLoc 0) (aCons (eBin fSub (eLoc 1) (eC (.int 1))) aNil))) aNil))))))))))
def f__law_kind : Nat → Fn
  | 0 => fun _ _ => none
  | n + 1 => runT 2 3 (b__law_kind (f__law_kind n))
def b__law_loose (rc : Fn) : Sts := (sSeq (sAsg (eTup (aCons (eLst aNil) (aCons (eLst aNil) aNil))) (tTuple 2 (tgCons (tName 1) (tgCons (tName 2) tgNil)))) (sSeq (sIf (eBin fEq (eBin fIdx (eLoc 0) (eC (.int 0))) (eC (.str "any"))) (sRet (eTup (aCons (eLst (aCons (eBin fIdx (eLoc 0) (eC (.int 1))) aNil)) (aCons (eLst aNil) aNil)))) sNil) (sSeq (sIf (eBin fEq (eBin fIdx (eLoc 0) (eC (.int 0))) (eC (.str "row"))) (sRet (eTup (aCons (eLst aNil) (aCons (eIte (eBin fIsN (eBin fIdx (eLoc 0) (eC (.int 2))) (eC .none)) (eLst aNil) (eLst (aCons (eBin fIdx (eLoc 0) (eC (.int 2))) aNil))) aNil)))) sNil) (sSeq (sFor (iTupM (eSl (eLoc 0) (some (eC (.int 1))) none)) (tName 3) (sSeq (sAsg (eCall rc (aCons (eLoc 3) aNil)) (tTuple 2 (tgCons (tName 4) (tgCons (tName 5) tgNil)))) (sSeq (sSet 1 (eBin fAdd (eLoc 1) (eComp (iLstM (eLoc 4)) (fName 6) [6] (eBin fNotIn (eLoc 6) (eLoc 1)) (eLoc 6)))) (sSet 2 (eBin fAdd (eLoc 2) (eComp (iLstM (eLoc 5)) (fName 6) [6] (eBin fNotIn (eLoc 6) (eLoc 2)) (eLoc 6))))))) (sRet (eTup (aCons (eLoc 1) (aCons (eLoc 2) aNil))))))))
def f__law_loose : Nat → Fn
  | 0 => fun _ _ => none
  | n + 1 => runT 1 7 (b__law_loose (f__law_loose n))
def b_has_many : Sts := (sRet (eAnd (eIsi "tuple" (eLoc 0)) (eBin fEq (eBlt bLen (aCons (eLoc 0) aNil)) (eLoc 1))))
def f_has_many : Fn := runT 2 2 b_has_many
def b_is_integer : Sts := (sRet (eAnd (eIsi "int" (eLoc 0)) (eNot (eIsi "bool" (eLoc 0)))))
def f_is_integer : Fn := runT 1 1 b_is_integer
def b_is_count : Sts := (sRet (eAnd (eCall f_is_integer (aCons (eLoc 0) aNil)) (eBin fGe (eLoc 0) (eC (.int 0)))))
def f_is_count : Fn := runT 1 1 b_is_count
def b_has_signs : Sts := (sSeq (sIf (eOr (eNot (eIsi "str" (eLoc 0))) (eNot (eChain fLe fLe (eC (.int 1)) (eBlt bLen (aCons (eLoc 0) aNil)) (eC k_MOST_SIGNS)))) (sRet (eC (.bool false))) sNil) (sRet (eAnd (eBin fIn (eBin fIdx (eLoc 0) (eC (.int 0))) (eLoc 1)) (eBlt bAll (aCons (eComp (iStrM (eLoc 0)) (fName 3) [3] eYes (eBin fIn (eLoc 3) (eLoc 2))) aNil)))))
def f_has_signs : Fn := runT 3 4 b_has_signs
def b_is_ask_name : Sts := (sRet (eCall f_has_signs (aCons (eLoc 0) (aCons (eC k_GREAT) (aCons (eBin fAdd (eBin fAdd (eC k_SMALL) (eC k_GREAT)) (eC k_FIGURES)) aNil)))))
def f_is_ask_name : Fn := runT 1 1 b_is_ask_name
def b_are_names : Sts := (sSeq (sIf (eOr (eNot (eIsi "tuple" (eLoc 0))) (eNot (eBlt bAll (aCons (eComp (iTupM (eLoc 0)) (fName 1) [1] eYes (eCall f_is_ask_name (aCons (eLoc 1) aNil))) aNil)))) (sRet (eC (.bool false))) sNil) (sRet (eBin fEq (eBlt bList (aCons (eLoc 0) aNil)) (eSortT (eLoc 0)))))
def f_are_names : Fn := runT 1 2 b_are_names
def b_is_row_of : Sts := (sSeq (sIf (eOr (eNot (eCall f_has_many (aCons (eLoc 0) (aCons (eC (.int 3)) aNil)))) (eOr (eNot (eIsi "str" (eBin fIdx (eLoc 0) (eC (.int 0))))) (eBin fNe (eBin fIdx (eLoc 0) (eC (.int 0))) (eC k_ROW)))) (sRet (eC (.bool false))) sNil) (sRet (eAnd (eCall f_are_names (aCons (eBin fIdx (eLoc 0) (eC (.int 1))) aNil)) (eOr (eBin fIsN (eBin fIdx (eLoc 0) (eC (.int 2))) (eC .none)) (eCall f_is_count (aCons (eBin fIdx (eLoc 0) (eC (.int 2))) aNil))))))
def f_is_row_of : Fn := runT 1 1 b_is_row_of
def b_is_row : Sts := (sRet (eCall f_is_row_of (aCons (eLoc 0) aNil)))
def f_is_row : Fn := runT 1 1 b_is_row
def b_is_kind_of : Sts := (sSeq (sSet 1 (eNew (aCons (eLoc 0) aNil))) (sSeq (sWhile (eBin fNe (eLoc 1) (eLst aNil)) (sSeq (sSet 2 (ePop (eLoc 1))) (sSeq (sIf (eOr (eNot (eIsi "tuple" (eLoc 2))) (eOr (eBin fEq (eLoc 2) (eTup aNil)) (eNot (eIsi "str" (eBin fIdx (eLoc 2) (eC (.int 0))))))) (sRet (eC (.bool false))) sNil) (sSeq (sPar 3 4 (aCons (eBin fIdx (eLoc 2) (eC (.int 0))) (aCons (eBlt bLen (aCons (eLoc 2) aNil)) aNil))) (sIf (eAnd (eBin fEq (eLoc 3) (eC k_LIST)) (eBin fEq (eLoc 4) (eC (.int 2)))) (sDrop (eApp (eLoc 1) (eBin fIdx (eLoc 2) (eC (.int 1))))) (sIf (eAnd (eBin fEq (eLoc 3) (eC k_PAIR)) (eBin fEq (eLoc 4) (eC (.int 3)))) (sDrop (eExt (eLoc 1) (eSl (eLoc 2) (some (eC (.int 1))) none))) (sIf (eAnd (eBin fEq (eLoc 3) (eC k_FN)) (eAnd (eBin fEq (eLoc 4) (eC (.int 4))) (eCall f_is_row_of (aCons (eBin fIdx (eLoc 2) (eC (.int 2))) aNil)))) (sDrop (eExt (eLoc 1) (eLst (aCons (eBin fIdx (eLoc 2) (eC (.int 1))) (aCons (eBin fIdx (eLoc 2) (eC (.int 3))) aNil))))) (sIf (eNot (eOr (eAnd (eBin fIn (eLoc 3) (eC k_PLAIN)) (eBin fEq (eLoc 4) (eC (.int 1)))) (eAnd (eBin fEq (eLoc 3) (eC k_ANY)) (eAnd (eBin fEq (eLoc 4) (eC (.int 2))) (eCall f_is_count (aCons (eBin fIdx (eLoc 2) (eC (.int 1))) aNil)))))) (sRet (eC (.bool false))) sNil)))))))) (sRet (eC (.bool true)))))
def f_is_kind_of : Fn := runT 1 5 b_is_kind_of
def b_is_kind : Sts := (sRet (eCall f_is_kind_of (aCons (eLoc 0) aNil)))
def f_is_kind : Fn := runT 1 1 b_is_kind
def b__law_twice : Sts := (sRet (eEqT true (eRepr (eLoc 0)) (eRepr (eLst (aCons (eLoc 1) (aCons (eLoc 1) aNil))))))
def f__law_twice : Fn := runT 2 2 b__law_twice
def b_come_in_row : Sts := (sIf (eBin fNotN (eBin fIdx (eLoc 0) (eC (.int 2))) (eC .none)) (sDrop (eDSetd (eLoc 1) (eBin fIdx (eLoc 0) (eC (.int 2))) (eLenD (eLoc 1)))) sNil)
def f_come_in_row : Fn := runT 2 2 b_come_in_row
def b_within_of : Sts := (sSeq (sIf (eBin fEq (eBin fIdx (eLoc 0) (eC (.int 0))) (eC k_FN)) (sRet (eLst (aCons (eBin fIdx (eLoc 0) (eC (.int 1))) (aCons (eBin fIdx (eLoc 0) (eC (.int 3))) aNil)))) sNil) (sRet (eIte (eBin fIn (eBin fIdx (eLoc 0) (eC (.int 0))) (eTup (aCons (eC k_LIST) (aCons (eC k_PAIR) aNil)))) (eBlt bList (aCons (eSl (eLoc 0) (some (eC (.int 1))) none) aNil)) (eLst aNil))))
def f_within_of : Fn := runT 1 1 b_within_of
def b_come_in (rc : Fn) : Sts := (sIf (eBin fEq (eBin fIdx (eLoc 0) (eC (.int 0))) (eC k_ANY)) (sDrop (eDSetd (eLoc 1) (eBin fIdx (eLoc 0) (eC (.int 1))) (eLenD (eLoc 1)))) (sIf (eBin fEq (eBin fIdx (eLoc 0) (eC (.int 0))) (eC k_FN)) (sSeq (sDrop (eCall rc (aCons (eBin fIdx (eLoc 0) (eC (.int 1))) (aCons (eLoc 1) (aCons (eLoc 2) aNil))))) (sSeq (sDrop (eCall f_come_in_row (aCons (eBin fIdx (eLoc 0) (eC (.int 2))) (aCons (eLoc 2) aNil)))) (sDrop (eCall rc (aCons (eBin fIdx (eLoc 0) (eC (.int 3))) (aCons (eLoc 1) (aCons (eLoc 2) aNil))))))) (sFor (iLstM (eCall f_within_of (aCons (eLoc 0) aNil))) (tName 3) (sDrop (eCall rc (aCons (eLoc 3) (aCons (eLoc 1) (aCons (eLoc 2) aNil))))))))
def f_come_in : Nat → Fn
  | 0 => fun _ _ => none
  | n + 1 => runT 3 4 (b_come_in (f_come_in n))
def b_loose_of : Sts := (sSeq (sPar 1 2 (aCons eNewD (aCons eNewD aNil))) (sSeq (sDrop (eCall (f_come_in 12) (aCons (eLoc 0) (aCons (eLoc 1) (aCons (eLoc 2) aNil))))) (sRet (eTup (aCons (eListD (eLoc 1)) (aCons (eListD (eLoc 2)) aNil))))))
def f_loose_of : Fn := runT 1 3 b_loose_of
def b_want_kind : Sts := (sSeq (sIf (eNot (eCall f_is_kind_of (aCons (eLoc 0) aNil))) sNever sNil) (sRet (eLoc 0)))
def f_want_kind : Fn := runT 1 1 b_want_kind
def b_loose : Sts := (sRet (eCall f_loose_of (aCons (eCall f_want_kind (aCons (eLoc 0) aNil)) aNil)))
def f_loose : Fn := runT 1 1 b_loose
def b_loose_of__u : Sts := (sSeq (sPar 1 2 (aCons eNewD (aCons eNewD aNil))) (sSeq (sDrop (eCall (f_come_in 12) (aCons (eLoc 0) (aCons (eLoc 1) (aCons (eLoc 2) aNil))))) (sRet (eTupU (aCons (eListDN (eLoc 1)) (aCons (eListDN (eLoc 2)) aNil))))))
def f_loose_of__u : Fn := run 1 3 b_loose_of__u
def b_loose__u : Sts := (sRet (eCall f_loose_of__u (aCons (eCall f_want_kind (aCons (eLoc 0) aNil)) aNil)))
def f_loose__u : Fn := run 1 1 b_loose__u
def b_want_row : Sts := (sSeq (sIf (eNot (eCall f_is_row_of (aCons (eLoc 0) aNil))) sNever sNil) (sRet (eLoc 0)))
def f_want_row : Fn := runT 1 1 b_want_row
def b_more_of : Sts := (sRet (eTup (aCons (eC k_ROW) (aCons (eBlt bTuple (aCons (eSortT (eBin fAdd (eBin fIdx (eLoc 0) (eC (.int 1))) (eLoc 1))) aNil)) (aCons (eBin fIdx (eLoc 0) (eC (.int 2))) aNil)))))
def f_more_of : Fn := runT 2 2 b_more_of
def b_row_more : Sts := (sSeq (sDrop (eCall f_want_row (aCons (eLoc 0) aNil))) (sSeq (sIf (eNot (eCall f_are_names (aCons (eLoc 1) aNil))) sNever sNil) (sRet (eCall f_more_of (aCons (eLoc 0) (aCons (eLoc 1) aNil))))))
def f_row_more : Fn := runT 2 2 b_row_more
def b__law_putting : Sts := (sSeq (sSet 1 (eDictP (eComp (iRngM (aCons (eC (.int 3)) aNil)) (fName 3) [3] (eBin fGt (eCall f__law_draw (aCons (eLoc 0) (aCons (eC (.int 3)) aNil))) (eC (.int 0))) (eTup (aCons (eLoc 3) (aCons (eCall (f__law_kind 6) (aCons (eLoc 0) (aCons (eC (.int 2)) aNil))) aNil)))))) (sSeq (sSet 2 (eDictP (eComp (iRngM (aCons (eC (.int 3)) aNil)) (fName 3) [3] (eBin fGt (eCall f__law_draw (aCons (eLoc 0) (aCons (eC (.int 3)) aNil))) (eC (.int 0))) (eTup (aCons (eLoc 3) (aCons (eCall f__law_row (aCons (eLoc 0) aNil)) aNil)))))) (sRet (eTupU (aCons (eLoc 1) (aCons (eLoc 2) (aCons (eTupQ (aCons (eTupP (eComp (iLstM (eSortDI (eLoc 1))) (fName 3) [3] eYes (eTup (aCons (eLoc 3) (aCons (eDSub (eLoc 1) (eLoc 3)) aNil))))) (aCons (eTupP (eComp (iLstM (eSortDI (eLoc 2))) (fName 3) [3] eYes (eTup (aCons (eLoc 3) (aCons (eDSub (eLoc 2) (eLoc 3)) aNil))))) aNil))) aNil)))))))
def f__law_putting : Fn := run 1 4 b__law_putting
def b__law_row_anew : Sts := (sRet (eTup (aCons (eC (.str "row")) (aCons (eBin fIdx (eLoc 0) (eC (.int 1))) (aCons (eIte (eBin fIsN (eBin fIdx (eLoc 0) (eC (.int 2))) (eC .none)) (eC .none) (eIndex (eLoc 1) (eBin fIdx (eLoc 0) (eC (.int 2))))) aNil)))))
def f__law_row_anew : Fn := runT 2 2 b__law_row_anew
def b__law_row_put : Sts := (sSeq (sIf (eDIn false (eBin fIdx (eLoc 0) (eC (.int 2))) (eLoc 1)) (sRet (eLoc 0)) sNil) (sSeq (sSet 2 (eDSub (eLoc 1) (eBin fIdx (eLoc 0) (eC (.int 2))))) (sRet (eTup (aCons (eC (.str "row")) (aCons (eBlt bTuple (aCons (eSortT (eBin fAdd (eBin fIdx (eLoc 0) (eC (.int 1))) (eBin fIdx (eLoc 2) (eC (.int 1))))) aNil)) (aCons (eBin fIdx (eLoc 2) (eC (.int 2))) aNil)))))))
def f__law_row_put : Fn := runT 2 3 b__law_row_put
def m_0 : Sem := (eTup (aCons (eC (.str "any")) (aCons (eIndex (eLoc 1) (eBin fIdx (eLoc 0) (eC (.int 1)))) aNil)))
def m_1 : Sem := (eCall f__law_row_anew (aCons (eLoc 0) (aCons (eLoc 1) aNil)))
def m_2 : Sem := (eDGet2 (eLoc 1) (eBin fIdx (eLoc 0) (eC (.int 1))) (eLoc 0))
def m_3 : Sem := (eCall f__law_row_put (aCons (eLoc 0) (aCons (eLoc 1) aNil)))
def tabF : Nat → List Cap → Fn
  | 0 => lamF 1 2 m_0
  | 1 => lamF 1 2 m_1
  | 2 => lamF 1 2 m_2
  | 3 => lamF 1 2 m_3
  | _ => fun _ _ _ => none
def gtF (x : Str) : Fn := if x = "is_kind_of" then f_is_kind_of else if x = "is_row_of" then f_is_row_of else fun _ _ => none
def b__law_kind_led (rc : Fn) : Sts := (sSeq (sIf (eBin fEq (eBin fIdx (eLoc 0) (eC (.int 0))) (eC (.str "any"))) (sRet (eCallV tabF gtF 1 (aCons (eLoc 0) aNil))) sNil) (sSeq (sIf (eBin fEq (eBin fIdx (eLoc 0) (eC (.int 0))) (eC (.str "fn"))) (sRet (eTup (aCons (eC (.str "fn")) (aCons (eCall rc (aCons (eBin fIdx (eLoc 0) (eC (.int 1))) (aCons (eLoc 1) (aCons (eLoc 2) aNil)))) (aCons (eCallV tabF gtF 2 (aCons (eBin fIdx (eLoc 0) (eC (.int 2))) aNil)) (aCons (eCall rc (aCons (eBin fIdx (eLoc 0) (eC (.int 3))) (aCons (eLoc 1) (aCons (eLoc 2) aNil)))) aNil)))))) sNil) (sRet (eBin fAdd (eSl (eLoc 0) none (some (eC (.int 1)))) (eBlt bTuple (aCons (eComp (iTupM (eSl (eLoc 0) (some (eC (.int 1))) none)) (fName 3) [3] eYes (eCall rc (aCons (eLoc 3) (aCons (eLoc 1) (aCons (eLoc 2) aNil))))) aNil))))))
def f__law_kind_led : Nat → Fn
  | 0 => fun _ _ => none
  | n + 1 => runT 3 4 (b__law_kind_led (f__law_kind_led n))
def b__law_kind_put : Sts := (sRet (eCallF (f__law_kind_led 12) (aCons (eLoc 0) (aLam 2 [1] (aLam 3 [2] aNil)))))
def f__law_kind_put : Fn := runT 3 3 b__law_kind_put
def b_are_put_by : Sts := (sSeq (sIf (eOr (eNot (eIsi "tuple" (eLoc 0))) (eNot (eBlt bAll (aCons (eComp (iTupM (eLoc 0)) (fName 2) [2] eYes (eCall f_has_many (aCons (eLoc 2) (aCons (eC (.int 2)) aNil)))) aNil)))) (sRet (eC (.bool false))) sNil) (sSeq (sIf (eNot (eBlt bAll (aCons (eComp (iTupM (eLoc 0)) (fTup [3, 4]) [3, 4] eYes (eAnd (eCall f_is_count (aCons (eLoc 3) aNil)) (eCallV tabF gtF 1 (aCons (eLoc 4) aNil)))) aNil))) (sRet (eC (.bool false))) sNil) (sRet (eBlt bAll (aCons (eComp (iZipM (aCons (eLoc 0) (aCons (eSl (eLoc 0) (some (eC (.int 1))) none) aNil))) (fTup [5, 6]) [5, 6] eYes (eBin fLt (eBin fIdx (eLoc 5) (eC (.int 0))) (eBin fIdx (eLoc 6) (eC (.int 0))))) aNil)))))
def f_are_put_by : Fn := runT 2 7 b_are_put_by
def b_is_putting_of : Sts := (sRet (eAnd (eCall f_has_many (aCons (eLoc 0) (aCons (eC (.int 2)) aNil))) (eAnd (eCall f_are_put_by (aCons (eBin fIdx (eLoc 0) (eC (.int 0))) (aCons (eG "is_kind_of") aNil))) (eCall f_are_put_by (aCons (eBin fIdx (eLoc 0) (eC (.int 1))) (aCons (eG "is_row_of") aNil))))))
def f_is_putting_of : Fn := runT 1 1 b_is_putting_of
def b_want_putting : Sts := (sSeq (sIf (eNot (eCall f_is_putting_of (aCons (eLoc 0) aNil))) sNever sNil) (sRet (eLoc 0)))
def f_want_putting : Fn := runT 1 1 b_want_putting
def b_put_in_row : Sts := (sRet (eIte (eDIn false (eBin fIdx (eLoc 0) (eC (.int 2))) (eLoc 1)) (eLoc 0) (eCall f_more_of (aCons (eDSub (eLoc 1) (eBin fIdx (eLoc 0) (eC (.int 2)))) (aCons (eBin fIdx (eLoc 0) (eC (.int 1))) aNil)))))
def f_put_in_row : Fn := runT 2 2 b_put_in_row
def b_put_in (rc : Fn) : Sts := (sSeq (sIf (eBin fEq (eBin fIdx (eLoc 0) (eC (.int 0))) (eC k_ANY)) (sRet (eDGet2 (eLoc 1) (eBin fIdx (eLoc 0) (eC (.int 1))) (eLoc 0))) sNil) (sSeq (sIf (eBin fEq (eBin fIdx (eLoc 0) (eC (.int 0))) (eC k_FN)) (sRet (eTup (aCons (eC k_FN) (aCons (eCall rc (aCons (eBin fIdx (eLoc 0) (eC (.int 1))) (aCons (eLoc 1) (aCons (eLoc 2) aNil)))) (aCons (eCall f_put_in_row (aCons (eBin fIdx (eLoc 0) (eC (.int 2))) (aCons (eLoc 2) aNil))) (aCons (eCall rc (aCons (eBin fIdx (eLoc 0) (eC (.int 3))) (aCons (eLoc 1) (aCons (eLoc 2) aNil)))) aNil)))))) sNil) (sSeq (sIf (eBin fIn (eBin fIdx (eLoc 0) (eC (.int 0))) (eTup (aCons (eC k_LIST) (aCons (eC k_PAIR) aNil)))) (sRet (eBin fAdd (eSl (eLoc 0) none (some (eC (.int 1)))) (eBlt bTuple (aCons (eComp (iTupM (eSl (eLoc 0) (some (eC (.int 1))) none)) (fName 3) [3] eYes (eCall rc (aCons (eLoc 3) (aCons (eLoc 1) (aCons (eLoc 2) aNil))))) aNil)))) sNil) (sRet (eLoc 0)))))
def f_put_in : Nat → Fn
  | 0 => fun _ _ => none
  | n + 1 => runT 3 4 (b_put_in (f_put_in n))
def b_kind_put : Sts := (sSeq (sDrop (eCall f_want_kind (aCons (eLoc 0) aNil))) (sSeq (sDrop (eCall f_want_putting (aCons (eTree (eLoc 1)) aNil))) (sRet (eCall (f_put_in 12) (aCons (eLoc 0) (aCons (eDictT (eIxQ (eLoc 1) (eC (.int 0)))) (aCons (eDictT (eIxQ (eLoc 1) (eC (.int 1)))) aNil)))))))
def f_kind_put : Fn := runT 2 2 b_kind_put
def b_is_putting : Sts := (sRet (eCall f_is_putting_of (aCons (eLoc 0) aNil)))
def f_is_putting : Fn := runT 1 1 b_is_putting
def b_row_put : Sts := (sSeq (sDrop (eCall f_want_row (aCons (eLoc 0) aNil))) (sSeq (sDrop (eCall f_want_putting (aCons (eTree (eLoc 1)) aNil))) (sRet (eCall f_put_in_row (aCons (eLoc 0) (aCons (eDictT (eIxQ (eLoc 1) (eC (.int 1)))) aNil))))))
def f_row_put : Fn := runT 2 2 b_row_put
def b__law_anew : Sts := (sSeq (sAsg (eCall (f__law_loose 12) (aCons (eLoc 0) aNil)) (tTuple 2 (tgCons (tName 2) (tgCons (tName 3) tgNil)))) (sSeq (sSet 3 (eBin fAdd (eLoc 3) (eComp (iLstM (eBin fIdx (eCall (f__law_loose 12) (aCons (eLoc 1) aNil)) (eC (.int 1)))) (fName 4) [4] (eBin fNotIn (eLoc 4) (eLoc 3)) (eLoc 4)))) (sRet (eTup (aCons (eCallF (f__law_kind_led 12) (aCons (eLoc 0) (aLam 0 [2] (aLam 1 [3] aNil)))) (aCons (eCall f__law_row_anew (aCons (eLoc 1) (aCons (eLoc 3) aNil))) aNil))))))
def f__law_anew : Fn := runT 2 5 b__law_anew
def b_named_anew_of : Sts := (sSeq (sPar 2 3 (aCons eNewD (aCons eNewD aNil))) (sSeq (sDrop (eCall (f_come_in 12) (aCons (eLoc 0) (aCons (eLoc 2) (aCons (eLoc 3) aNil))))) (sSeq (sDrop (eCall f_come_in_row (aCons (eLoc 1) (aCons (eLoc 3) aNil)))) (sSeq (sSet 4 (eDcI 2 (fTup [6, 7]) [6, 7] (eLoc 6) (eTup (aCons (eC k_ANY) (aCons (eLoc 7) aNil))))) (sSeq (sSet 5 (eDcI 3 (fTup [6, 7]) [6, 7] (eLoc 6) (eTup (aCons (eC k_ROW) (aCons (eTup aNil) (aCons (eLoc 7) aNil)))))) (sRet (eTup (aCons (eCall (f_put_in 12) (aCons (eLoc 0) (aCons (eLoc 4) (aCons (eLoc 5) aNil)))) (aCons (eCall f_put_in_row (aCons (eLoc 1) (aCons (eLoc 5) aNil))) aNil)))))))))
def f_named_anew_of : Fn := runT 2 8 b_named_anew_of
def b_named_anew : Sts := (sSeq (sDrop (eCall f_want_kind (aCons (eLoc 0) aNil))) (sRet (eCall f_named_anew_of (aCons (eLoc 0) (aCons (eCall f_want_row (aCons (eLoc 1) aNil)) aNil)))))
def f_named_anew : Fn := runT 2 2 b_named_anew
def b__law_some : Sts := (sSeq (sPar 3 4 (aCons (eListN (eLoc 1)) (aCons (eNew aNil) aNil))) (sSeq (sFor (iRngM (aCons (eLoc 2) aNil)) (tName 5) (sDrop (eApp (eLoc 4) (ePopAt (eLoc 3) (eCall f__law_draw (aCons (eLoc 0) (aCons (eBlt bLen (aCons (eLoc 3) aNil)) aNil))))))) (sRet (eLoc 4))))
def f__law_some : Fn := runT 3 6 b__law_some
def b_are_alike_kinds : Sts := (sSeq (sDrop (eCall f_want_kind (aCons (eLoc 0) aNil))) (sRet (eBin fEq (eCall f_named_anew_of (aCons (eLoc 0) (aCons (eC k_NOTHING) aNil))) (eCall f_named_anew_of (aCons (eCall f_want_kind (aCons (eLoc 1) aNil)) (aCons (eC k_NOTHING) aNil))))))
def f_are_alike_kinds : Fn := runT 2 2 b_are_alike_kinds
def b__law_right : Sts := (sSeq (sFor (iRngM (aCons (eC (.int 8)) aNil)) (tName 1) (sScope (sSeq (sPar 2 3 (aCons (eCall (f__law_kind 6) (aCons (eLoc 0) (aCons (eC (.int 4)) aNil))) (aCons (eCall f__law_row (aCons (eLoc 0) aNil)) aNil))) (sSeq (sSet 4 (eRepr (eLst (aCons (eLoc 2) (aCons (eLoc 3) aNil))))) (sSeq (sAsg (eCall (f__law_loose 12) (aCons (eLoc 2) aNil)) (tTuple 2 (tgCons (tName 5) (tgCons (tName 6) tgNil)))) (sSeq (sIf (eOr (eNot (eCall f__law_twice (aCons (eLst (aCons (eCall f_loose (aCons (eLoc 2) aNil)) (aCons (eCallK0 f_loose [0] (aCons (eLoc 2) aNil)) aNil))) (aCons (eTup (aCons (eLoc 5) (aCons (eLoc 6) aNil))) aNil)))) (eOr (eBin fNotB (eCall f_is_kind (aCons (eLoc 2) aNil)) (eC (.bool true))) (eBin fNotB (eCall f_is_row (aCons (eLoc 3) aNil)) (eC (.bool true))))) (sRet (eC (.bool false))) sNil) (sSeq (sDropCut (eApp (eIxU (eCall f_loose__u (aCons (eLoc 2) aNil)) (eC (.int 0))) (eC (.int 99)))) (sSeq (sSet 7 (eBlt bTuple (aCons (eSortT (eComp (iRngM (aCons (eCall f__law_draw (aCons (eLoc 0) (aCons (eC (.int 4)) aNil))) aNil)) (fName 12) [12] eYes (eCall f__law_pick (aCons (eLoc 0) (aCons (eLst (aCons (eC (.str "A")) (aCons (eC (.str "B")) (aCons (eC (.str "Get")) (aCons (eC (.str "Zz")) aNil))))) aNil))))) aNil))) (sSeq (sIf (eNot (eCall f__law_twice (aCons (eLst (aCons (eCall f_row_more (aCons (eLoc 3) (aCons (eLoc 7) aNil))) (aCons (eCallK0 f_row_more [1, 0] (aCons (eLoc 7) (aCons (eLoc 3) aNil))) aNil))) (aCons (eTup (aCons (eC (.str "row")) (aCons (eBlt bTuple (aCons (eSortT (eBin fAdd (eBin fIdx (eLoc 3) (eC (.int 1))) (eLoc 7))) aNil)) (aCons (eBin fIdx (eLoc 3) (eC (.int 2))) aNil)))) aNil)))) (sRet (eC (.bool false))) sNil) (sSeq (sAsg (eCall f__law_putting (aCons (eLoc 0) aNil)) (tgU [8, 9, 10])) (sSeq (sIf (eOr (eBin fNotB (eCall f_is_putting (aCons (eTree (eLoc 10)) aNil)) (eC (.bool true))) (eNot (eCall f__law_twice (aCons (eLst (aCons (eCall f_kind_put (aCons (eLoc 2) (aCons (eLoc 10) aNil))) (aCons (eCallK0 f_kind_put [1, 0] (aCons (eLoc 10) (aCons (eLoc 2) aNil))) aNil))) (aCons (eCall f__law_kind_put (aCons (eLoc 2) (aCons (eLoc 8) (aCons (eLoc 9) aNil)))) aNil))))) (sRet (eC (.bool false))) sNil) (sSeq (sIf (eNot (eCall f__law_twice (aCons (eLst (aCons (eCall f_row_put (aCons (eLoc 3) (aCons (eLoc 10) aNil))) (aCons (eCallK0 f_row_put [1, 0] (aCons (eLoc 10) (aCons (eLoc 3) aNil))) aNil))) (aCons (eCall f__law_row_put (aCons (eLoc 3) (aCons (eLoc 9) aNil))) aNil)))) (sRet (eC (.bool false))) sNil) (sSeq (sSet 11 (eCall f__law_anew (aCons (eLoc 2) (aCons (eLoc 3) aNil)))) (sSeq (sIf (eNot (eCall f__law_twice (aCons (eLst (aCons (eCall f_named_anew (aCons (eLoc 2) (aCons (eLoc 3) aNil))) (aCons (eCallK0 f_named_anew [1, 0] (aCons (eLoc 3) (aCons (eLoc 2) aNil))) aNil))) (aCons (eLoc 11) aNil)))) (sRet (eC (.bool false))) sNil) (sSeq (sSet 12 (eCall f__law_some (aCons (eLoc 0) (aCons (eListRng (eC (.int 20))) (aCons (eC (.int 6)) aNil))))) (sSeq (sSet 13 (eCall f__law_kind_put (aCons (eLoc 2) (aCons (eDictP (eComp (iRngM (aCons (eC (.int 3)) aNil)) (fName 17) [17] eYes (eTup (aCons (eLoc 17) (aCons (eTup (aCons (eC (.str "any")) (aCons (eBin fIdx (eLoc 12) (eLoc 17)) aNil))) aNil))))) (aCons (eDictP (eComp (iRngM (aCons (eC (.int 3)) aNil)) (fName 17) [17] eYes (eTup (aCons (eLoc 17) (aCons (eTup (aCons (eC (.str "row")) (aCons (eTup aNil) (aCons (eBin fIdx (eLoc 12) (eBin fAdd (eC (.int 3)) (eLoc 17))) aNil)))) aNil))))) aNil))))) (sSeq (sSet 14 (eTup (aCons (eC (.str "row")) (aCons (eTup aNil) (aCons (eC .none) aNil))))) (sSeq (sFor (iTupM (eTup (aCons (eLoc 13) (aCons (eCall (f__law_kind 6) (aCons (eLoc 0) (aCons (eC (.int 3)) aNil))) (aCons (eCall f__law_kind_put (aCons (eLoc 2) (aCons (eDisp1 (eC (.int 0)) (eTup (aCons (eC (.str "any")) (aCons (eC (.int 1)) aNil)))) (aCons eNewD aNil)))) (aCons (eCall f__law_kind_put (aCons (eLoc 2) (aCons eNewD (aCons (eDisp1 (eC (.int 1)) (eTup (aCons (eC (.str "row")) (aCons (eTup aNil) (aCons (eC (.int 0)) aNil))))) aNil)))) (aCons (eCall f__law_kind_put (aCons (eLoc 2) (aCons (eLoc 8) (aCons (eLoc 9) aNil)))) aNil))))))) (tName 15) (sScope (sSeq (sSet 16 (eBin fEq (eCall f__law_anew (aCons (eLoc 15) (aCons (eLoc 14) aNil))) (eCall f__law_anew (aCons (eLoc 2) (aCons (eLoc 14) aNil))))) (sIf (eNot (eCall f__law_twice (aCons (eLst (aCons (eCall f_are_alike_kinds (aCons (eLoc 2) (aCons (eLoc 15) aNil))) (aCons (eCallK0 f_are_alike_kinds [1, 0] (aCons (eLoc 2) (aCons (eLoc 15) aNil))) aNil))) (aCons (eLoc 16) aNil)))) (sRet (eC (.bool false))) sNil)))) (sIf (eOr (eNot (eCall f_are_alike_kinds (aCons (eLoc 2) (aCons (eLoc 13) aNil)))) (eEqT false (eRepr (eLst (aCons (eLoc 2) (aCons (eLoc 3) aNil)))) (eLoc 4))) (sRet (eC (.bool false))) sNil))))))))))))))))))) (sRet (eC (.bool true))))
def f__law_right : Fn := runT 1 18 b__law_right
def b__law_pot : Sts := (sSeq (sSet 2 (eIte (eBin fLt (eLoc 1) (eLenS (eLoc 0))) (eBlt bAbs (aCons (eIxS (eLoc 0) (eLoc 1)) aNil)) (eBin fAdd (eBin fMul (eC (.int 1849)) (eLoc 1)) (eC (.int 761))))) (sRet (eNew (aCons (eBlt bMax2 (aCons (eC (.int 0)) (aCons (eBin fSub (eLoc 2) (eBin fPow (eC (.int 10)) (eC (.int 18)))) aNil))) (aCons (eBin fAdd (eBin fMod (eBlt bInt (aCons (eBin fAdd (eBin fAdd (eBin fMul (eBin fMod (eBlt bInt (aCons (eLoc 2) aNil)) (eC (.int 2147483549))) (eC (.int 40014))) (eBin fMul (eC (.int 7601)) (eLoc 1))) (eC (.int 173))) aNil)) (eC (.int 2147483563))) (eC (.int 1))) aNil)))))
def f__law_pot : Fn := runR 2 3 b__law_pot
def b_law : Sts := (sRet (eAnd (eCall f__law_right (aCons (eCall f__law_pot (aCons (eLoc 0) (aCons (eC (.int 0)) aNil))) aNil)) (eCall f__law_right (aCons (eCall f__law_pot (aCons (eLoc 0) (aCons (eC (.int 1)) aNil))) aNil))))
def f_law : Fn := runT 1 1 b_law
end Mn.k20

/-! the defs do what their functions say (printed by gen2.py) -/
namespace Mn.k20
open PySem PySem.Spec PyProof.Rows L2 Mn
abbrev tp (i : Nat) : Stmt := PySem.Challenge.pw_asktongue_k20_kinds_and_rows_put_and_nam.main.body.getD i (.Pass ⟨0, 0, 0, 0⟩)
def lam_0 : LamSrc := (lamAt (tp 59) 1 ["one"] ["anys"]).getD ⟨⟨[], [], .none, [], [], .none, []⟩, .Tuple [] 0 ⟨0, 0, 0, 0⟩, defScope (tp 59), [], []⟩
def lam_1 : LamSrc := (lamAt (tp 59) 2 ["late"] ["tails"]).getD ⟨⟨[], [], .none, [], [], .none, []⟩, .Tuple [] 0 ⟨0, 0, 0, 0⟩, defScope (tp 59), [], []⟩
def lam_2 : LamSrc := (lamAt (tp 62) 1 ["one"] ["kinds"]).getD ⟨⟨[], [], .none, [], [], .none, []⟩, .Tuple [] 0 ⟨0, 0, 0, 0⟩, defScope (tp 62), [], []⟩
def lam_3 : LamSrc := (lamAt (tp 62) 2 ["late"] ["rows"]).getD ⟨⟨[], [], .none, [], [], .none, []⟩, .Tuple [] 0 ⟨0, 0, 0, 0⟩, defScope (tp 62), [], []⟩
instance lamsI : Lams := ⟨fun i => match i with
  | 0 => some lam_0
  | 1 => some lam_1
  | 2 => some lam_2
  | 3 => some lam_3
  | _ => none, ["_law_anew", "_law_kind_put"]⟩
/-- what the top has left -/
structure Tops (K : PySem.W.Frag) (w : World) (mg : Str → Option Value) : Prop where
  p__law_draw : Pl K mg "_law_draw" (tp 52)
  p__law_pick : Pl K mg "_law_pick" (tp 53)
  p__law_row : Pl K mg "_law_row" (tp 55)
  p__law_kind : Pl K mg "_law_kind" (tp 56)
  p__law_loose : Pl K mg "_law_loose" (tp 58)
  p_has_many : Pl K mg "has_many" (tp 24)
  p_is_integer : Pl K mg "is_integer" (tp 7)
  p_is_count : Pl K mg "is_count" (tp 8)
  p_has_signs : Pl K mg "has_signs" (tp 14)
  p_is_ask_name : Pl K mg "is_ask_name" (tp 15)
  p_are_names : Pl K mg "are_names" (tp 25)
  p_is_row_of : Pl K mg "is_row_of" (tp 26)
  p_is_row : Pl K mg "is_row" (tp 42)
  p_is_kind_of : Pl K mg "is_kind_of" (tp 27)
  p_is_kind : Pl K mg "is_kind" (tp 41)
  p__law_twice : Pl K mg "_law_twice" (tp 64)
  p_come_in_row : Pl K mg "come_in_row" (tp 32)
  p_within_of : Pl K mg "within_of" (tp 28)
  p_come_in : Pl K mg "come_in" (tp 31)
  p_loose_of : Pl K mg "loose_of" (tp 33)
  p_want_kind : Pl K mg "want_kind" (tp 38)
  p_loose : Pl K mg "loose" (tp 44)
  p_want_row : Pl K mg "want_row" (tp 39)
  p_more_of : Pl K mg "more_of" (tp 34)
  p_row_more : Pl K mg "row_more" (tp 45)
  p__law_putting : Pl K mg "_law_putting" (tp 63)
  p__law_row_anew : Pl K mg "_law_row_anew" (tp 60)
  p__law_row_put : Pl K mg "_law_row_put" (tp 61)
  p__law_kind_led : Pl K mg "_law_kind_led" (tp 57)
  p__law_kind_put : Pl K mg "_law_kind_put" (tp 62)
  p_are_put_by : Pl K mg "are_put_by" (tp 29)
  p_is_putting_of : Pl K mg "is_putting_of" (tp 30)
  p_want_putting : Pl K mg "want_putting" (tp 40)
  p_put_in_row : Pl K mg "put_in_row" (tp 35)
  p_put_in : Pl K mg "put_in" (tp 36)
  p_kind_put : Pl K mg "kind_put" (tp 46)
  p_is_putting : Pl K mg "is_putting" (tp 43)
  p_row_put : Pl K mg "row_put" (tp 47)
  p__law_anew : Pl K mg "_law_anew" (tp 59)
  p_named_anew_of : Pl K mg "named_anew_of" (tp 37)
  p_named_anew : Pl K mg "named_anew" (tp 48)
  p__law_some : Pl K mg "_law_some" (tp 54)
  p_are_alike_kinds : Pl K mg "are_alike_kinds" (tp 49)
  p__law_right : Pl K mg "_law_right" (tp 65)
  p__law_pot : Pl K mg "_law_pot" (tp 51)
  p_law : Pl K mg "law" (tp 66)
  c_ANY : Ct K mg "ANY" k_ANY
  c_FIGURES : Ct K mg "FIGURES" k_FIGURES
  c_FN : Ct K mg "FN" k_FN
  c_GREAT : Ct K mg "GREAT" k_GREAT
  c_LIST : Ct K mg "LIST" k_LIST
  c_MOST_SIGNS : Ct K mg "MOST_SIGNS" k_MOST_SIGNS
  c_NOTHING : Ct K mg "NOTHING" k_NOTHING
  c_PAIR : Ct K mg "PAIR" k_PAIR
  c_PLAIN : Ct K mg "PLAIN" k_PLAIN
  c_ROW : Ct K mg "ROW" k_ROW
  c_SMALL : Ct K mg "SMALL" k_SMALL
  b_abs : mg "abs" = none
  b_all : mg "all" = none
  b_bool : mg "bool" = none
  b_dict : mg "dict" = none
  b_divmod : mg "divmod" = none
  b_int : mg "int" = none
  b_isinstance : mg "isinstance" = none
  b_len : mg "len" = none
  b_list : mg "list" = none
  b_max : mg "max" = none
  b_range : mg "range" = none
  b_repr : mg "repr" = none
  b_sorted : mg "sorted" = none
  b_str : mg "str" = none
  b_tuple : mg "tuple" = none
  b_zip : mg "zip" = none
  i_bool : IsiK K "bool"
  i_int : IsiK K "int"
  i_list : IsiK K "list"
  i_str : IsiK K "str"
  i_tuple : IsiK K "tuple"
  g__law_anew : mg "_law_anew" = some (.ref (He.ga K "_law_anew"))
  g__law_kind_put : mg "_law_kind_put" = some (.ref (He.ga K "_law_kind_put"))
  g_is_kind_of : mg "is_kind_of" = some (.ref (He.ga K "is_kind_of"))
  g_is_row_of : mg "is_row_of" = some (.ref (He.ga K "is_row_of"))
  h__law_anew : homeB K "_law_anew" = true
  h__law_kind_put : homeB K "_law_kind_put" = true
theorem bb_abs : bootBuiltins "abs" = some (.builtin "abs") := by decide +kernel
theorem bb_all : bootBuiltins "all" = some (.builtin "all") := by decide +kernel
theorem bb_bool : bootBuiltins "bool" = some (.type "bool") := by decide +kernel
theorem bb_dict : bootBuiltins "dict" = some (.type "dict") := by decide +kernel
theorem bb_divmod : bootBuiltins "divmod" = some (.builtin "divmod") := by decide +kernel
theorem bb_int : bootBuiltins "int" = some (.type "int") := by decide +kernel
theorem bb_isinstance : bootBuiltins "isinstance" = some (.builtin "isinstance") := by decide +kernel
theorem bb_len : bootBuiltins "len" = some (.builtin "len") := by decide +kernel
theorem bb_list : bootBuiltins "list" = some (.type "list") := by decide +kernel
theorem bb_max : bootBuiltins "max" = some (.builtin "max") := by decide +kernel
theorem bb_range : bootBuiltins "range" = some (.type "range") := by decide +kernel
theorem bb_repr : bootBuiltins "repr" = some (.builtin "repr") := by decide +kernel
theorem bb_sorted : bootBuiltins "sorted" = some (.builtin "sorted") := by decide +kernel
theorem bb_str : bootBuiltins "str" = some (.type "str") := by decide +kernel
theorem bb_tuple : bootBuiltins "tuple" = some (.type "tuple") := by decide +kernel
theorem bb_zip : bootBuiltins "zip" = some (.type "zip") := by decide +kernel
section
variable {P : Program} {w : World} {K : PySem.W.Frag} {mg : Str → Option Value} {base : Heap} {k : Nat}
theorem sc__law_draw : FnScope ["pot", "many", "digit"] ["pot", "many"] (defScope (tp 52)) := ⟨by kernel_rfl, by kernel_rfl, by kernel_rfl, by decide +kernel, by kernel_rfl, by decide +kernel, by decide +kernel⟩
theorem ok__law_draw (T : Tops K w mg)  : Df P w K mg base "_law_draw" (tp 52) ["pot", "many"] (k + 1) f__law_draw :=
  have S := sc__law_draw
  df_of (b := b__law_draw) T.p__law_draw S (fun _ _ _ _ _ _ us hl => match us, hl with | [_, _], _ => by kernel_rfl) fun _ cdv A outer s H hr hgd => (psm_cons (psm_if (pmt_cmp o_gt (pm_idx (pm_loc 0 (by kernel_rfl) (.inl (by kernel_rfl))) pm_int) pm_int (hm := by kernel_rfl)) (psm_cons (psm_asg (pm_blt c_divmod (gl (by kernel_rfl)) T.b_divmod bb_divmod (pma_cons (pm_idx (pm_loc 0 (by kernel_rfl) (.inl (by kernel_rfl))) pm_int) (pma_cons (pm_loc 1 (by kernel_rfl) (.inl (by kernel_rfl))) pma_nil))) (pgm_tup (by kernel_rfl) (pgsm_cons (pgm_sub (pm_loc 0 (by kernel_rfl) (.inl (by kernel_rfl))) pm_int) (pgsm_cons (pgm_name 2 S.nd (hx := .inl (by kernel_rfl)) (hf := .inr (by kernel_rfl))) pgsm_nil)))) (psm_one (psm_ret (pm_loc 2 (by kernel_rfl) (.inl (by kernel_rfl)))))) psm_nil) (psm_cons (psm_asg (pm_bin o_mod (pm_ty c_int (gl (by kernel_rfl)) T.b_int bb_int (pma_cons (pm_bin o_add (pm_bin o_mul (pm_idx (pm_loc 0 (by kernel_rfl) (.inl (by kernel_rfl))) pm_int) pm_int) pm_int) pma_nil)) pm_int) (pgm_sub (pm_loc 0 (by kernel_rfl) (.inl (by kernel_rfl))) pm_int)) (psm_one (psm_ret (pm_bin o_mod (pm_ty c_int (gl (by kernel_rfl)) T.b_int bb_int (pma_cons (pm_bin o_fdiv (pm_bin o_mod (pm_ty c_int (gl (by kernel_rfl)) T.b_int bb_int (pma_cons (pm_bin o_mul (pm_idx (pm_loc 0 (by kernel_rfl) (.inl (by kernel_rfl))) pm_int) (pm_idx (pm_loc 0 (by kernel_rfl) (.inl (by kernel_rfl))) pm_int)) pma_nil)) pm_int) pm_int) pma_nil)) (pm_loc 1 (by kernel_rfl) (.inl (by kernel_rfl))))))))
theorem sc__law_pick : FnScope ["pot", "some"] ["pot", "some"] (defScope (tp 53)) := ⟨by kernel_rfl, by kernel_rfl, by kernel_rfl, by decide +kernel, by kernel_rfl, by decide +kernel, by decide +kernel⟩
theorem ok__law_pick (T : Tops K w mg) (d__law_draw : Df P w K mg base "_law_draw" (tp 52) ["pot", "many"] k f__law_draw) : Df P w K mg base "_law_pick" (tp 53) ["pot", "some"] (k + 1) f__law_pick :=
  have S := sc__law_pick
  df_of (b := b__law_pick) T.p__law_pick S (fun _ _ _ _ _ _ us hl => match us, hl with | [_, _], _ => by kernel_rfl) fun _ cdv A outer s H hr hgd => (psm_one (psm_ret (pm_idx (pm_loc 1 (by kernel_rfl) (.inl (by kernel_rfl))) (pm_df d__law_draw hr hgd (gl (by kernel_rfl)) (pma_cons (pm_loc 0 (by kernel_rfl) (.inl (by kernel_rfl))) (pma_cons (pm_blt c_len (gl (by kernel_rfl)) T.b_len bb_len (pma_cons (pm_loc 1 (by kernel_rfl) (.inl (by kernel_rfl))) pma_nil)) pma_nil))))))
theorem sc__law_row : FnScope ["pot", "names", "turn"] ["pot"] (defScope (tp 55)) := ⟨by kernel_rfl, by kernel_rfl, by kernel_rfl, by decide +kernel, by kernel_rfl, by decide +kernel, by decide +kernel⟩
theorem ok__law_row (T : Tops K w mg) (d__law_pick : Df P w K mg base "_law_pick" (tp 53) ["pot", "some"] k f__law_pick) : Df P w K mg base "_law_row" (tp 55) ["pot"] (k + 1) f__law_row :=
  have S := sc__law_row
  df_of (b := b__law_row) T.p__law_row S (fun _ _ _ _ _ _ us hl => match us, hl with | [_], _ => by kernel_rfl) fun _ cdv A outer s H hr hgd => (psm_cons (psm_setComp (by kernel_rfl) S.nd (by kernel_rfl) (by kernel_rfl) (sw_true (by kernel_rfl) (by kernel_rfl) (by kernel_rfl) (by kernel_rfl)) (pim_rng (gl (by kernel_rfl)) T.b_range (pma_cons (pm_df d__law_pick hr hgd (gl (by kernel_rfl)) (pma_cons (pm_loc 0 (by kernel_rfl) (.inr (.inl (by kernel_rfl)))) (pma_cons (pm_lst (pma_cons pm_int (pma_cons pm_int (pma_cons pm_int (pma_cons pm_int (pma_cons pm_int (pma_cons pm_int pma_nil))))))) pma_nil))) pma_nil)) (own := [("turn", 2)]) (blkOk_by (by kernel_rfl)) (tgc_name (i := 2) (by decide)) (fun _ _ _ _ _ => pg_name S.nd (by kernel_rfl) (.inl (by kernel_rfl)) (.inr (by kernel_rfl))) (fun _ _ _ _ _ => pmts_nil) (fun _ _ _ _ _ => (pm_df d__law_pick hr hgd (gl (by kernel_rfl)) (pma_cons (pm_loc 0 (by kernel_rfl) (.inr (.inl (by kernel_rfl)))) (pma_cons (pm_lst (pma_cons (pm_str (by decide +kernel)) (pma_cons (pm_str (by decide +kernel)) (pma_cons (pm_str (by decide +kernel)) pma_nil)))) pma_nil))))) (psm_one (psm_ret (pm_tup (pma_cons (pm_str (by decide +kernel)) (pma_cons (pm_ty c_tuple (gl (by kernel_rfl)) T.b_tuple bb_tuple (pma_cons (pm_sortT (gl (by kernel_rfl)) T.b_sorted (pm_loc 1 (by kernel_rfl) (.inl (by kernel_rfl)))) pma_nil)) (pma_cons (pm_df d__law_pick hr hgd (gl (by kernel_rfl)) (pma_cons (pm_loc 0 (by kernel_rfl) (.inr (.inl (by kernel_rfl)))) (pma_cons (pm_lst (pma_cons pm_non (pma_cons pm_int (pma_cons pm_int (pma_cons pm_int (pma_cons pm_int pma_nil)))))) pma_nil))) pma_nil)))))))
theorem sc__law_kind : FnScope ["pot", "deep", "way"] ["pot", "deep"] (defScope (tp 56)) := ⟨by kernel_rfl, by kernel_rfl, by kernel_rfl, by decide +kernel, by kernel_rfl, by decide +kernel, by decide +kernel⟩
theorem ok__law_kind (T : Tops K w mg) (d__law_draw : Df P w K mg base "_law_draw" (tp 52) ["pot", "many"] k f__law_draw) (d__law_row : Df P w K mg base "_law_row" (tp 55) ["pot"] k f__law_row) {rc : Fn} (d_rc : Df P w K mg base "_law_kind" (tp 56) ["pot", "deep"] k rc) : Df P w K mg base "_law_kind" (tp 56) ["pot", "deep"] (k + 1) (runT 2 3 (b__law_kind rc)) :=
  have S := sc__law_kind
  df_of (b := b__law_kind rc) T.p__law_kind S (fun _ _ _ _ _ _ us hl => match us, hl with | [_, _], _ => by kernel_rfl) fun _ cdv A outer s H hr hgd => (psm_cons (psm_set S.nd (pm_df d__law_draw hr hgd (gl (by kernel_rfl)) (pma_cons (pm_loc 0 (by kernel_rfl) (.inl (by kernel_rfl))) (pma_cons (pm_ite (pmt_cmp o_gt (pm_loc 1 (by kernel_rfl) (.inl (by kernel_rfl))) pm_int (hm := by kernel_rfl)) pm_int pm_int) pma_nil))) (hx := .inl (by kernel_rfl)) (hf := .inr (by kernel_rfl))) (psm_cons (psm_if (pmt_cmp o_lt (pm_loc 2 (by kernel_rfl) (.inl (by kernel_rfl))) pm_int (hm := by kernel_rfl)) (psm_one (psm_ret (pm_idx (pm_lst (pma_cons (pm_tup (pma_cons (pm_str (by decide +kernel)) pma_nil)) (pma_cons (pm_tup (pma_cons (pm_str (by decide +kernel)) pma_nil)) (pma_cons (pm_tup (pma_cons (pm_str (by decide +kernel)) pma_nil)) (pma_cons (pm_tup (pma_cons (pm_str (by decide +kernel)) (pma_cons (pm_df d__law_draw hr hgd (gl (by kernel_rfl)) (pma_cons (pm_loc 0 (by kernel_rfl) (.inl (by kernel_rfl))) (pma_cons pm_int pma_nil))) pma_nil))) (pma_cons (pm_tup (pma_cons (pm_str (by decide +kernel)) (pma_cons (pm_df d__law_draw hr hgd (gl (by kernel_rfl)) (pma_cons (pm_loc 0 (by kernel_rfl) (.inl (by kernel_rfl))) (pma_cons pm_int pma_nil))) pma_nil))) pma_nil)))))) (pm_loc 2 (by kernel_rfl) (.inl (by kernel_rfl)))))) psm_nil) (psm_cons (psm_if (pmt_cmp (o_eq (hu190 hr)) (pm_loc 2 (by kernel_rfl) (.inl (by kernel_rfl))) pm_int (hm := by kernel_rfl)) (psm_one (psm_ret (pm_tup (pma_cons (pm_str (by decide +kernel)) (pma_cons (pm_df d_rc hr hgd (gl (by kernel_rfl)) (pma_cons (pm_loc 0 (by kernel_rfl) (.inl (by kernel_rfl))) (pma_cons (pm_bin o_sub (pm_loc 1 (by kernel_rfl) (.inl (by kernel_rfl))) pm_int) pma_nil))) pma_nil))))) psm_nil) (psm_cons (psm_if (pmt_cmp (o_eq (hu190 hr)) (pm_loc 2 (by kernel_rfl) (.inl (by kernel_rfl))) pm_int (hm := by kernel_rfl)) (psm_one (psm_ret (pm_tup (pma_cons (pm_str (by decide +kernel)) (pma_cons (pm_df d_rc hr hgd (gl (by kernel_rfl)) (pma_cons (pm_loc 0 (by kernel_rfl) (.inl (by kernel_rfl))) (pma_cons (pm_bin o_sub (pm_loc 1 (by kernel_rfl) (.inl (by kernel_rfl))) pm_int) pma_nil))) (pma_cons (pm_df d_rc hr hgd (gl (by kernel_rfl)) (pma_cons (pm_loc 0 (by kernel_rfl) (.inl (by kernel_rfl))) (pma_cons (pm_bin o_sub (pm_loc 1 (by kernel_rfl) (.inl (by kernel_rfl))) pm_int) pma_nil))) pma_nil)))))) psm_nil) (psm_one (psm_ret (pm_tup (pma_cons (pm_str (by decide +kernel)) (pma_cons (pm_df d_rc hr hgd (gl (by kernel_rfl)) (pma_cons (pm_loc 0 (by kernel_rfl) (.inl (by kernel_rfl))) (pma_cons (pm_bin o_sub (pm_loc 1 (by kernel_rfl) (.inl (by kernel_rfl))) pm_int) pma_nil))) (pma_cons (pm_df d__law_row hr hgd (gl (by kernel_rfl)) (pma_cons (pm_loc 0 (by kernel_rfl) (.inl (by kernel_rfl))) pma_nil)) (pma_cons (pm_df d_rc hr hgd (gl (by kernel_rfl)) (pma_cons (pm_loc 0 (by kernel_rfl) (.inl (by kernel_rfl))) (pma_cons (pm_bin o_sub (pm_loc 1 (by kernel_rfl) (.inl (by kernel_rfl))) pm_int) pma_nil))) pma_nil)))))))))))
theorem sc__law_loose : FnScope ["kind", "anys", "tails", "one", "some", "more", "at"] ["kind"] (defScope (tp 58)) := ⟨by kernel_rfl, by kernel_rfl, by kernel_rfl, by decide +kernel, by kernel_rfl, by decide +kernel, by decide +kernel⟩
theorem ok__law_loose (T : Tops K w mg)  {rc : Fn} (d_rc : Df P w K mg base "_law_loose" (tp 58) ["kind"] k rc) : Df P w K mg base "_law_loose" (tp 58) ["kind"] (k + 1) (runT 1 7 (b__law_loose rc)) :=
  have S := sc__law_loose
  df_of (b := b__law_loose rc) T.p__law_loose S (fun _ _ _ _ _ _ us hl => match us, hl with | [_], _ => by kernel_rfl) fun _ cdv A outer s H hr hgd => (psm_cons (psm_asg (pm_tup (pma_cons (pm_lst pma_nil) (pma_cons (pm_lst pma_nil) pma_nil))) (pgm_tup (by kernel_rfl) (pgsm_cons (pgm_name 1 S.nd (hx := .inr (by kernel_rfl)) (hf := .inl (by kernel_rfl))) (pgsm_cons (pgm_name 2 S.nd (hx := .inr (by kernel_rfl)) (hf := .inl (by kernel_rfl))) pgsm_nil)))) (psm_cons (psm_if (pmt_cmp (o_eq (hu190 hr)) (pm_idx (pm_loc 0 (by kernel_rfl) (.inl (by kernel_rfl))) pm_int) (pm_str (by decide +kernel)) (hm := by kernel_rfl)) (psm_one (psm_ret (pm_tup (pma_cons (pm_lst (pma_cons (pm_idx (pm_loc 0 (by kernel_rfl) (.inl (by kernel_rfl))) pm_int) pma_nil)) (pma_cons (pm_lst pma_nil) pma_nil))))) psm_nil) (psm_cons (psm_if (pmt_cmp (o_eq (hu190 hr)) (pm_idx (pm_loc 0 (by kernel_rfl) (.inl (by kernel_rfl))) pm_int) (pm_str (by decide +kernel)) (hm := by kernel_rfl)) (psm_one (psm_ret (pm_tup (pma_cons (pm_lst pma_nil) (pma_cons (pm_ite (pmt_cmp o_isN (pm_idx (pm_loc 0 (by kernel_rfl) (.inl (by kernel_rfl))) pm_int) pm_non (hm := by kernel_rfl)) (pm_lst pma_nil) (pm_lst (pma_cons (pm_idx (pm_loc 0 (by kernel_rfl) (.inl (by kernel_rfl))) pm_int) pma_nil))) pma_nil))))) psm_nil) (psm_cons (psm_for PassesOwn.never (by kernel_rfl) (pim_tup (pm_slice (pm_loc 0 (by kernel_rfl) (.inl (by kernel_rfl))) (pmo_some pm_int) pmo_none)) (pgm_name 3 S.nd (hx := .inl (by kernel_rfl)) (hf := .inr (by kernel_rfl))) (psm_cons (psm_asg (pm_df d_rc hr hgd (gl (by kernel_rfl)) (pma_cons (pm_loc 3 (by kernel_rfl) (.inl (by kernel_rfl))) pma_nil)) (pgm_tup (by kernel_rfl) (pgsm_cons (pgm_name 4 S.nd (hx := .inl (by kernel_rfl)) (hf := .inr (by kernel_rfl))) (pgsm_cons (pgm_name 5 S.nd (hx := .inl (by kernel_rfl)) (hf := .inr (by kernel_rfl))) pgsm_nil)))) (psm_cons (psm_set S.nd (pm_bin o_add (pm_loc 1 (by kernel_rfl) (.inr (.inl (by kernel_rfl)))) (pm_comp (by kernel_rfl) S.nd (pim_lst (pm_loc 4 (by kernel_rfl) (.inl (by kernel_rfl)))) (own := [("at", 6)]) (blkOk_by (by kernel_rfl)) (tgc_name (i := 6) (by decide)) (fun _ _ _ _ _ => pg_name S.nd (by kernel_rfl) (.inl (by kernel_rfl)) (.inr (by kernel_rfl))) (fun _ _ _ _ _ => (pmts_one (pmt_cmp o_notin (pm_loc 6 (by kernel_rfl) (.inl (by kernel_rfl))) (pm_loc 1 (by kernel_rfl) (.inr (.inl (by kernel_rfl)))) (hm := by kernel_rfl)))) (fun _ _ _ _ _ => (pm_loc 6 (by kernel_rfl) (.inl (by kernel_rfl)))))) (hx := .inr (by kernel_rfl)) (hf := .inl (by kernel_rfl))) (psm_one (psm_set S.nd (pm_bin o_add (pm_loc 2 (by kernel_rfl) (.inr (.inl (by kernel_rfl)))) (pm_comp (by kernel_rfl) S.nd (pim_lst (pm_loc 5 (by kernel_rfl) (.inl (by kernel_rfl)))) (own := [("at", 6)]) (blkOk_by (by kernel_rfl)) (tgc_name (i := 6) (by decide)) (fun _ _ _ _ _ => pg_name S.nd (by kernel_rfl) (.inl (by kernel_rfl)) (.inr (by kernel_rfl))) (fun _ _ _ _ _ => (pmts_one (pmt_cmp o_notin (pm_loc 6 (by kernel_rfl) (.inl (by kernel_rfl))) (pm_loc 2 (by kernel_rfl) (.inr (.inl (by kernel_rfl)))) (hm := by kernel_rfl)))) (fun _ _ _ _ _ => (pm_loc 6 (by kernel_rfl) (.inl (by kernel_rfl)))))) (hx := .inr (by kernel_rfl)) (hf := .inl (by kernel_rfl))))))) (psm_one (psm_ret (pm_tup (pma_cons (pm_loc 1 (by kernel_rfl) (.inr (.inl (by kernel_rfl)))) (pma_cons (pm_loc 2 (by kernel_rfl) (.inr (.inl (by kernel_rfl)))) pma_nil)))))))))
theorem sc_has_many : FnScope ["value", "many"] ["value", "many"] (defScope (tp 24)) := ⟨by kernel_rfl, by kernel_rfl, by kernel_rfl, by decide +kernel, by kernel_rfl, by decide +kernel, by decide +kernel⟩
theorem ok_has_many (T : Tops K w mg)  : Df P w K mg base "has_many" (tp 24) ["value", "many"] (k + 1) f_has_many :=
  have S := sc_has_many
  df_of (b := b_has_many) T.p_has_many S (fun _ _ _ _ _ _ us hl => match us, hl with | [_, _], _ => by kernel_rfl) fun _ cdv A outer s H hr hgd => (psm_one (psm_ret (pm_and (pm_isi T.i_tuple (gl (by kernel_rfl)) T.b_isinstance (gl (by kernel_rfl)) T.b_tuple bb_tuple (pm_loc 0 (by kernel_rfl) (.inl (by kernel_rfl)))) (pm_one (pm_cmp (o_eq (hu190 hr)) (pm_blt c_len (gl (by kernel_rfl)) T.b_len bb_len (pma_cons (pm_loc 0 (by kernel_rfl) (.inl (by kernel_rfl))) pma_nil)) (pm_loc 1 (by kernel_rfl) (.inl (by kernel_rfl))) (hm := by kernel_rfl))))))
theorem sc_is_integer : FnScope ["value"] ["value"] (defScope (tp 7)) := ⟨by kernel_rfl, by kernel_rfl, by kernel_rfl, by decide +kernel, by kernel_rfl, by decide +kernel, by decide +kernel⟩
theorem ok_is_integer (T : Tops K w mg)  : Df P w K mg base "is_integer" (tp 7) ["value"] (k + 1) f_is_integer :=
  have S := sc_is_integer
  df_of (b := b_is_integer) T.p_is_integer S (fun _ _ _ _ _ _ us hl => match us, hl with | [_], _ => by kernel_rfl) fun _ cdv A outer s H hr hgd => (psm_one (psm_ret (pm_and (pm_isi T.i_int (gl (by kernel_rfl)) T.b_isinstance (gl (by kernel_rfl)) T.b_int bb_int (pm_loc 0 (by kernel_rfl) (.inl (by kernel_rfl)))) (pm_one (pm_not (pm_isi T.i_bool (gl (by kernel_rfl)) T.b_isinstance (gl (by kernel_rfl)) T.b_bool bb_bool (pm_loc 0 (by kernel_rfl) (.inl (by kernel_rfl)))))))))
theorem sc_is_count : FnScope ["value"] ["value"] (defScope (tp 8)) := ⟨by kernel_rfl, by kernel_rfl, by kernel_rfl, by decide +kernel, by kernel_rfl, by decide +kernel, by decide +kernel⟩
theorem ok_is_count (T : Tops K w mg) (d_is_integer : Df P w K mg base "is_integer" (tp 7) ["value"] k f_is_integer) : Df P w K mg base "is_count" (tp 8) ["value"] (k + 1) f_is_count :=
  have S := sc_is_count
  df_of (b := b_is_count) T.p_is_count S (fun _ _ _ _ _ _ us hl => match us, hl with | [_], _ => by kernel_rfl) fun _ cdv A outer s H hr hgd => (psm_one (psm_ret (pm_and (pm_df d_is_integer hr hgd (gl (by kernel_rfl)) (pma_cons (pm_loc 0 (by kernel_rfl) (.inl (by kernel_rfl))) pma_nil)) (pm_one (pm_cmp o_ge (pm_loc 0 (by kernel_rfl) (.inl (by kernel_rfl))) pm_int (hm := by kernel_rfl))))))
theorem sc_has_signs : FnScope ["value", "first", "others", "sign"] ["value", "first", "others"] (defScope (tp 14)) := ⟨by kernel_rfl, by kernel_rfl, by kernel_rfl, by decide +kernel, by kernel_rfl, by decide +kernel, by decide +kernel⟩
theorem ok_has_signs (T : Tops K w mg)  : Df P w K mg base "has_signs" (tp 14) ["value", "first", "others"] (k + 1) f_has_signs :=
  have S := sc_has_signs
  df_of (b := b_has_signs) T.p_has_signs S (fun _ _ _ _ _ _ us hl => match us, hl with | [_, _, _], _ => by kernel_rfl) fun _ cdv A outer s H hr hgd => (psm_cons (psm_if (PMW.t (pmw_or (pmt_not (pmt_val (pm_isi T.i_str (gl (by kernel_rfl)) T.b_isinstance (gl (by kernel_rfl)) T.b_str bb_str (pm_loc 0 (by kernel_rfl) (.inl (by kernel_rfl)))))) (pmw_or1 (pmt_not (pmt_chain o_le o_le pm_int (pm_blt c_len (gl (by kernel_rfl)) T.b_len bb_len (pma_cons (pm_loc 0 (by kernel_rfl) (.inl (by kernel_rfl))) pma_nil)) (pm_ct T.c_MOST_SIGNS (gl (by kernel_rfl)))))))) (psm_one (psm_ret pm_bl)) psm_nil) (psm_one (psm_ret (pm_and (pm_cmp o_in (pm_idx (pm_loc 0 (by kernel_rfl) (.inl (by kernel_rfl))) pm_int) (pm_loc 1 (by kernel_rfl) (.inl (by kernel_rfl))) (hm := by kernel_rfl)) (pm_one (pm_blt (c_all (by kernel_rfl)) (gl (by kernel_rfl)) T.b_all bb_all (pma_cons (pm_comp (by kernel_rfl) S.nd (pim_str (pm_loc 0 (by kernel_rfl) (.inl (by kernel_rfl)))) (own := [("sign", 3)]) (blkOk_by (by kernel_rfl)) (tgc_name (i := 3) (by decide)) (fun _ _ _ _ _ => pg_name S.nd (by kernel_rfl) (.inl (by kernel_rfl)) (.inr (by kernel_rfl))) (fun _ _ _ _ _ => pmts_nil) (fun _ _ _ _ _ => (pm_cmp o_in (pm_loc 3 (by kernel_rfl) (.inl (by kernel_rfl))) (pm_loc 2 (by kernel_rfl) (.inr (.inl (by kernel_rfl)))) (hm := by kernel_rfl)))) pma_nil)))))))
theorem sc_is_ask_name : FnScope ["value"] ["value"] (defScope (tp 15)) := ⟨by kernel_rfl, by kernel_rfl, by kernel_rfl, by decide +kernel, by kernel_rfl, by decide +kernel, by decide +kernel⟩
theorem ok_is_ask_name (T : Tops K w mg) (d_has_signs : Df P w K mg base "has_signs" (tp 14) ["value", "first", "others"] k f_has_signs) : Df P w K mg base "is_ask_name" (tp 15) ["value"] (k + 1) f_is_ask_name :=
  have S := sc_is_ask_name
  df_of (b := b_is_ask_name) T.p_is_ask_name S (fun _ _ _ _ _ _ us hl => match us, hl with | [_], _ => by kernel_rfl) fun _ cdv A outer s H hr hgd => (psm_one (psm_ret (pm_df d_has_signs hr hgd (gl (by kernel_rfl)) (pma_cons (pm_loc 0 (by kernel_rfl) (.inl (by kernel_rfl))) (pma_cons (pm_ct T.c_GREAT (gl (by kernel_rfl))) (pma_cons (pm_bin o_add (pm_bin o_add (pm_ct T.c_SMALL (gl (by kernel_rfl))) (pm_ct T.c_GREAT (gl (by kernel_rfl)))) (pm_ct T.c_FIGURES (gl (by kernel_rfl)))) pma_nil))))))
theorem sc_are_names : FnScope ["value", "name"] ["value"] (defScope (tp 25)) := ⟨by kernel_rfl, by kernel_rfl, by kernel_rfl, by decide +kernel, by kernel_rfl, by decide +kernel, by decide +kernel⟩
theorem ok_are_names (T : Tops K w mg) (d_is_ask_name : Df P w K mg base "is_ask_name" (tp 15) ["value"] k f_is_ask_name) : Df P w K mg base "are_names" (tp 25) ["value"] (k + 1) f_are_names :=
  have S := sc_are_names
  df_of (b := b_are_names) T.p_are_names S (fun _ _ _ _ _ _ us hl => match us, hl with | [_], _ => by kernel_rfl) fun _ cdv A outer s H hr hgd => (psm_cons (psm_if (PMW.t (pmw_or (pmt_not (pmt_val (pm_isi T.i_tuple (gl (by kernel_rfl)) T.b_isinstance (gl (by kernel_rfl)) T.b_tuple bb_tuple (pm_loc 0 (by kernel_rfl) (.inl (by kernel_rfl)))))) (pmw_or1 (pmt_not (pmt_val (pm_blt (c_all (by kernel_rfl)) (gl (by kernel_rfl)) T.b_all bb_all (pma_cons (pm_comp (by kernel_rfl) S.nd (pim_tup (pm_loc 0 (by kernel_rfl) (.inl (by kernel_rfl)))) (own := [("name", 1)]) (blkOk_by (by kernel_rfl)) (tgc_name (i := 1) (by decide)) (fun _ _ _ _ _ => pg_name S.nd (by kernel_rfl) (.inl (by kernel_rfl)) (.inr (by kernel_rfl))) (fun _ _ _ _ _ => pmts_nil) (fun _ _ _ _ _ => (pm_df d_is_ask_name hr hgd (gl (by kernel_rfl)) (pma_cons (pm_loc 1 (by kernel_rfl) (.inl (by kernel_rfl))) pma_nil)))) pma_nil))))))) (psm_one (psm_ret pm_bl)) psm_nil) (psm_one (psm_ret (pm_cmp (o_eq (hu190 hr)) (pm_ty c_list (gl (by kernel_rfl)) T.b_list bb_list (pma_cons (pm_loc 0 (by kernel_rfl) (.inl (by kernel_rfl))) pma_nil)) (pm_sortT (gl (by kernel_rfl)) T.b_sorted (pm_loc 0 (by kernel_rfl) (.inl (by kernel_rfl)))) (hm := by kernel_rfl)))))
theorem sc_is_row_of : FnScope ["value"] ["value"] (defScope (tp 26)) := ⟨by kernel_rfl, by kernel_rfl, by kernel_rfl, by decide +kernel, by kernel_rfl, by decide +kernel, by decide +kernel⟩
theorem ok_is_row_of (T : Tops K w mg) (d_has_many : Df P w K mg base "has_many" (tp 24) ["value", "many"] k f_has_many) (d_is_count : Df P w K mg base "is_count" (tp 8) ["value"] k f_is_count) (d_are_names : Df P w K mg base "are_names" (tp 25) ["value"] k f_are_names) : Df P w K mg base "is_row_of" (tp 26) ["value"] (k + 1) f_is_row_of :=
  have S := sc_is_row_of
  df_of (b := b_is_row_of) T.p_is_row_of S (fun _ _ _ _ _ _ us hl => match us, hl with | [_], _ => by kernel_rfl) fun _ cdv A outer s H hr hgd => (psm_cons (psm_if (PMW.t (pmw_or (pmt_not (pmt_val (pm_df d_has_many hr hgd (gl (by kernel_rfl)) (pma_cons (pm_loc 0 (by kernel_rfl) (.inl (by kernel_rfl))) (pma_cons pm_int pma_nil))))) (pmw_or (pmt_not (pmt_val (pm_isi T.i_str (gl (by kernel_rfl)) T.b_isinstance (gl (by kernel_rfl)) T.b_str bb_str (pm_idx (pm_loc 0 (by kernel_rfl) (.inl (by kernel_rfl))) pm_int)))) (pmw_or1 (pmt_cmp (o_ne (hu190 hr)) (pm_idx (pm_loc 0 (by kernel_rfl) (.inl (by kernel_rfl))) pm_int) (pm_ct T.c_ROW (gl (by kernel_rfl))) (hm := by kernel_rfl)))))) (psm_one (psm_ret pm_bl)) psm_nil) (psm_one (psm_ret (pm_and (pm_df d_are_names hr hgd (gl (by kernel_rfl)) (pma_cons (pm_idx (pm_loc 0 (by kernel_rfl) (.inl (by kernel_rfl))) pm_int) pma_nil)) (pm_one (pm_or (pm_cmp o_isN (pm_idx (pm_loc 0 (by kernel_rfl) (.inl (by kernel_rfl))) pm_int) pm_non (hm := by kernel_rfl)) (pm_one (pm_df d_is_count hr hgd (gl (by kernel_rfl)) (pma_cons (pm_idx (pm_loc 0 (by kernel_rfl) (.inl (by kernel_rfl))) pm_int) pma_nil)))))))))
theorem sc_is_row : FnScope ["value"] ["value"] (defScope (tp 42)) := ⟨by kernel_rfl, by kernel_rfl, by kernel_rfl, by decide +kernel, by kernel_rfl, by decide +kernel, by decide +kernel⟩
theorem ok_is_row (T : Tops K w mg) (d_is_row_of : Df P w K mg base "is_row_of" (tp 26) ["value"] k f_is_row_of) : Df P w K mg base "is_row" (tp 42) ["value"] (k + 1) f_is_row :=
  have S := sc_is_row
  df_of (b := b_is_row) T.p_is_row S (fun _ _ _ _ _ _ us hl => match us, hl with | [_], _ => by kernel_rfl) fun _ cdv A outer s H hr hgd => (psm_one (psm_ret (pm_df d_is_row_of hr hgd (gl (by kernel_rfl)) (pma_cons (pm_loc 0 (by kernel_rfl) (.inl (by kernel_rfl))) pma_nil))))
theorem sc_is_kind_of : FnScope ["value", "left", "kind", "word", "many"] ["value"] (defScope (tp 27)) := ⟨by kernel_rfl, by kernel_rfl, by kernel_rfl, by decide +kernel, by kernel_rfl, by decide +kernel, by decide +kernel⟩
theorem ok_is_kind_of (T : Tops K w mg) (d_is_row_of : Df P w K mg base "is_row_of" (tp 26) ["value"] k f_is_row_of) (d_is_count : Df P w K mg base "is_count" (tp 8) ["value"] k f_is_count) : Df P w K mg base "is_kind_of" (tp 27) ["value"] (k + 1) f_is_kind_of :=
  have S := sc_is_kind_of
  df_of (b := b_is_kind_of) T.p_is_kind_of S (fun _ _ _ _ _ _ us hl => match us, hl with | [_], _ => by kernel_rfl) fun _ cdv A outer s H hr hgd => (psm_cons (psm_set S.nd (pm_new (pma_cons (pm_loc 0 (by kernel_rfl) (.inl (by kernel_rfl))) pma_nil)) (hx := .inl (by kernel_rfl)) (hf := .inr (by kernel_rfl))) (psm_cons (psm_while PassesOwn.never (pmt_cmp (o_ne (hu190 hr)) (pm_loc 1 (by kernel_rfl) (.inl (by kernel_rfl))) (pm_lst pma_nil) (hm := by kernel_rfl)) (psm_cons (psm_set S.nd (pm_pop (pm_loc 1 (by kernel_rfl) (.inl (by kernel_rfl)))) (hx := .inl (by kernel_rfl)) (hf := .inr (by kernel_rfl))) (psm_cons (psm_if (PMW.t (pmw_or (pmt_not (pmt_val (pm_isi T.i_tuple (gl (by kernel_rfl)) T.b_isinstance (gl (by kernel_rfl)) T.b_tuple bb_tuple (pm_loc 2 (by kernel_rfl) (.inl (by kernel_rfl)))))) (pmw_or (pmt_cmp (o_eq (hu190 hr)) (pm_loc 2 (by kernel_rfl) (.inl (by kernel_rfl))) (pm_tup pma_nil) (hm := by kernel_rfl)) (pmw_or1 (pmt_not (pmt_val (pm_isi T.i_str (gl (by kernel_rfl)) T.b_isinstance (gl (by kernel_rfl)) T.b_str bb_str (pm_idx (pm_loc 2 (by kernel_rfl) (.inl (by kernel_rfl))) pm_int)))))))) (psm_one (psm_ret pm_bl)) psm_nil) (psm_cons (psm_par (by kernel_rfl) S.nd (pma_cons (pm_idx (pm_loc 2 (by kernel_rfl) (.inl (by kernel_rfl))) pm_int) (pma_cons (pm_blt c_len (gl (by kernel_rfl)) T.b_len bb_len (pma_cons (pm_loc 2 (by kernel_rfl) (.inl (by kernel_rfl))) pma_nil)) pma_nil))) (psm_one (psm_if (PMW.t (pmw_and (pmt_cmp (o_eq (hu190 hr)) (pm_loc 3 (by kernel_rfl) (.inl (by kernel_rfl))) (pm_ct T.c_LIST (gl (by kernel_rfl))) (hm := by kernel_rfl)) (pmw_and1 (pmt_cmp (o_eq (hu190 hr)) (pm_loc 4 (by kernel_rfl) (.inl (by kernel_rfl))) pm_int (hm := by kernel_rfl))))) (psm_one (psm_expr (pm_app (pm_loc 1 (by kernel_rfl) (.inl (by kernel_rfl))) (pm_idx (pm_loc 2 (by kernel_rfl) (.inl (by kernel_rfl))) pm_int)))) (psm_one (psm_if (PMW.t (pmw_and (pmt_cmp (o_eq (hu190 hr)) (pm_loc 3 (by kernel_rfl) (.inl (by kernel_rfl))) (pm_ct T.c_PAIR (gl (by kernel_rfl))) (hm := by kernel_rfl)) (pmw_and1 (pmt_cmp (o_eq (hu190 hr)) (pm_loc 4 (by kernel_rfl) (.inl (by kernel_rfl))) pm_int (hm := by kernel_rfl))))) (psm_one (psm_expr (pm_ext (pm_loc 1 (by kernel_rfl) (.inl (by kernel_rfl))) (pm_slice (pm_loc 2 (by kernel_rfl) (.inl (by kernel_rfl))) (pmo_some pm_int) pmo_none)))) (psm_one (psm_if (PMW.t (pmw_and (pmt_cmp (o_eq (hu190 hr)) (pm_loc 3 (by kernel_rfl) (.inl (by kernel_rfl))) (pm_ct T.c_FN (gl (by kernel_rfl))) (hm := by kernel_rfl)) (pmw_and (pmt_cmp (o_eq (hu190 hr)) (pm_loc 4 (by kernel_rfl) (.inl (by kernel_rfl))) pm_int (hm := by kernel_rfl)) (pmw_and1 (pmt_val (pm_df d_is_row_of hr hgd (gl (by kernel_rfl)) (pma_cons (pm_idx (pm_loc 2 (by kernel_rfl) (.inl (by kernel_rfl))) pm_int) pma_nil))))))) (psm_one (psm_expr (pm_ext (pm_loc 1 (by kernel_rfl) (.inl (by kernel_rfl))) (pm_lst (pma_cons (pm_idx (pm_loc 2 (by kernel_rfl) (.inl (by kernel_rfl))) pm_int) (pma_cons (pm_idx (pm_loc 2 (by kernel_rfl) (.inl (by kernel_rfl))) pm_int) pma_nil)))))) (psm_one (psm_if (pmt_not (PMW.t (pmw_or (PMW.t (pmw_and (pmt_cmp o_in (pm_loc 3 (by kernel_rfl) (.inl (by kernel_rfl))) (pm_ct T.c_PLAIN (gl (by kernel_rfl))) (hm := by kernel_rfl)) (pmw_and1 (pmt_cmp (o_eq (hu190 hr)) (pm_loc 4 (by kernel_rfl) (.inl (by kernel_rfl))) pm_int (hm := by kernel_rfl))))) (pmw_or1 (PMW.t (pmw_and (pmt_cmp (o_eq (hu190 hr)) (pm_loc 3 (by kernel_rfl) (.inl (by kernel_rfl))) (pm_ct T.c_ANY (gl (by kernel_rfl))) (hm := by kernel_rfl)) (pmw_and (pmt_cmp (o_eq (hu190 hr)) (pm_loc 4 (by kernel_rfl) (.inl (by kernel_rfl))) pm_int (hm := by kernel_rfl)) (pmw_and1 (pmt_val (pm_df d_is_count hr hgd (gl (by kernel_rfl)) (pma_cons (pm_idx (pm_loc 2 (by kernel_rfl) (.inl (by kernel_rfl))) pm_int) pma_nil))))))))))) (psm_one (psm_ret pm_bl)) psm_nil)))))))))))) (psm_one (psm_ret pm_bl))))
theorem sc_is_kind : FnScope ["value"] ["value"] (defScope (tp 41)) := ⟨by kernel_rfl, by kernel_rfl, by kernel_rfl, by decide +kernel, by kernel_rfl, by decide +kernel, by decide +kernel⟩
theorem ok_is_kind (T : Tops K w mg) (d_is_kind_of : Df P w K mg base "is_kind_of" (tp 27) ["value"] k f_is_kind_of) : Df P w K mg base "is_kind" (tp 41) ["value"] (k + 1) f_is_kind :=
  have S := sc_is_kind
  df_of (b := b_is_kind) T.p_is_kind S (fun _ _ _ _ _ _ us hl => match us, hl with | [_], _ => by kernel_rfl) fun _ cdv A outer s H hr hgd => (psm_one (psm_ret (pm_df d_is_kind_of hr hgd (gl (by kernel_rfl)) (pma_cons (pm_loc 0 (by kernel_rfl) (.inl (by kernel_rfl))) pma_nil))))
theorem sc__law_twice : FnScope ["one", "due"] ["one", "due"] (defScope (tp 64)) := ⟨by kernel_rfl, by kernel_rfl, by kernel_rfl, by decide +kernel, by kernel_rfl, by decide +kernel, by decide +kernel⟩
theorem ok__law_twice (T : Tops K w mg)  : Df P w K mg base "_law_twice" (tp 64) ["one", "due"] (k + 1) f__law_twice :=
  have S := sc__law_twice
  df_of (b := b__law_twice) T.p__law_twice S (fun _ _ _ _ _ _ us hl => match us, hl with | [_, _], _ => by kernel_rfl) fun _ cdv A outer s H hr hgd => (psm_one (psm_ret (pm_eqT (pm_repr hgd (hu192 hr) (gl (by kernel_rfl)) T.b_repr (pm_loc 0 (by kernel_rfl) (.inl (by kernel_rfl)))) (pm_repr hgd (hu192 hr) (gl (by kernel_rfl)) T.b_repr (pm_lst (pma_cons (pm_loc 1 (by kernel_rfl) (.inl (by kernel_rfl))) (pma_cons (pm_loc 1 (by kernel_rfl) (.inl (by kernel_rfl))) pma_nil)))) (hm := by kernel_rfl))))
theorem sc_come_in_row : FnScope ["row", "tails"] ["row", "tails"] (defScope (tp 32)) := ⟨by kernel_rfl, by kernel_rfl, by kernel_rfl, by decide +kernel, by kernel_rfl, by decide +kernel, by decide +kernel⟩
theorem ok_come_in_row (T : Tops K w mg)  : Df P w K mg base "come_in_row" (tp 32) ["row", "tails"] (k + 1) f_come_in_row :=
  have S := sc_come_in_row
  df_of (b := b_come_in_row) T.p_come_in_row S (fun _ _ _ _ _ _ us hl => match us, hl with | [_, _], _ => by kernel_rfl) fun _ cdv A outer s H hr hgd => (psm_one (psm_if (pmt_cmp o_notN (pm_idx (pm_loc 0 (by kernel_rfl) (.inl (by kernel_rfl))) pm_int) pm_non (hm := by kernel_rfl)) (psm_one (psm_expr (pm_dsetd (pm_loc 1 (by kernel_rfl) (.inl (by kernel_rfl))) (pm_idx (pm_loc 0 (by kernel_rfl) (.inl (by kernel_rfl))) pm_int) (pm_lenD (gl (by kernel_rfl)) T.b_len (pm_loc 1 (by kernel_rfl) (.inl (by kernel_rfl)))) ⟨by kernel_rfl, by kernel_rfl, by kernel_rfl, by kernel_rfl⟩))) psm_nil))
theorem sc_within_of : FnScope ["kind"] ["kind"] (defScope (tp 28)) := ⟨by kernel_rfl, by kernel_rfl, by kernel_rfl, by decide +kernel, by kernel_rfl, by decide +kernel, by decide +kernel⟩
theorem ok_within_of (T : Tops K w mg)  : Df P w K mg base "within_of" (tp 28) ["kind"] (k + 1) f_within_of :=
  have S := sc_within_of
  df_of (b := b_within_of) T.p_within_of S (fun _ _ _ _ _ _ us hl => match us, hl with | [_], _ => by kernel_rfl) fun _ cdv A outer s H hr hgd => (psm_cons (psm_if (pmt_cmp (o_eq (hu190 hr)) (pm_idx (pm_loc 0 (by kernel_rfl) (.inl (by kernel_rfl))) pm_int) (pm_ct T.c_FN (gl (by kernel_rfl))) (hm := by kernel_rfl)) (psm_one (psm_ret (pm_lst (pma_cons (pm_idx (pm_loc 0 (by kernel_rfl) (.inl (by kernel_rfl))) pm_int) (pma_cons (pm_idx (pm_loc 0 (by kernel_rfl) (.inl (by kernel_rfl))) pm_int) pma_nil))))) psm_nil) (psm_one (psm_ret (pm_ite (pmt_cmp o_in (pm_idx (pm_loc 0 (by kernel_rfl) (.inl (by kernel_rfl))) pm_int) (pm_tup (pma_cons (pm_ct T.c_LIST (gl (by kernel_rfl))) (pma_cons (pm_ct T.c_PAIR (gl (by kernel_rfl))) pma_nil))) (hm := by kernel_rfl)) (pm_ty c_list (gl (by kernel_rfl)) T.b_list bb_list (pma_cons (pm_slice (pm_loc 0 (by kernel_rfl) (.inl (by kernel_rfl))) (pmo_some pm_int) pmo_none) pma_nil)) (pm_lst pma_nil)))))
theorem sc_come_in : FnScope ["kind", "anys", "tails", "one"] ["kind", "anys", "tails"] (defScope (tp 31)) := ⟨by kernel_rfl, by kernel_rfl, by kernel_rfl, by decide +kernel, by kernel_rfl, by decide +kernel, by decide +kernel⟩
theorem ok_come_in (T : Tops K w mg) (d_come_in_row : Df P w K mg base "come_in_row" (tp 32) ["row", "tails"] k f_come_in_row) (d_within_of : Df P w K mg base "within_of" (tp 28) ["kind"] k f_within_of) {rc : Fn} (d_rc : Df P w K mg base "come_in" (tp 31) ["kind", "anys", "tails"] k rc) : Df P w K mg base "come_in" (tp 31) ["kind", "anys", "tails"] (k + 1) (runT 3 4 (b_come_in rc)) :=
  have S := sc_come_in
  df_of (b := b_come_in rc) T.p_come_in S (fun _ _ _ _ _ _ us hl => match us, hl with | [_, _, _], _ => by kernel_rfl) fun _ cdv A outer s H hr hgd => (psm_one (psm_if (pmt_cmp (o_eq (hu190 hr)) (pm_idx (pm_loc 0 (by kernel_rfl) (.inl (by kernel_rfl))) pm_int) (pm_ct T.c_ANY (gl (by kernel_rfl))) (hm := by kernel_rfl)) (psm_one (psm_expr (pm_dsetd (pm_loc 1 (by kernel_rfl) (.inl (by kernel_rfl))) (pm_idx (pm_loc 0 (by kernel_rfl) (.inl (by kernel_rfl))) pm_int) (pm_lenD (gl (by kernel_rfl)) T.b_len (pm_loc 1 (by kernel_rfl) (.inl (by kernel_rfl)))) ⟨by kernel_rfl, by kernel_rfl, by kernel_rfl, by kernel_rfl⟩))) (psm_one (psm_if (pmt_cmp (o_eq (hu190 hr)) (pm_idx (pm_loc 0 (by kernel_rfl) (.inl (by kernel_rfl))) pm_int) (pm_ct T.c_FN (gl (by kernel_rfl))) (hm := by kernel_rfl)) (psm_cons (psm_expr (pm_df d_rc hr hgd (gl (by kernel_rfl)) (pma_cons (pm_idx (pm_loc 0 (by kernel_rfl) (.inl (by kernel_rfl))) pm_int) (pma_cons (pm_loc 1 (by kernel_rfl) (.inl (by kernel_rfl))) (pma_cons (pm_loc 2 (by kernel_rfl) (.inl (by kernel_rfl))) pma_nil))))) (psm_cons (psm_expr (pm_df d_come_in_row hr hgd (gl (by kernel_rfl)) (pma_cons (pm_idx (pm_loc 0 (by kernel_rfl) (.inl (by kernel_rfl))) pm_int) (pma_cons (pm_loc 2 (by kernel_rfl) (.inl (by kernel_rfl))) pma_nil)))) (psm_one (psm_expr (pm_df d_rc hr hgd (gl (by kernel_rfl)) (pma_cons (pm_idx (pm_loc 0 (by kernel_rfl) (.inl (by kernel_rfl))) pm_int) (pma_cons (pm_loc 1 (by kernel_rfl) (.inl (by kernel_rfl))) (pma_cons (pm_loc 2 (by kernel_rfl) (.inl (by kernel_rfl))) pma_nil)))))))) (psm_one (psm_for PassesOwn.never (by kernel_rfl) (pim_lst (pm_df d_within_of hr hgd (gl (by kernel_rfl)) (pma_cons (pm_loc 0 (by kernel_rfl) (.inl (by kernel_rfl))) pma_nil))) (pgm_name 3 S.nd (hx := .inl (by kernel_rfl)) (hf := .inr (by kernel_rfl))) (psm_one (psm_expr (pm_df d_rc hr hgd (gl (by kernel_rfl)) (pma_cons (pm_loc 3 (by kernel_rfl) (.inl (by kernel_rfl))) (pma_cons (pm_loc 1 (by kernel_rfl) (.inl (by kernel_rfl))) (pma_cons (pm_loc 2 (by kernel_rfl) (.inl (by kernel_rfl))) pma_nil))))))))))))
theorem sc_loose_of : FnScope ["kind", "anys", "tails"] ["kind"] (defScope (tp 33)) := ⟨by kernel_rfl, by kernel_rfl, by kernel_rfl, by decide +kernel, by kernel_rfl, by decide +kernel, by decide +kernel⟩
theorem ok_loose_of (T : Tops K w mg) (d_come_in : Df P w K mg base "come_in" (tp 31) ["kind", "anys", "tails"] k (f_come_in 12)) : Df P w K mg base "loose_of" (tp 33) ["kind"] (k + 1) f_loose_of :=
  have S := sc_loose_of
  df_of (b := b_loose_of) T.p_loose_of S (fun _ _ _ _ _ _ us hl => match us, hl with | [_], _ => by kernel_rfl) fun _ cdv A outer s H hr hgd => (psm_cons (psm_par (by kernel_rfl) S.nd (pma_cons pm_newD (pma_cons pm_newD pma_nil))) (psm_cons (psm_expr (pm_df d_come_in hr hgd (gl (by kernel_rfl)) (pma_cons (pm_loc 0 (by kernel_rfl) (.inl (by kernel_rfl))) (pma_cons (pm_loc 1 (by kernel_rfl) (.inl (by kernel_rfl))) (pma_cons (pm_loc 2 (by kernel_rfl) (.inl (by kernel_rfl))) pma_nil))))) (psm_one (psm_ret (pm_tup (pma_cons (pm_listD (by kernel_rfl) (gl (by kernel_rfl)) T.b_list (pm_loc 1 (by kernel_rfl) (.inl (by kernel_rfl)))) (pma_cons (pm_listD (by kernel_rfl) (gl (by kernel_rfl)) T.b_list (pm_loc 2 (by kernel_rfl) (.inl (by kernel_rfl)))) pma_nil)))))))
theorem sc_want_kind : FnScope ["value"] ["value"] (defScope (tp 38)) := ⟨by kernel_rfl, by kernel_rfl, by kernel_rfl, by decide +kernel, by kernel_rfl, by decide +kernel, by decide +kernel⟩
theorem ok_want_kind (T : Tops K w mg) (d_is_kind_of : Df P w K mg base "is_kind_of" (tp 27) ["value"] k f_is_kind_of) : Df P w K mg base "want_kind" (tp 38) ["value"] (k + 1) f_want_kind :=
  have S := sc_want_kind
  df_of (b := b_want_kind) T.p_want_kind S (fun _ _ _ _ _ _ us hl => match us, hl with | [_], _ => by kernel_rfl) fun _ cdv A outer s H hr hgd => (psm_cons (psm_if (pmt_not (pmt_val (pm_df d_is_kind_of hr hgd (gl (by kernel_rfl)) (pma_cons (pm_loc 0 (by kernel_rfl) (.inl (by kernel_rfl))) pma_nil)))) psms_never psm_nil) (psm_one (psm_ret (pm_loc 0 (by kernel_rfl) (.inl (by kernel_rfl))))))
theorem sc_loose : FnScope ["kind"] ["kind"] (defScope (tp 44)) := ⟨by kernel_rfl, by kernel_rfl, by kernel_rfl, by decide +kernel, by kernel_rfl, by decide +kernel, by decide +kernel⟩
theorem ok_loose (T : Tops K w mg) (d_loose_of : Df P w K mg base "loose_of" (tp 33) ["kind"] k f_loose_of) (d_want_kind : Df P w K mg base "want_kind" (tp 38) ["value"] k f_want_kind) : Df P w K mg base "loose" (tp 44) ["kind"] (k + 1) f_loose :=
  have S := sc_loose
  df_of (b := b_loose) T.p_loose S (fun _ _ _ _ _ _ us hl => match us, hl with | [_], _ => by kernel_rfl) fun _ cdv A outer s H hr hgd => (psm_one (psm_ret (pm_df d_loose_of hr hgd (gl (by kernel_rfl)) (pma_cons (pm_df d_want_kind hr hgd (gl (by kernel_rfl)) (pma_cons (pm_loc 0 (by kernel_rfl) (.inl (by kernel_rfl))) pma_nil)) pma_nil))))
theorem ok_loose_of__u (T : Tops K w mg) (d_come_in : Df P w K mg base "come_in" (tp 31) ["kind", "anys", "tails"] k (f_come_in 12)) : Df P w K mg base "loose_of" (tp 33) ["kind"] (k + 1) f_loose_of__u :=
  have S := sc_loose_of
  df_keeps (b := b_loose_of__u) T.p_loose_of S (fun _ _ _ _ _ _ us hl => match us, hl with | [_], _ => by kernel_rfl) fun _ cdv A outer s H hr hgd => (psm_cons (psm_par (by kernel_rfl) S.nd (pma_cons pm_newD (pma_cons pm_newD pma_nil))) (psm_cons (psm_expr (pm_df d_come_in hr hgd (gl (by kernel_rfl)) (pma_cons (pm_loc 0 (by kernel_rfl) (.inl (by kernel_rfl))) (pma_cons (pm_loc 1 (by kernel_rfl) (.inl (by kernel_rfl))) (pma_cons (pm_loc 2 (by kernel_rfl) (.inl (by kernel_rfl))) pma_nil))))) (psm_one (psm_ret (pm_tupU (pma_cons (pm_listDN (by kernel_rfl) (gl (by kernel_rfl)) T.b_list (pm_loc 1 (by kernel_rfl) (.inl (by kernel_rfl)))) (pma_cons (pm_listDN (by kernel_rfl) (gl (by kernel_rfl)) T.b_list (pm_loc 2 (by kernel_rfl) (.inl (by kernel_rfl)))) pma_nil)))))))
theorem ok_loose__u (T : Tops K w mg) (d_loose_of__u : Df P w K mg base "loose_of" (tp 33) ["kind"] k f_loose_of__u) (d_want_kind : Df P w K mg base "want_kind" (tp 38) ["value"] k f_want_kind) : Df P w K mg base "loose" (tp 44) ["kind"] (k + 1) f_loose__u :=
  have S := sc_loose
  df_keeps (b := b_loose__u) T.p_loose S (fun _ _ _ _ _ _ us hl => match us, hl with | [_], _ => by kernel_rfl) fun _ cdv A outer s H hr hgd => (psm_one (psm_ret (pm_df d_loose_of__u hr hgd (gl (by kernel_rfl)) (pma_cons (pm_df d_want_kind hr hgd (gl (by kernel_rfl)) (pma_cons (pm_loc 0 (by kernel_rfl) (.inl (by kernel_rfl))) pma_nil)) pma_nil))))
theorem sc_want_row : FnScope ["value"] ["value"] (defScope (tp 39)) := ⟨by kernel_rfl, by kernel_rfl, by kernel_rfl, by decide +kernel, by kernel_rfl, by decide +kernel, by decide +kernel⟩
theorem ok_want_row (T : Tops K w mg) (d_is_row_of : Df P w K mg base "is_row_of" (tp 26) ["value"] k f_is_row_of) : Df P w K mg base "want_row" (tp 39) ["value"] (k + 1) f_want_row :=
  have S := sc_want_row
  df_of (b := b_want_row) T.p_want_row S (fun _ _ _ _ _ _ us hl => match us, hl with | [_], _ => by kernel_rfl) fun _ cdv A outer s H hr hgd => (psm_cons (psm_if (pmt_not (pmt_val (pm_df d_is_row_of hr hgd (gl (by kernel_rfl)) (pma_cons (pm_loc 0 (by kernel_rfl) (.inl (by kernel_rfl))) pma_nil)))) psms_never psm_nil) (psm_one (psm_ret (pm_loc 0 (by kernel_rfl) (.inl (by kernel_rfl))))))
theorem sc_more_of : FnScope ["row", "names"] ["row", "names"] (defScope (tp 34)) := ⟨by kernel_rfl, by kernel_rfl, by kernel_rfl, by decide +kernel, by kernel_rfl, by decide +kernel, by decide +kernel⟩
theorem ok_more_of (T : Tops K w mg)  : Df P w K mg base "more_of" (tp 34) ["row", "names"] (k + 1) f_more_of :=
  have S := sc_more_of
  df_of (b := b_more_of) T.p_more_of S (fun _ _ _ _ _ _ us hl => match us, hl with | [_, _], _ => by kernel_rfl) fun _ cdv A outer s H hr hgd => (psm_one (psm_ret (pm_tup (pma_cons (pm_ct T.c_ROW (gl (by kernel_rfl))) (pma_cons (pm_ty c_tuple (gl (by kernel_rfl)) T.b_tuple bb_tuple (pma_cons (pm_sortT (gl (by kernel_rfl)) T.b_sorted (pm_bin o_add (pm_idx (pm_loc 0 (by kernel_rfl) (.inl (by kernel_rfl))) pm_int) (pm_loc 1 (by kernel_rfl) (.inl (by kernel_rfl))))) pma_nil)) (pma_cons (pm_idx (pm_loc 0 (by kernel_rfl) (.inl (by kernel_rfl))) pm_int) pma_nil))))))
theorem sc_row_more : FnScope ["row", "names"] ["row", "names"] (defScope (tp 45)) := ⟨by kernel_rfl, by kernel_rfl, by kernel_rfl, by decide +kernel, by kernel_rfl, by decide +kernel, by decide +kernel⟩
theorem ok_row_more (T : Tops K w mg) (d_want_row : Df P w K mg base "want_row" (tp 39) ["value"] k f_want_row) (d_are_names : Df P w K mg base "are_names" (tp 25) ["value"] k f_are_names) (d_more_of : Df P w K mg base "more_of" (tp 34) ["row", "names"] k f_more_of) : Df P w K mg base "row_more" (tp 45) ["row", "names"] (k + 1) f_row_more :=
  have S := sc_row_more
  df_of (b := b_row_more) T.p_row_more S (fun _ _ _ _ _ _ us hl => match us, hl with | [_, _], _ => by kernel_rfl) fun _ cdv A outer s H hr hgd => (psm_cons (psm_expr (pm_df d_want_row hr hgd (gl (by kernel_rfl)) (pma_cons (pm_loc 0 (by kernel_rfl) (.inl (by kernel_rfl))) pma_nil))) (psm_cons (psm_if (pmt_not (pmt_val (pm_df d_are_names hr hgd (gl (by kernel_rfl)) (pma_cons (pm_loc 1 (by kernel_rfl) (.inl (by kernel_rfl))) pma_nil)))) psms_never psm_nil) (psm_one (psm_ret (pm_df d_more_of hr hgd (gl (by kernel_rfl)) (pma_cons (pm_loc 0 (by kernel_rfl) (.inl (by kernel_rfl))) (pma_cons (pm_loc 1 (by kernel_rfl) (.inl (by kernel_rfl))) pma_nil)))))))
theorem sc__law_putting : FnScope ["pot", "kinds", "rows", "at"] ["pot"] (defScope (tp 63)) := ⟨by kernel_rfl, by kernel_rfl, by kernel_rfl, by decide +kernel, by kernel_rfl, by decide +kernel, by decide +kernel⟩
theorem ok__law_putting (T : Tops K w mg) (d__law_draw : Df P w K mg base "_law_draw" (tp 52) ["pot", "many"] k f__law_draw) (d__law_kind : Df P w K mg base "_law_kind" (tp 56) ["pot", "deep"] k (f__law_kind 6)) (d__law_row : Df P w K mg base "_law_row" (tp 55) ["pot"] k f__law_row) : Df P w K mg base "_law_putting" (tp 63) ["pot"] (k + 1) f__law_putting :=
  have S := sc__law_putting
  df_keeps (b := b__law_putting) T.p__law_putting S (fun _ _ _ _ _ _ us hl => match us, hl with | [_], _ => by kernel_rfl) fun _ cdv A outer s H hr hgd => (psm_cons (psm_set S.nd (pm_dictP (by kernel_rfl) (gl (by kernel_rfl)) T.b_dict (pm_comp (by kernel_rfl) S.nd (pim_rng (gl (by kernel_rfl)) T.b_range (pma_cons pm_int pma_nil)) (own := [("at", 3)]) (blkOk_by (by kernel_rfl)) (tgc_name (i := 3) (by decide)) (fun _ _ _ _ _ => pg_name S.nd (by kernel_rfl) (.inl (by kernel_rfl)) (.inr (by kernel_rfl))) (fun _ _ _ _ _ => (pmts_one (pmt_cmp o_gt (pm_df d__law_draw hr hgd (gl (by kernel_rfl)) (pma_cons (pm_loc 0 (by kernel_rfl) (.inr (.inl (by kernel_rfl)))) (pma_cons pm_int pma_nil))) pm_int (hm := by kernel_rfl)))) (fun _ _ _ _ _ => (pm_tup (pma_cons (pm_loc 3 (by kernel_rfl) (.inl (by kernel_rfl))) (pma_cons (pm_df d__law_kind hr hgd (gl (by kernel_rfl)) (pma_cons (pm_loc 0 (by kernel_rfl) (.inr (.inl (by kernel_rfl)))) (pma_cons pm_int pma_nil))) pma_nil)))))) (hx := .inr (by kernel_rfl)) (hf := .inl (by kernel_rfl))) (psm_cons (psm_set S.nd (pm_dictP (by kernel_rfl) (gl (by kernel_rfl)) T.b_dict (pm_comp (by kernel_rfl) S.nd (pim_rng (gl (by kernel_rfl)) T.b_range (pma_cons pm_int pma_nil)) (own := [("at", 3)]) (blkOk_by (by kernel_rfl)) (tgc_name (i := 3) (by decide)) (fun _ _ _ _ _ => pg_name S.nd (by kernel_rfl) (.inl (by kernel_rfl)) (.inr (by kernel_rfl))) (fun _ _ _ _ _ => (pmts_one (pmt_cmp o_gt (pm_df d__law_draw hr hgd (gl (by kernel_rfl)) (pma_cons (pm_loc 0 (by kernel_rfl) (.inr (.inl (by kernel_rfl)))) (pma_cons pm_int pma_nil))) pm_int (hm := by kernel_rfl)))) (fun _ _ _ _ _ => (pm_tup (pma_cons (pm_loc 3 (by kernel_rfl) (.inl (by kernel_rfl))) (pma_cons (pm_df d__law_row hr hgd (gl (by kernel_rfl)) (pma_cons (pm_loc 0 (by kernel_rfl) (.inr (.inl (by kernel_rfl)))) pma_nil)) pma_nil)))))) (hx := .inr (by kernel_rfl)) (hf := .inl (by kernel_rfl))) (psm_one (psm_ret (pm_tupU (pma_cons (pm_loc 1 (by kernel_rfl) (.inr (.inl (by kernel_rfl)))) (pma_cons (pm_loc 2 (by kernel_rfl) (.inr (.inl (by kernel_rfl)))) (pma_cons (pm_tupQ (pma_cons (pm_tupP (gl (by kernel_rfl)) T.b_tuple (pm_comp (by kernel_rfl) S.nd (pim_lst (pm_sortDI (by kernel_rfl) (gl (by kernel_rfl)) T.b_sorted (pm_loc 1 (by kernel_rfl) (.inr (.inl (by kernel_rfl)))))) (own := [("at", 3)]) (blkOk_by (by kernel_rfl)) (tgc_name (i := 3) (by decide)) (fun _ _ _ _ _ => pg_name S.nd (by kernel_rfl) (.inl (by kernel_rfl)) (.inr (by kernel_rfl))) (fun _ _ _ _ _ => pmts_nil) (fun _ _ _ _ _ => (pm_tup (pma_cons (pm_loc 3 (by kernel_rfl) (.inl (by kernel_rfl))) (pma_cons (pm_dsub (hu1 hr) (pm_loc 1 (by kernel_rfl) (.inr (.inl (by kernel_rfl)))) (pm_loc 3 (by kernel_rfl) (.inl (by kernel_rfl)))) pma_nil)))))) (pma_cons (pm_tupP (gl (by kernel_rfl)) T.b_tuple (pm_comp (by kernel_rfl) S.nd (pim_lst (pm_sortDI (by kernel_rfl) (gl (by kernel_rfl)) T.b_sorted (pm_loc 2 (by kernel_rfl) (.inr (.inl (by kernel_rfl)))))) (own := [("at", 3)]) (blkOk_by (by kernel_rfl)) (tgc_name (i := 3) (by decide)) (fun _ _ _ _ _ => pg_name S.nd (by kernel_rfl) (.inl (by kernel_rfl)) (.inr (by kernel_rfl))) (fun _ _ _ _ _ => pmts_nil) (fun _ _ _ _ _ => (pm_tup (pma_cons (pm_loc 3 (by kernel_rfl) (.inl (by kernel_rfl))) (pma_cons (pm_dsub (hu1 hr) (pm_loc 2 (by kernel_rfl) (.inr (.inl (by kernel_rfl)))) (pm_loc 3 (by kernel_rfl) (.inl (by kernel_rfl)))) pma_nil)))))) pma_nil))) pma_nil))))))))
theorem sc__law_row_anew : FnScope ["row", "tails"] ["row", "tails"] (defScope (tp 60)) := ⟨by kernel_rfl, by kernel_rfl, by kernel_rfl, by decide +kernel, by kernel_rfl, by decide +kernel, by decide +kernel⟩
theorem ok__law_row_anew (T : Tops K w mg)  : Df P w K mg base "_law_row_anew" (tp 60) ["row", "tails"] (k + 1) f__law_row_anew :=
  have S := sc__law_row_anew
  df_of (b := b__law_row_anew) T.p__law_row_anew S (fun _ _ _ _ _ _ us hl => match us, hl with | [_, _], _ => by kernel_rfl) fun _ cdv A outer s H hr hgd => (psm_one (psm_ret (pm_tup (pma_cons (pm_str (by decide +kernel)) (pma_cons (pm_idx (pm_loc 0 (by kernel_rfl) (.inl (by kernel_rfl))) pm_int) (pma_cons (pm_ite (pmt_cmp o_isN (pm_idx (pm_loc 0 (by kernel_rfl) (.inl (by kernel_rfl))) pm_int) pm_non (hm := by kernel_rfl)) pm_non (pm_index (pm_loc 1 (by kernel_rfl) (.inl (by kernel_rfl))) (pm_idx (pm_loc 0 (by kernel_rfl) (.inl (by kernel_rfl))) pm_int))) pma_nil))))))
theorem sc__law_row_put : FnScope ["row", "rows", "late"] ["row", "rows"] (defScope (tp 61)) := ⟨by kernel_rfl, by kernel_rfl, by kernel_rfl, by decide +kernel, by kernel_rfl, by decide +kernel, by decide +kernel⟩
theorem ok__law_row_put (T : Tops K w mg)  : Df P w K mg base "_law_row_put" (tp 61) ["row", "rows"] (k + 1) f__law_row_put :=
  have S := sc__law_row_put
  df_of (b := b__law_row_put) T.p__law_row_put S (fun _ _ _ _ _ _ us hl => match us, hl with | [_, _], _ => by kernel_rfl) fun _ cdv A outer s H hr hgd => (psm_cons (psm_if (pmt_dnotin (hu1 hr) (pm_idx (pm_loc 0 (by kernel_rfl) (.inl (by kernel_rfl))) pm_int) (pm_loc 1 (by kernel_rfl) (.inl (by kernel_rfl)))) (psm_one (psm_ret (pm_loc 0 (by kernel_rfl) (.inl (by kernel_rfl))))) psm_nil) (psm_cons (psm_set S.nd (pm_dsub (hu1 hr) (pm_loc 1 (by kernel_rfl) (.inl (by kernel_rfl))) (pm_idx (pm_loc 0 (by kernel_rfl) (.inl (by kernel_rfl))) pm_int)) (hx := .inl (by kernel_rfl)) (hf := .inr (by kernel_rfl))) (psm_one (psm_ret (pm_tup (pma_cons (pm_str (by decide +kernel)) (pma_cons (pm_ty c_tuple (gl (by kernel_rfl)) T.b_tuple bb_tuple (pma_cons (pm_sortT (gl (by kernel_rfl)) T.b_sorted (pm_bin o_add (pm_idx (pm_loc 0 (by kernel_rfl) (.inl (by kernel_rfl))) pm_int) (pm_idx (pm_loc 2 (by kernel_rfl) (.inl (by kernel_rfl))) pm_int))) pma_nil)) (pma_cons (pm_idx (pm_loc 2 (by kernel_rfl) (.inl (by kernel_rfl))) pm_int) pma_nil))))))))
theorem ls_0 : NdefX.NScope ["one", "anys"] lam_0.ps lam_0.fr lam_0.scope := NdefX.nscope_by (by kernel_rfl)
theorem lo_0 (T : Tops K w mg) (d__law_row_anew : Df P w K mg base "_law_row_anew" (tp 60) ["row", "tails"] k f__law_row_anew) (d__law_row_put : Df P w K mg base "_law_row_put" (tp 61) ["row", "rows"] k f__law_row_put) : LamG P w K mg base (k + 1) lam_0 (spL K (tabF 0)) := by
  have S := ls_0
  exact lam_of (m := m_0) S (fun _ _ _ _ _ us hl => match us, hl with | [_], _ => by kernel_rfl) (fun q cl c f A outer s H hr hgd => (pm_tup (pma_cons (pm_str (by decide +kernel)) (pma_cons (pm_index (pm_loc 1 (by kernel_rfl) (.inr (.inr (by kernel_rfl)))) (pm_idx (pm_loc 0 (by kernel_rfl) (.inl (by kernel_rfl))) pm_int)) pma_nil))))
theorem ls_1 : NdefX.NScope ["late", "tails"] lam_1.ps lam_1.fr lam_1.scope := NdefX.nscope_by (by kernel_rfl)
theorem lo_1 (T : Tops K w mg) (d__law_row_anew : Df P w K mg base "_law_row_anew" (tp 60) ["row", "tails"] k f__law_row_anew) (d__law_row_put : Df P w K mg base "_law_row_put" (tp 61) ["row", "rows"] k f__law_row_put) : LamG P w K mg base (k + 1) lam_1 (spL K (tabF 1)) := by
  have S := ls_1
  exact lam_of (m := m_1) S (fun _ _ _ _ _ us hl => match us, hl with | [_], _ => by kernel_rfl) (fun q cl c f A outer s H hr hgd => (pm_df d__law_row_anew hr hgd (gl (by kernel_rfl)) (pma_cons (pm_loc 0 (by kernel_rfl) (.inl (by kernel_rfl))) (pma_cons (pm_loc 1 (by kernel_rfl) (.inr (.inr (by kernel_rfl)))) pma_nil))))
theorem ls_2 : NdefX.NScope ["one", "kinds"] lam_2.ps lam_2.fr lam_2.scope := NdefX.nscope_by (by kernel_rfl)
theorem lo_2 (T : Tops K w mg) (d__law_row_anew : Df P w K mg base "_law_row_anew" (tp 60) ["row", "tails"] k f__law_row_anew) (d__law_row_put : Df P w K mg base "_law_row_put" (tp 61) ["row", "rows"] k f__law_row_put) : LamG P w K mg base (k + 1) lam_2 (spL K (tabF 2)) := by
  have S := ls_2
  exact lam_of (m := m_2) S (fun _ _ _ _ _ us hl => match us, hl with | [_], _ => by kernel_rfl) (fun q cl c f A outer s H hr hgd => (pm_dget2 (hu1 hr) (pm_loc 1 (by kernel_rfl) (.inr (.inr (by kernel_rfl)))) (pm_idx (pm_loc 0 (by kernel_rfl) (.inl (by kernel_rfl))) pm_int) (pm_loc 0 (by kernel_rfl) (.inl (by kernel_rfl))) ⟨by kernel_rfl, by kernel_rfl, by kernel_rfl, by kernel_rfl⟩))
theorem ls_3 : NdefX.NScope ["late", "rows"] lam_3.ps lam_3.fr lam_3.scope := NdefX.nscope_by (by kernel_rfl)
theorem lo_3 (T : Tops K w mg) (d__law_row_anew : Df P w K mg base "_law_row_anew" (tp 60) ["row", "tails"] k f__law_row_anew) (d__law_row_put : Df P w K mg base "_law_row_put" (tp 61) ["row", "rows"] k f__law_row_put) : LamG P w K mg base (k + 1) lam_3 (spL K (tabF 3)) := by
  have S := ls_3
  exact lam_of (m := m_3) S (fun _ _ _ _ _ us hl => match us, hl with | [_], _ => by kernel_rfl) (fun q cl c f A outer s H hr hgd => (pm_df d__law_row_put hr hgd (gl (by kernel_rfl)) (pma_cons (pm_loc 0 (by kernel_rfl) (.inl (by kernel_rfl))) (pma_cons (pm_loc 1 (by kernel_rfl) (.inr (.inr (by kernel_rfl)))) pma_nil))))
theorem lams_ok (T : Tops K w mg) (d__law_row_anew : Df P w K mg base "_law_row_anew" (tp 60) ["row", "tails"] k f__law_row_anew) (d__law_row_put : Df P w K mg base "_law_row_put" (tp 61) ["row", "rows"] k f__law_row_put) : LamsOk P w K mg base (k + 1) tabF := ⟨fun i L e => by
  match i, e with
  | 0, e => cases e; exact ⟨fun cs xs S y e => (lamF_len e).trans (by kernel_rfl), lo_0 T d__law_row_anew d__law_row_put⟩
  | 1, e => cases e; exact ⟨fun cs xs S y e => (lamF_len e).trans (by kernel_rfl), lo_1 T d__law_row_anew d__law_row_put⟩
  | 2, e => cases e; exact ⟨fun cs xs S y e => (lamF_len e).trans (by kernel_rfl), lo_2 T d__law_row_anew d__law_row_put⟩
  | 3, e => cases e; exact ⟨fun cs xs S y e => (lamF_len e).trans (by kernel_rfl), lo_3 T d__law_row_anew d__law_row_put⟩
  | (n + 4), e => cases e⟩
theorem defs_ok (T : Tops K w mg) (d_is_kind_of : Df P w K mg base "is_kind_of" (tp 27) ["value"] k f_is_kind_of) (d_is_row_of : Df P w K mg base "is_row_of" (tp 26) ["value"] k f_is_row_of) : DefsOk P w K mg base k gtF := ⟨fun x => by
  unfold gtF
  split
  · rename_i e; subst e; exact .inr ⟨_, _, d_is_kind_of, T.g_is_kind_of⟩
  split
  · rename_i e; subst e; exact .inr ⟨_, _, d_is_row_of, T.g_is_row_of⟩
  exact .inl fun _ _ => rfl⟩
theorem sc__law_kind_led : FnScope ["kind", "any_led", "row_led", "one"] ["kind", "any_led", "row_led"] (defScope (tp 57)) := ⟨by kernel_rfl, by kernel_rfl, by kernel_rfl, by decide +kernel, by kernel_rfl, by decide +kernel, by decide +kernel⟩
theorem ok__law_kind_led (T : Tops K w mg) (TB : LamsOk P w K mg base k tabF) (GO : DefsOk P w K mg base k gtF)  {rc : Fn} (d_rc : Df P w K mg base "_law_kind_led" (tp 57) ["kind", "any_led", "row_led"] k rc) : Df P w K mg base "_law_kind_led" (tp 57) ["kind", "any_led", "row_led"] (k + 1) (runT 3 4 (b__law_kind_led rc)) :=
  have S := sc__law_kind_led
  df_of (b := b__law_kind_led rc) T.p__law_kind_led S (fun _ _ _ _ _ _ us hl => match us, hl with | [_, _, _], _ => by kernel_rfl) fun _ cdv A outer s H hr hgd => (psm_cons (psm_if (pmt_cmp (o_eq (hu190 hr)) (pm_idx (pm_loc 0 (by kernel_rfl) (.inl (by kernel_rfl))) pm_int) (pm_str (by decide +kernel)) (hm := by kernel_rfl)) (psm_one (psm_ret (pm_callV TB GO hr hgd (pma_cons (pm_loc 0 (by kernel_rfl) (.inl (by kernel_rfl))) pma_nil)))) psm_nil) (psm_cons (psm_if (pmt_cmp (o_eq (hu190 hr)) (pm_idx (pm_loc 0 (by kernel_rfl) (.inl (by kernel_rfl))) pm_int) (pm_str (by decide +kernel)) (hm := by kernel_rfl)) (psm_one (psm_ret (pm_tup (pma_cons (pm_str (by decide +kernel)) (pma_cons (pm_df d_rc hr hgd (gl (by kernel_rfl)) (pma_cons (pm_idx (pm_loc 0 (by kernel_rfl) (.inl (by kernel_rfl))) pm_int) (pma_cons (pm_loc 1 (by kernel_rfl) (.inr (.inl (by kernel_rfl)))) (pma_cons (pm_loc 2 (by kernel_rfl) (.inr (.inl (by kernel_rfl)))) pma_nil)))) (pma_cons (pm_callV TB GO hr hgd (pma_cons (pm_idx (pm_loc 0 (by kernel_rfl) (.inl (by kernel_rfl))) pm_int) pma_nil)) (pma_cons (pm_df d_rc hr hgd (gl (by kernel_rfl)) (pma_cons (pm_idx (pm_loc 0 (by kernel_rfl) (.inl (by kernel_rfl))) pm_int) (pma_cons (pm_loc 1 (by kernel_rfl) (.inr (.inl (by kernel_rfl)))) (pma_cons (pm_loc 2 (by kernel_rfl) (.inr (.inl (by kernel_rfl)))) pma_nil)))) pma_nil))))))) psm_nil) (psm_one (psm_ret (pm_bin o_add (pm_slice (pm_loc 0 (by kernel_rfl) (.inl (by kernel_rfl))) pmo_none (pmo_some pm_int)) (pm_ty c_tuple (gl (by kernel_rfl)) T.b_tuple bb_tuple (pma_cons (pm_comp (by kernel_rfl) S.nd (pim_tup (pm_slice (pm_loc 0 (by kernel_rfl) (.inl (by kernel_rfl))) (pmo_some pm_int) pmo_none)) (own := [("one", 3)]) (blkOk_by (by kernel_rfl)) (tgc_name (i := 3) (by decide)) (fun _ _ _ _ _ => pg_name S.nd (by kernel_rfl) (.inl (by kernel_rfl)) (.inr (by kernel_rfl))) (fun _ _ _ _ _ => pmts_nil) (fun _ _ _ _ _ => (pm_df d_rc hr hgd (gl (by kernel_rfl)) (pma_cons (pm_loc 3 (by kernel_rfl) (.inl (by kernel_rfl))) (pma_cons (pm_loc 1 (by kernel_rfl) (.inr (.inl (by kernel_rfl)))) (pma_cons (pm_loc 2 (by kernel_rfl) (.inr (.inl (by kernel_rfl)))) pma_nil)))))) pma_nil)))))))
theorem sc__law_kind_put : FnScope ["kind", "kinds", "rows"] ["kind", "kinds", "rows"] (defScope (tp 62)) := ⟨by kernel_rfl, by kernel_rfl, by kernel_rfl, by decide +kernel, by kernel_rfl, by decide +kernel, by decide +kernel⟩
theorem ok__law_kind_put (T : Tops K w mg) (hB : TabsBase base mg K) (d__law_kind_led : Df P w K mg base "_law_kind_led" (tp 57) ["kind", "any_led", "row_led"] k (f__law_kind_led 12)) : Df P w K mg base "_law_kind_put" (tp 62) ["kind", "kinds", "rows"] (k + 1) f__law_kind_put :=
  have S := sc__law_kind_put
  df_ofL (b := b__law_kind_put) T.p__law_kind_put T.g__law_kind_put T.h__law_kind_put hB S (fun _ _ _ _ _ _ us hl => match us, hl with | [_, _, _], _ => by kernel_rfl) fun _ cdv A outer s H LH hr hgd => (psm_one (psm_ret (pm_dfF d__law_kind_led hr hgd (gl (by kernel_rfl)) LH (pmap_cons (pm_loc 0 (by kernel_rfl) (.inl (by kernel_rfl))) (pmap_lam (i := 2) (js := [1]) (L := lam_2) LH rfl (pmap_lam (i := 3) (js := [2]) (L := lam_3) LH rfl pmap_nil (by kernel_rfl) (by kernel_rfl) (by kernel_rfl)) (by kernel_rfl) (by kernel_rfl) (by kernel_rfl))))))
theorem sc_are_put_by : FnScope ["value", "is_one", "row", "number", "told", "near", "far"] ["value", "is_one"] (defScope (tp 29)) := ⟨by kernel_rfl, by kernel_rfl, by kernel_rfl, by decide +kernel, by kernel_rfl, by decide +kernel, by decide +kernel⟩
theorem ok_are_put_by (T : Tops K w mg) (TB : LamsOk P w K mg base k tabF) (GO : DefsOk P w K mg base k gtF) (d_has_many : Df P w K mg base "has_many" (tp 24) ["value", "many"] k f_has_many) (d_is_count : Df P w K mg base "is_count" (tp 8) ["value"] k f_is_count) : Df P w K mg base "are_put_by" (tp 29) ["value", "is_one"] (k + 1) f_are_put_by :=
  have S := sc_are_put_by
  df_of (b := b_are_put_by) T.p_are_put_by S (fun _ _ _ _ _ _ us hl => match us, hl with | [_, _], _ => by kernel_rfl) fun _ cdv A outer s H hr hgd => (psm_cons (psm_if (PMW.t (pmw_or (pmt_not (pmt_val (pm_isi T.i_tuple (gl (by kernel_rfl)) T.b_isinstance (gl (by kernel_rfl)) T.b_tuple bb_tuple (pm_loc 0 (by kernel_rfl) (.inl (by kernel_rfl)))))) (pmw_or1 (pmt_not (pmt_val (pm_blt (c_all (by kernel_rfl)) (gl (by kernel_rfl)) T.b_all bb_all (pma_cons (pm_comp (by kernel_rfl) S.nd (pim_tup (pm_loc 0 (by kernel_rfl) (.inl (by kernel_rfl)))) (own := [("row", 2)]) (blkOk_by (by kernel_rfl)) (tgc_name (i := 2) (by decide)) (fun _ _ _ _ _ => pg_name S.nd (by kernel_rfl) (.inl (by kernel_rfl)) (.inr (by kernel_rfl))) (fun _ _ _ _ _ => pmts_nil) (fun _ _ _ _ _ => (pm_df d_has_many hr hgd (gl (by kernel_rfl)) (pma_cons (pm_loc 2 (by kernel_rfl) (.inl (by kernel_rfl))) (pma_cons pm_int pma_nil))))) pma_nil))))))) (psm_one (psm_ret pm_bl)) psm_nil) (psm_cons (psm_if (pmt_not (pmt_val (pm_blt (c_all (by kernel_rfl)) (gl (by kernel_rfl)) T.b_all bb_all (pma_cons (pm_comp (by kernel_rfl) S.nd (pim_tup (pm_loc 0 (by kernel_rfl) (.inl (by kernel_rfl)))) (own := [("number", 3), ("told", 4)]) (blkOk_by (by kernel_rfl)) (tgc_tup (is := [3, 4]) (n := 2) rfl (by decide)) (fun _ _ _ _ _ => pg_tup (by kernel_rfl) (pgs_cons (pg_name S.nd (by kernel_rfl) (.inl (by kernel_rfl)) (.inr (by kernel_rfl))) (pgs_cons (pg_name S.nd (by kernel_rfl) (.inl (by kernel_rfl)) (.inr (by kernel_rfl))) pgs_nil))) (fun _ _ _ _ _ => pmts_nil) (fun _ _ _ _ _ => (pm_and (pm_df d_is_count hr hgd (gl (by kernel_rfl)) (pma_cons (pm_loc 3 (by kernel_rfl) (.inl (by kernel_rfl))) pma_nil)) (pm_one (pm_callV TB GO hr hgd (pma_cons (pm_loc 4 (by kernel_rfl) (.inl (by kernel_rfl))) pma_nil)))))) pma_nil)))) (psm_one (psm_ret pm_bl)) psm_nil) (psm_one (psm_ret (pm_blt (c_all (by kernel_rfl)) (gl (by kernel_rfl)) T.b_all bb_all (pma_cons (pm_comp (by kernel_rfl) S.nd (pim_zip (gl (by kernel_rfl)) T.b_zip (pma_cons (pm_loc 0 (by kernel_rfl) (.inl (by kernel_rfl))) (pma_cons (pm_slice (pm_loc 0 (by kernel_rfl) (.inl (by kernel_rfl))) (pmo_some pm_int) pmo_none) pma_nil))) (own := [("near", 5), ("far", 6)]) (blkOk_by (by kernel_rfl)) (tgc_tup (is := [5, 6]) (n := 2) rfl (by decide)) (fun _ _ _ _ _ => pg_tup (by kernel_rfl) (pgs_cons (pg_name S.nd (by kernel_rfl) (.inl (by kernel_rfl)) (.inr (by kernel_rfl))) (pgs_cons (pg_name S.nd (by kernel_rfl) (.inl (by kernel_rfl)) (.inr (by kernel_rfl))) pgs_nil))) (fun _ _ _ _ _ => pmts_nil) (fun _ _ _ _ _ => (pm_cmp o_lt (pm_idx (pm_loc 5 (by kernel_rfl) (.inl (by kernel_rfl))) pm_int) (pm_idx (pm_loc 6 (by kernel_rfl) (.inl (by kernel_rfl))) pm_int) (hm := by kernel_rfl)))) pma_nil))))))
theorem sc_is_putting_of : FnScope ["value"] ["value"] (defScope (tp 30)) := ⟨by kernel_rfl, by kernel_rfl, by kernel_rfl, by decide +kernel, by kernel_rfl, by decide +kernel, by decide +kernel⟩
theorem ok_is_putting_of (T : Tops K w mg) (d_are_put_by : Df P w K mg base "are_put_by" (tp 29) ["value", "is_one"] k f_are_put_by) (d_has_many : Df P w K mg base "has_many" (tp 24) ["value", "many"] k f_has_many) : Df P w K mg base "is_putting_of" (tp 30) ["value"] (k + 1) f_is_putting_of :=
  have S := sc_is_putting_of
  df_of (b := b_is_putting_of) T.p_is_putting_of S (fun _ _ _ _ _ _ us hl => match us, hl with | [_], _ => by kernel_rfl) fun _ cdv A outer s H hr hgd => (psm_one (psm_ret (pm_and (pm_df d_has_many hr hgd (gl (by kernel_rfl)) (pma_cons (pm_loc 0 (by kernel_rfl) (.inl (by kernel_rfl))) (pma_cons pm_int pma_nil))) (pm_and (pm_df d_are_put_by hr hgd (gl (by kernel_rfl)) (pma_cons (pm_idx (pm_loc 0 (by kernel_rfl) (.inl (by kernel_rfl))) pm_int) (pma_cons (pm_g (gl (by kernel_rfl)) T.g_is_kind_of) pma_nil))) (pm_one (pm_df d_are_put_by hr hgd (gl (by kernel_rfl)) (pma_cons (pm_idx (pm_loc 0 (by kernel_rfl) (.inl (by kernel_rfl))) pm_int) (pma_cons (pm_g (gl (by kernel_rfl)) T.g_is_row_of) pma_nil))))))))
theorem sc_want_putting : FnScope ["value"] ["value"] (defScope (tp 40)) := ⟨by kernel_rfl, by kernel_rfl, by kernel_rfl, by decide +kernel, by kernel_rfl, by decide +kernel, by decide +kernel⟩
theorem ok_want_putting (T : Tops K w mg) (d_is_putting_of : Df P w K mg base "is_putting_of" (tp 30) ["value"] k f_is_putting_of) : Df P w K mg base "want_putting" (tp 40) ["value"] (k + 1) f_want_putting :=
  have S := sc_want_putting
  df_of (b := b_want_putting) T.p_want_putting S (fun _ _ _ _ _ _ us hl => match us, hl with | [_], _ => by kernel_rfl) fun _ cdv A outer s H hr hgd => (psm_cons (psm_if (pmt_not (pmt_val (pm_df d_is_putting_of hr hgd (gl (by kernel_rfl)) (pma_cons (pm_loc 0 (by kernel_rfl) (.inl (by kernel_rfl))) pma_nil)))) psms_never psm_nil) (psm_one (psm_ret (pm_loc 0 (by kernel_rfl) (.inl (by kernel_rfl))))))
theorem sc_put_in_row : FnScope ["row", "rows"] ["row", "rows"] (defScope (tp 35)) := ⟨by kernel_rfl, by kernel_rfl, by kernel_rfl, by decide +kernel, by kernel_rfl, by decide +kernel, by decide +kernel⟩
theorem ok_put_in_row (T : Tops K w mg) (d_more_of : Df P w K mg base "more_of" (tp 34) ["row", "names"] k f_more_of) : Df P w K mg base "put_in_row" (tp 35) ["row", "rows"] (k + 1) f_put_in_row :=
  have S := sc_put_in_row
  df_of (b := b_put_in_row) T.p_put_in_row S (fun _ _ _ _ _ _ us hl => match us, hl with | [_, _], _ => by kernel_rfl) fun _ cdv A outer s H hr hgd => (psm_one (psm_ret (pm_ite (pmt_dnotin (hu1 hr) (pm_idx (pm_loc 0 (by kernel_rfl) (.inl (by kernel_rfl))) pm_int) (pm_loc 1 (by kernel_rfl) (.inl (by kernel_rfl)))) (pm_loc 0 (by kernel_rfl) (.inl (by kernel_rfl))) (pm_df d_more_of hr hgd (gl (by kernel_rfl)) (pma_cons (pm_dsub (hu1 hr) (pm_loc 1 (by kernel_rfl) (.inl (by kernel_rfl))) (pm_idx (pm_loc 0 (by kernel_rfl) (.inl (by kernel_rfl))) pm_int)) (pma_cons (pm_idx (pm_loc 0 (by kernel_rfl) (.inl (by kernel_rfl))) pm_int) pma_nil))))))
theorem sc_put_in : FnScope ["kind", "kinds", "rows", "one"] ["kind", "kinds", "rows"] (defScope (tp 36)) := ⟨by kernel_rfl, by kernel_rfl, by kernel_rfl, by decide +kernel, by kernel_rfl, by decide +kernel, by decide +kernel⟩
theorem ok_put_in (T : Tops K w mg) (d_put_in_row : Df P w K mg base "put_in_row" (tp 35) ["row", "rows"] k f_put_in_row) {rc : Fn} (d_rc : Df P w K mg base "put_in" (tp 36) ["kind", "kinds", "rows"] k rc) : Df P w K mg base "put_in" (tp 36) ["kind", "kinds", "rows"] (k + 1) (runT 3 4 (b_put_in rc)) :=
  have S := sc_put_in
  df_of (b := b_put_in rc) T.p_put_in S (fun _ _ _ _ _ _ us hl => match us, hl with | [_, _, _], _ => by kernel_rfl) fun _ cdv A outer s H hr hgd => (psm_cons (psm_if (pmt_cmp (o_eq (hu190 hr)) (pm_idx (pm_loc 0 (by kernel_rfl) (.inl (by kernel_rfl))) pm_int) (pm_ct T.c_ANY (gl (by kernel_rfl))) (hm := by kernel_rfl)) (psm_one (psm_ret (pm_dget2 (hu1 hr) (pm_loc 1 (by kernel_rfl) (.inr (.inl (by kernel_rfl)))) (pm_idx (pm_loc 0 (by kernel_rfl) (.inl (by kernel_rfl))) pm_int) (pm_loc 0 (by kernel_rfl) (.inl (by kernel_rfl))) ⟨by kernel_rfl, by kernel_rfl, by kernel_rfl, by kernel_rfl⟩))) psm_nil) (psm_cons (psm_if (pmt_cmp (o_eq (hu190 hr)) (pm_idx (pm_loc 0 (by kernel_rfl) (.inl (by kernel_rfl))) pm_int) (pm_ct T.c_FN (gl (by kernel_rfl))) (hm := by kernel_rfl)) (psm_one (psm_ret (pm_tup (pma_cons (pm_ct T.c_FN (gl (by kernel_rfl))) (pma_cons (pm_df d_rc hr hgd (gl (by kernel_rfl)) (pma_cons (pm_idx (pm_loc 0 (by kernel_rfl) (.inl (by kernel_rfl))) pm_int) (pma_cons (pm_loc 1 (by kernel_rfl) (.inr (.inl (by kernel_rfl)))) (pma_cons (pm_loc 2 (by kernel_rfl) (.inr (.inl (by kernel_rfl)))) pma_nil)))) (pma_cons (pm_df d_put_in_row hr hgd (gl (by kernel_rfl)) (pma_cons (pm_idx (pm_loc 0 (by kernel_rfl) (.inl (by kernel_rfl))) pm_int) (pma_cons (pm_loc 2 (by kernel_rfl) (.inr (.inl (by kernel_rfl)))) pma_nil))) (pma_cons (pm_df d_rc hr hgd (gl (by kernel_rfl)) (pma_cons (pm_idx (pm_loc 0 (by kernel_rfl) (.inl (by kernel_rfl))) pm_int) (pma_cons (pm_loc 1 (by kernel_rfl) (.inr (.inl (by kernel_rfl)))) (pma_cons (pm_loc 2 (by kernel_rfl) (.inr (.inl (by kernel_rfl)))) pma_nil)))) pma_nil))))))) psm_nil) (psm_cons (psm_if (pmt_cmp o_in (pm_idx (pm_loc 0 (by kernel_rfl) (.inl (by kernel_rfl))) pm_int) (pm_tup (pma_cons (pm_ct T.c_LIST (gl (by kernel_rfl))) (pma_cons (pm_ct T.c_PAIR (gl (by kernel_rfl))) pma_nil))) (hm := by kernel_rfl)) (psm_one (psm_ret (pm_bin o_add (pm_slice (pm_loc 0 (by kernel_rfl) (.inl (by kernel_rfl))) pmo_none (pmo_some pm_int)) (pm_ty c_tuple (gl (by kernel_rfl)) T.b_tuple bb_tuple (pma_cons (pm_comp (by kernel_rfl) S.nd (pim_tup (pm_slice (pm_loc 0 (by kernel_rfl) (.inl (by kernel_rfl))) (pmo_some pm_int) pmo_none)) (own := [("one", 3)]) (blkOk_by (by kernel_rfl)) (tgc_name (i := 3) (by decide)) (fun _ _ _ _ _ => pg_name S.nd (by kernel_rfl) (.inl (by kernel_rfl)) (.inr (by kernel_rfl))) (fun _ _ _ _ _ => pmts_nil) (fun _ _ _ _ _ => (pm_df d_rc hr hgd (gl (by kernel_rfl)) (pma_cons (pm_loc 3 (by kernel_rfl) (.inl (by kernel_rfl))) (pma_cons (pm_loc 1 (by kernel_rfl) (.inr (.inl (by kernel_rfl)))) (pma_cons (pm_loc 2 (by kernel_rfl) (.inr (.inl (by kernel_rfl)))) pma_nil)))))) pma_nil))))) psm_nil) (psm_one (psm_ret (pm_loc 0 (by kernel_rfl) (.inl (by kernel_rfl))))))))
theorem sc_kind_put : FnScope ["kind", "putting"] ["kind", "putting"] (defScope (tp 46)) := ⟨by kernel_rfl, by kernel_rfl, by kernel_rfl, by decide +kernel, by kernel_rfl, by decide +kernel, by decide +kernel⟩
theorem ok_kind_put (T : Tops K w mg) (d_want_kind : Df P w K mg base "want_kind" (tp 38) ["value"] k f_want_kind) (d_want_putting : Df P w K mg base "want_putting" (tp 40) ["value"] k f_want_putting) (d_put_in : Df P w K mg base "put_in" (tp 36) ["kind", "kinds", "rows"] k (f_put_in 12)) : Df P w K mg base "kind_put" (tp 46) ["kind", "putting"] (k + 1) f_kind_put :=
  have S := sc_kind_put
  df_of (b := b_kind_put) T.p_kind_put S (fun _ _ _ _ _ _ us hl => match us, hl with | [_, _], _ => by kernel_rfl) fun _ cdv A outer s H hr hgd => (psm_cons (psm_expr (pm_df d_want_kind hr hgd (gl (by kernel_rfl)) (pma_cons (pm_loc 0 (by kernel_rfl) (.inl (by kernel_rfl))) pma_nil))) (psm_cons (psm_expr (pm_df d_want_putting hr hgd (gl (by kernel_rfl)) (pma_cons (pm_tree (pm_loc 1 (by kernel_rfl) (.inl (by kernel_rfl)))) pma_nil))) (psm_one (psm_ret (pm_df d_put_in hr hgd (gl (by kernel_rfl)) (pma_cons (pm_loc 0 (by kernel_rfl) (.inl (by kernel_rfl))) (pma_cons (pm_dictT (by kernel_rfl) (gl (by kernel_rfl)) T.b_dict (pm_ixQ (pm_loc 1 (by kernel_rfl) (.inl (by kernel_rfl))) pm_int)) (pma_cons (pm_dictT (by kernel_rfl) (gl (by kernel_rfl)) T.b_dict (pm_ixQ (pm_loc 1 (by kernel_rfl) (.inl (by kernel_rfl))) pm_int)) pma_nil))))))))
theorem sc_is_putting : FnScope ["value"] ["value"] (defScope (tp 43)) := ⟨by kernel_rfl, by kernel_rfl, by kernel_rfl, by decide +kernel, by kernel_rfl, by decide +kernel, by decide +kernel⟩
theorem ok_is_putting (T : Tops K w mg) (d_is_putting_of : Df P w K mg base "is_putting_of" (tp 30) ["value"] k f_is_putting_of) : Df P w K mg base "is_putting" (tp 43) ["value"] (k + 1) f_is_putting :=
  have S := sc_is_putting
  df_of (b := b_is_putting) T.p_is_putting S (fun _ _ _ _ _ _ us hl => match us, hl with | [_], _ => by kernel_rfl) fun _ cdv A outer s H hr hgd => (psm_one (psm_ret (pm_df d_is_putting_of hr hgd (gl (by kernel_rfl)) (pma_cons (pm_loc 0 (by kernel_rfl) (.inl (by kernel_rfl))) pma_nil))))
theorem sc_row_put : FnScope ["row", "putting"] ["row", "putting"] (defScope (tp 47)) := ⟨by kernel_rfl, by kernel_rfl, by kernel_rfl, by decide +kernel, by kernel_rfl, by decide +kernel, by decide +kernel⟩
theorem ok_row_put (T : Tops K w mg) (d_want_row : Df P w K mg base "want_row" (tp 39) ["value"] k f_want_row) (d_want_putting : Df P w K mg base "want_putting" (tp 40) ["value"] k f_want_putting) (d_put_in_row : Df P w K mg base "put_in_row" (tp 35) ["row", "rows"] k f_put_in_row) : Df P w K mg base "row_put" (tp 47) ["row", "putting"] (k + 1) f_row_put :=
  have S := sc_row_put
  df_of (b := b_row_put) T.p_row_put S (fun _ _ _ _ _ _ us hl => match us, hl with | [_, _], _ => by kernel_rfl) fun _ cdv A outer s H hr hgd => (psm_cons (psm_expr (pm_df d_want_row hr hgd (gl (by kernel_rfl)) (pma_cons (pm_loc 0 (by kernel_rfl) (.inl (by kernel_rfl))) pma_nil))) (psm_cons (psm_expr (pm_df d_want_putting hr hgd (gl (by kernel_rfl)) (pma_cons (pm_tree (pm_loc 1 (by kernel_rfl) (.inl (by kernel_rfl)))) pma_nil))) (psm_one (psm_ret (pm_df d_put_in_row hr hgd (gl (by kernel_rfl)) (pma_cons (pm_loc 0 (by kernel_rfl) (.inl (by kernel_rfl))) (pma_cons (pm_dictT (by kernel_rfl) (gl (by kernel_rfl)) T.b_dict (pm_ixQ (pm_loc 1 (by kernel_rfl) (.inl (by kernel_rfl))) pm_int)) pma_nil)))))))
theorem sc__law_anew : FnScope ["kind", "row", "anys", "tails", "at"] ["kind", "row"] (defScope (tp 59)) := ⟨by kernel_rfl, by kernel_rfl, by kernel_rfl, by decide +kernel, by kernel_rfl, by decide +kernel, by decide +kernel⟩
theorem ok__law_anew (T : Tops K w mg) (hB : TabsBase base mg K) (d__law_loose : Df P w K mg base "_law_loose" (tp 58) ["kind"] k (f__law_loose 12)) (d__law_row_anew : Df P w K mg base "_law_row_anew" (tp 60) ["row", "tails"] k f__law_row_anew) (d__law_kind_led : Df P w K mg base "_law_kind_led" (tp 57) ["kind", "any_led", "row_led"] k (f__law_kind_led 12)) : Df P w K mg base "_law_anew" (tp 59) ["kind", "row"] (k + 1) f__law_anew :=
  have S := sc__law_anew
  df_ofL (b := b__law_anew) T.p__law_anew T.g__law_anew T.h__law_anew hB S (fun _ _ _ _ _ _ us hl => match us, hl with | [_, _], _ => by kernel_rfl) fun _ cdv A outer s H LH hr hgd => (psm_cons (psm_asg (pm_df d__law_loose hr hgd (gl (by kernel_rfl)) (pma_cons (pm_loc 0 (by kernel_rfl) (.inl (by kernel_rfl))) pma_nil)) (pgm_tup (by kernel_rfl) (pgsm_cons (pgm_name 2 S.nd (hx := .inr (by kernel_rfl)) (hf := .inl (by kernel_rfl))) (pgsm_cons (pgm_name 3 S.nd (hx := .inr (by kernel_rfl)) (hf := .inl (by kernel_rfl))) pgsm_nil)))) (psm_cons (psm_set S.nd (pm_bin o_add (pm_loc 3 (by kernel_rfl) (.inr (.inl (by kernel_rfl)))) (pm_comp (by kernel_rfl) S.nd (pim_lst (pm_idx (pm_df d__law_loose hr hgd (gl (by kernel_rfl)) (pma_cons (pm_loc 1 (by kernel_rfl) (.inl (by kernel_rfl))) pma_nil)) pm_int)) (own := [("at", 4)]) (blkOk_by (by kernel_rfl)) (tgc_name (i := 4) (by decide)) (fun _ _ _ _ _ => pg_name S.nd (by kernel_rfl) (.inl (by kernel_rfl)) (.inr (by kernel_rfl))) (fun _ _ _ _ _ => (pmts_one (pmt_cmp o_notin (pm_loc 4 (by kernel_rfl) (.inl (by kernel_rfl))) (pm_loc 3 (by kernel_rfl) (.inr (.inl (by kernel_rfl)))) (hm := by kernel_rfl)))) (fun _ _ _ _ _ => (pm_loc 4 (by kernel_rfl) (.inl (by kernel_rfl)))))) (hx := .inr (by kernel_rfl)) (hf := .inl (by kernel_rfl))) (psm_one (psm_ret (pm_tup (pma_cons (pm_dfF d__law_kind_led hr hgd (gl (by kernel_rfl)) LH (pmap_cons (pm_loc 0 (by kernel_rfl) (.inl (by kernel_rfl))) (pmap_lam (i := 0) (js := [2]) (L := lam_0) LH rfl (pmap_lam (i := 1) (js := [3]) (L := lam_1) LH rfl pmap_nil (by kernel_rfl) (by kernel_rfl) (by kernel_rfl)) (by kernel_rfl) (by kernel_rfl) (by kernel_rfl)))) (pma_cons (pm_df d__law_row_anew hr hgd (gl (by kernel_rfl)) (pma_cons (pm_loc 1 (by kernel_rfl) (.inl (by kernel_rfl))) (pma_cons (pm_loc 3 (by kernel_rfl) (.inr (.inl (by kernel_rfl)))) pma_nil))) pma_nil)))))))
theorem sc_named_anew_of : FnScope ["kind", "row", "anys", "tails", "kinds", "rows", "number", "at"] ["kind", "row"] (defScope (tp 37)) := ⟨by kernel_rfl, by kernel_rfl, by kernel_rfl, by decide +kernel, by kernel_rfl, by decide +kernel, by decide +kernel⟩
theorem ok_named_anew_of (T : Tops K w mg) (d_come_in : Df P w K mg base "come_in" (tp 31) ["kind", "anys", "tails"] k (f_come_in 12)) (d_come_in_row : Df P w K mg base "come_in_row" (tp 32) ["row", "tails"] k f_come_in_row) (d_put_in_row : Df P w K mg base "put_in_row" (tp 35) ["row", "rows"] k f_put_in_row) (d_put_in : Df P w K mg base "put_in" (tp 36) ["kind", "kinds", "rows"] k (f_put_in 12)) : Df P w K mg base "named_anew_of" (tp 37) ["kind", "row"] (k + 1) f_named_anew_of :=
  have S := sc_named_anew_of
  df_of (b := b_named_anew_of) T.p_named_anew_of S (fun _ _ _ _ _ _ us hl => match us, hl with | [_, _], _ => by kernel_rfl) fun _ cdv A outer s H hr hgd => (psm_cons (psm_par (by kernel_rfl) S.nd (pma_cons pm_newD (pma_cons pm_newD pma_nil))) (psm_cons (psm_expr (pm_df d_come_in hr hgd (gl (by kernel_rfl)) (pma_cons (pm_loc 0 (by kernel_rfl) (.inl (by kernel_rfl))) (pma_cons (pm_loc 2 (by kernel_rfl) (.inl (by kernel_rfl))) (pma_cons (pm_loc 3 (by kernel_rfl) (.inl (by kernel_rfl))) pma_nil))))) (psm_cons (psm_expr (pm_df d_come_in_row hr hgd (gl (by kernel_rfl)) (pma_cons (pm_loc 1 (by kernel_rfl) (.inl (by kernel_rfl))) (pma_cons (pm_loc 3 (by kernel_rfl) (.inl (by kernel_rfl))) pma_nil)))) (psm_cons (psm_setDcI (by kernel_rfl) S.nd (by kernel_rfl) (by kernel_rfl) (by kernel_rfl) (.inl (by kernel_rfl)) (own := [("number", 6), ("at", 7)]) (blkOk_by (by kernel_rfl)) (tgc_tup (is := [6, 7]) (n := 2) rfl (by decide)) (fun _ _ _ _ _ => pg_tup (by kernel_rfl) (pgs_cons (pg_name S.nd (by kernel_rfl) (.inl (by kernel_rfl)) (.inr (by kernel_rfl))) (pgs_cons (pg_name S.nd (by kernel_rfl) (.inl (by kernel_rfl)) (.inr (by kernel_rfl))) pgs_nil))) (fun _ _ _ _ _ => (pm_loc 6 (by kernel_rfl) (.inl (by kernel_rfl)))) (fun _ _ _ _ _ => (pm_tup (pma_cons (pm_ct T.c_ANY (gl (by kernel_rfl))) (pma_cons (pm_loc 7 (by kernel_rfl) (.inl (by kernel_rfl))) pma_nil)))) (swd_true (by kernel_rfl) (by kernel_rfl) (by kernel_rfl) (by kernel_rfl))) (psm_cons (psm_setDcI (by kernel_rfl) S.nd (by kernel_rfl) (by kernel_rfl) (by kernel_rfl) (.inl (by kernel_rfl)) (own := [("number", 6), ("at", 7)]) (blkOk_by (by kernel_rfl)) (tgc_tup (is := [6, 7]) (n := 2) rfl (by decide)) (fun _ _ _ _ _ => pg_tup (by kernel_rfl) (pgs_cons (pg_name S.nd (by kernel_rfl) (.inl (by kernel_rfl)) (.inr (by kernel_rfl))) (pgs_cons (pg_name S.nd (by kernel_rfl) (.inl (by kernel_rfl)) (.inr (by kernel_rfl))) pgs_nil))) (fun _ _ _ _ _ => (pm_loc 6 (by kernel_rfl) (.inl (by kernel_rfl)))) (fun _ _ _ _ _ => (pm_tup (pma_cons (pm_ct T.c_ROW (gl (by kernel_rfl))) (pma_cons (pm_tup pma_nil) (pma_cons (pm_loc 7 (by kernel_rfl) (.inl (by kernel_rfl))) pma_nil))))) (swd_true (by kernel_rfl) (by kernel_rfl) (by kernel_rfl) (by kernel_rfl))) (psm_one (psm_ret (pm_tup (pma_cons (pm_df d_put_in hr hgd (gl (by kernel_rfl)) (pma_cons (pm_loc 0 (by kernel_rfl) (.inl (by kernel_rfl))) (pma_cons (pm_loc 4 (by kernel_rfl) (.inl (by kernel_rfl))) (pma_cons (pm_loc 5 (by kernel_rfl) (.inl (by kernel_rfl))) pma_nil)))) (pma_cons (pm_df d_put_in_row hr hgd (gl (by kernel_rfl)) (pma_cons (pm_loc 1 (by kernel_rfl) (.inl (by kernel_rfl))) (pma_cons (pm_loc 5 (by kernel_rfl) (.inl (by kernel_rfl))) pma_nil))) pma_nil))))))))))
theorem sc_named_anew : FnScope ["kind", "row"] ["kind", "row"] (defScope (tp 48)) := ⟨by kernel_rfl, by kernel_rfl, by kernel_rfl, by decide +kernel, by kernel_rfl, by decide +kernel, by decide +kernel⟩
theorem ok_named_anew (T : Tops K w mg) (d_want_kind : Df P w K mg base "want_kind" (tp 38) ["value"] k f_want_kind) (d_named_anew_of : Df P w K mg base "named_anew_of" (tp 37) ["kind", "row"] k f_named_anew_of) (d_want_row : Df P w K mg base "want_row" (tp 39) ["value"] k f_want_row) : Df P w K mg base "named_anew" (tp 48) ["kind", "row"] (k + 1) f_named_anew :=
  have S := sc_named_anew
  df_of (b := b_named_anew) T.p_named_anew S (fun _ _ _ _ _ _ us hl => match us, hl with | [_, _], _ => by kernel_rfl) fun _ cdv A outer s H hr hgd => (psm_cons (psm_expr (pm_df d_want_kind hr hgd (gl (by kernel_rfl)) (pma_cons (pm_loc 0 (by kernel_rfl) (.inl (by kernel_rfl))) pma_nil))) (psm_one (psm_ret (pm_df d_named_anew_of hr hgd (gl (by kernel_rfl)) (pma_cons (pm_loc 0 (by kernel_rfl) (.inl (by kernel_rfl))) (pma_cons (pm_df d_want_row hr hgd (gl (by kernel_rfl)) (pma_cons (pm_loc 1 (by kernel_rfl) (.inl (by kernel_rfl))) pma_nil)) pma_nil))))))
theorem sc__law_some : FnScope ["pot", "things", "many", "left", "found", "turn"] ["pot", "things", "many"] (defScope (tp 54)) := ⟨by kernel_rfl, by kernel_rfl, by kernel_rfl, by decide +kernel, by kernel_rfl, by decide +kernel, by decide +kernel⟩
theorem ok__law_some (T : Tops K w mg) (d__law_draw : Df P w K mg base "_law_draw" (tp 52) ["pot", "many"] k f__law_draw) : Df P w K mg base "_law_some" (tp 54) ["pot", "things", "many"] (k + 1) f__law_some :=
  have S := sc__law_some
  df_of (b := b__law_some) T.p__law_some S (fun _ _ _ _ _ _ us hl => match us, hl with | [_, _, _], _ => by kernel_rfl) fun _ cdv A outer s H hr hgd => (psm_cons (psm_par (by kernel_rfl) S.nd (pma_cons (pm_listN (gl (by kernel_rfl)) T.b_list (pm_loc 1 (by kernel_rfl) (.inl (by kernel_rfl)))) (pma_cons (pm_new pma_nil) pma_nil))) (psm_cons (psm_for PassesOwn.never (by kernel_rfl) (pim_rng (gl (by kernel_rfl)) T.b_range (pma_cons (pm_loc 2 (by kernel_rfl) (.inl (by kernel_rfl))) pma_nil)) (pgm_name 5 S.nd (hx := .inl (by kernel_rfl)) (hf := .inr (by kernel_rfl))) (psm_one (psm_expr (pm_app (pm_loc 4 (by kernel_rfl) (.inl (by kernel_rfl))) (pm_popAt (pm_loc 3 (by kernel_rfl) (.inl (by kernel_rfl))) (pm_df d__law_draw hr hgd (gl (by kernel_rfl)) (pma_cons (pm_loc 0 (by kernel_rfl) (.inl (by kernel_rfl))) (pma_cons (pm_blt c_len (gl (by kernel_rfl)) T.b_len bb_len (pma_cons (pm_loc 3 (by kernel_rfl) (.inl (by kernel_rfl))) pma_nil)) pma_nil)))))))) (psm_one (psm_ret (pm_loc 4 (by kernel_rfl) (.inl (by kernel_rfl)))))))
theorem sc_are_alike_kinds : FnScope ["kind", "other_kind"] ["kind", "other_kind"] (defScope (tp 49)) := ⟨by kernel_rfl, by kernel_rfl, by kernel_rfl, by decide +kernel, by kernel_rfl, by decide +kernel, by decide +kernel⟩
theorem ok_are_alike_kinds (T : Tops K w mg) (d_want_kind : Df P w K mg base "want_kind" (tp 38) ["value"] k f_want_kind) (d_named_anew_of : Df P w K mg base "named_anew_of" (tp 37) ["kind", "row"] k f_named_anew_of) : Df P w K mg base "are_alike_kinds" (tp 49) ["kind", "other_kind"] (k + 1) f_are_alike_kinds :=
  have S := sc_are_alike_kinds
  df_of (b := b_are_alike_kinds) T.p_are_alike_kinds S (fun _ _ _ _ _ _ us hl => match us, hl with | [_, _], _ => by kernel_rfl) fun _ cdv A outer s H hr hgd => (psm_cons (psm_expr (pm_df d_want_kind hr hgd (gl (by kernel_rfl)) (pma_cons (pm_loc 0 (by kernel_rfl) (.inl (by kernel_rfl))) pma_nil))) (psm_one (psm_ret (pm_cmp (o_eq (hu190 hr)) (pm_df d_named_anew_of hr hgd (gl (by kernel_rfl)) (pma_cons (pm_loc 0 (by kernel_rfl) (.inl (by kernel_rfl))) (pma_cons (pm_ct T.c_NOTHING (gl (by kernel_rfl))) pma_nil))) (pm_df d_named_anew_of hr hgd (gl (by kernel_rfl)) (pma_cons (pm_df d_want_kind hr hgd (gl (by kernel_rfl)) (pma_cons (pm_loc 1 (by kernel_rfl) (.inl (by kernel_rfl))) pma_nil)) (pma_cons (pm_ct T.c_NOTHING (gl (by kernel_rfl))) pma_nil))) (hm := by kernel_rfl)))))
theorem sc__law_right : FnScope ["pot", "turn", "kind", "row", "shown", "anys", "tails", "names", "kinds", "rows", "putting", "anew", "late", "other", "bare", "one", "so", "at"] ["pot"] (defScope (tp 65)) := ⟨by kernel_rfl, by kernel_rfl, by kernel_rfl, by decide +kernel, by kernel_rfl, by decide +kernel, by decide +kernel⟩
theorem ok__law_right (T : Tops K w mg) (d__law_row : Df P w K mg base "_law_row" (tp 55) ["pot"] k f__law_row) (d__law_kind : Df P w K mg base "_law_kind" (tp 56) ["pot", "deep"] k (f__law_kind 6)) (d__law_loose : Df P w K mg base "_law_loose" (tp 58) ["kind"] k (f__law_loose 12)) (d_is_row : Df P w K mg base "is_row" (tp 42) ["value"] k f_is_row) (d_is_kind : Df P w K mg base "is_kind" (tp 41) ["value"] k f_is_kind) (d__law_twice : Df P w K mg base "_law_twice" (tp 64) ["one", "due"] k f__law_twice) (d_loose : Df P w K mg base "loose" (tp 44) ["kind"] k f_loose) (d_loose__u : Df P w K mg base "loose" (tp 44) ["kind"] k f_loose__u) (d__law_draw : Df P w K mg base "_law_draw" (tp 52) ["pot", "many"] k f__law_draw) (d__law_pick : Df P w K mg base "_law_pick" (tp 53) ["pot", "some"] k f__law_pick) (d_row_more : Df P w K mg base "row_more" (tp 45) ["row", "names"] k f_row_more) (d__law_putting : Df P w K mg base "_law_putting" (tp 63) ["pot"] k f__law_putting) (d__law_kind_put : Df P w K mg base "_law_kind_put" (tp 62) ["kind", "kinds", "rows"] k f__law_kind_put) (d_kind_put : Df P w K mg base "kind_put" (tp 46) ["kind", "putting"] k f_kind_put) (d_is_putting : Df P w K mg base "is_putting" (tp 43) ["value"] k f_is_putting) (d__law_row_put : Df P w K mg base "_law_row_put" (tp 61) ["row", "rows"] k f__law_row_put) (d_row_put : Df P w K mg base "row_put" (tp 47) ["row", "putting"] k f_row_put) (d__law_anew : Df P w K mg base "_law_anew" (tp 59) ["kind", "row"] k f__law_anew) (d_named_anew : Df P w K mg base "named_anew" (tp 48) ["kind", "row"] k f_named_anew) (d__law_some : Df P w K mg base "_law_some" (tp 54) ["pot", "things", "many"] k f__law_some) (d_are_alike_kinds : Df P w K mg base "are_alike_kinds" (tp 49) ["kind", "other_kind"] k f_are_alike_kinds) : Df P w K mg base "_law_right" (tp 65) ["pot"] (k + 1) f__law_right :=
  have S := sc__law_right
  df_of (b := b__law_right) T.p__law_right S (fun _ _ _ _ _ _ us hl => match us, hl with | [_], _ => by kernel_rfl) fun _ cdv A outer s H hr hgd => (psm_cons (psm_for PassesOwn.never (by kernel_rfl) (pim_rng (gl (by kernel_rfl)) T.b_range (pma_cons pm_int pma_nil)) (pgm_name 1 S.nd (hx := .inl (by kernel_rfl)) (hf := .inr (by kernel_rfl))) (psm_scope (psm_cons (psm_par (by kernel_rfl) S.nd (pma_cons (pm_df d__law_kind hr hgd (gl (by kernel_rfl)) (pma_cons (pm_loc 0 (by kernel_rfl) (.inr (.inl (by kernel_rfl)))) (pma_cons pm_int pma_nil))) (pma_cons (pm_df d__law_row hr hgd (gl (by kernel_rfl)) (pma_cons (pm_loc 0 (by kernel_rfl) (.inr (.inl (by kernel_rfl)))) pma_nil)) pma_nil))) (psm_cons (psm_set S.nd (pm_repr hgd (hu192 hr) (gl (by kernel_rfl)) T.b_repr (pm_lst (pma_cons (pm_loc 2 (by kernel_rfl) (.inl (by kernel_rfl))) (pma_cons (pm_loc 3 (by kernel_rfl) (.inl (by kernel_rfl))) pma_nil)))) (hx := .inl (by kernel_rfl)) (hf := .inr (by kernel_rfl))) (psm_cons (psm_asg (pm_df d__law_loose hr hgd (gl (by kernel_rfl)) (pma_cons (pm_loc 2 (by kernel_rfl) (.inl (by kernel_rfl))) pma_nil)) (pgm_tup (by kernel_rfl) (pgsm_cons (pgm_name 5 S.nd (hx := .inl (by kernel_rfl)) (hf := .inr (by kernel_rfl))) (pgsm_cons (pgm_name 6 S.nd (hx := .inl (by kernel_rfl)) (hf := .inr (by kernel_rfl))) pgsm_nil)))) (psm_cons (psm_if (PMW.t (pmw_or (pmt_not (pmt_val (pm_df d__law_twice hr hgd (gl (by kernel_rfl)) (pma_cons (pm_lst (pma_cons (pm_df d_loose hr hgd (gl (by kernel_rfl)) (pma_cons (pm_loc 2 (by kernel_rfl) (.inl (by kernel_rfl))) pma_nil)) (pma_cons (pm_dfK (ks := ["kind"]) (is := [0]) d_loose hr hgd (gl (by kernel_rfl)) (fun _ _ _ _ _ _ ws hl => match ws, hl with | [_], _ => by kernel_rfl) (pmk_cons (pm_loc 2 (by kernel_rfl) (.inl (by kernel_rfl))) pmk_nil) (len_cons len_nil)) pma_nil))) (pma_cons (pm_tup (pma_cons (pm_loc 5 (by kernel_rfl) (.inl (by kernel_rfl))) (pma_cons (pm_loc 6 (by kernel_rfl) (.inl (by kernel_rfl))) pma_nil))) pma_nil))))) (pmw_or (pmt_cmp o_notB (pm_df d_is_kind hr hgd (gl (by kernel_rfl)) (pma_cons (pm_loc 2 (by kernel_rfl) (.inl (by kernel_rfl))) pma_nil)) pm_bl (hm := by kernel_rfl)) (pmw_or1 (pmt_cmp o_notB (pm_df d_is_row hr hgd (gl (by kernel_rfl)) (pma_cons (pm_loc 3 (by kernel_rfl) (.inl (by kernel_rfl))) pma_nil)) pm_bl (hm := by kernel_rfl)))))) (psm_one (psm_ret pm_bl)) psm_nil) (psm_cons (psm_dropCut (pm_app (pm_ixU (pm_df d_loose__u hr hgd (gl (by kernel_rfl)) (pma_cons (pm_loc 2 (by kernel_rfl) (.inl (by kernel_rfl))) pma_nil)) pm_int) pm_int)) (psm_cons (psm_set S.nd (pm_ty c_tuple (gl (by kernel_rfl)) T.b_tuple bb_tuple (pma_cons (pm_sortT (gl (by kernel_rfl)) T.b_sorted (pm_comp (by kernel_rfl) S.nd (pim_rng (gl (by kernel_rfl)) T.b_range (pma_cons (pm_df d__law_draw hr hgd (gl (by kernel_rfl)) (pma_cons (pm_loc 0 (by kernel_rfl) (.inr (.inl (by kernel_rfl)))) (pma_cons pm_int pma_nil))) pma_nil)) (own := [("late", 12)]) (blkOk_by (by kernel_rfl)) (tgc_name (i := 12) (by decide)) (fun _ _ _ _ _ => pg_name S.nd (by kernel_rfl) (.inl (by kernel_rfl)) (.inr (by kernel_rfl))) (fun _ _ _ _ _ => pmts_nil) (fun _ _ _ _ _ => (pm_df d__law_pick hr hgd (gl (by kernel_rfl)) (pma_cons (pm_loc 0 (by kernel_rfl) (.inr (.inl (by kernel_rfl)))) (pma_cons (pm_lst (pma_cons (pm_str (by decide +kernel)) (pma_cons (pm_str (by decide +kernel)) (pma_cons (pm_str (by decide +kernel)) (pma_cons (pm_str (by decide +kernel)) pma_nil))))) pma_nil)))))) pma_nil)) (hx := .inl (by kernel_rfl)) (hf := .inr (by kernel_rfl))) (psm_cons (psm_if (pmt_not (pmt_val (pm_df d__law_twice hr hgd (gl (by kernel_rfl)) (pma_cons (pm_lst (pma_cons (pm_df d_row_more hr hgd (gl (by kernel_rfl)) (pma_cons (pm_loc 3 (by kernel_rfl) (.inl (by kernel_rfl))) (pma_cons (pm_loc 7 (by kernel_rfl) (.inl (by kernel_rfl))) pma_nil))) (pma_cons (pm_dfK (ks := ["names", "row"]) (is := [1, 0]) d_row_more hr hgd (gl (by kernel_rfl)) (fun _ _ _ _ _ _ ws hl => match ws, hl with | [_, _], _ => by kernel_rfl) (pmk_cons (pm_loc 7 (by kernel_rfl) (.inl (by kernel_rfl))) (pmk_cons (pm_loc 3 (by kernel_rfl) (.inl (by kernel_rfl))) pmk_nil)) (len_cons (len_cons len_nil))) pma_nil))) (pma_cons (pm_tup (pma_cons (pm_str (by decide +kernel)) (pma_cons (pm_ty c_tuple (gl (by kernel_rfl)) T.b_tuple bb_tuple (pma_cons (pm_sortT (gl (by kernel_rfl)) T.b_sorted (pm_bin o_add (pm_idx (pm_loc 3 (by kernel_rfl) (.inl (by kernel_rfl))) pm_int) (pm_loc 7 (by kernel_rfl) (.inl (by kernel_rfl))))) pma_nil)) (pma_cons (pm_idx (pm_loc 3 (by kernel_rfl) (.inl (by kernel_rfl))) pm_int) pma_nil)))) pma_nil))))) (psm_one (psm_ret pm_bl)) psm_nil) (psm_cons (psm_asg (pm_df d__law_putting hr hgd (gl (by kernel_rfl)) (pma_cons (pm_loc 0 (by kernel_rfl) (.inr (.inl (by kernel_rfl)))) pma_nil)) (pgm_tupU (by kernel_rfl) (pgsu_cons S.nd (pgsu_cons S.nd (pgsu_cons S.nd pgsu_nil (hx := .inl (by kernel_rfl)) (hf := .inr (by kernel_rfl))) (hx := .inl (by kernel_rfl)) (hf := .inr (by kernel_rfl))) (hx := .inl (by kernel_rfl)) (hf := .inr (by kernel_rfl))))) (psm_cons (psm_if (PMW.t (pmw_or (pmt_cmp o_notB (pm_df d_is_putting hr hgd (gl (by kernel_rfl)) (pma_cons (pm_tree (pm_loc 10 (by kernel_rfl) (.inl (by kernel_rfl)))) pma_nil)) pm_bl (hm := by kernel_rfl)) (pmw_or1 (pmt_not (pmt_val (pm_df d__law_twice hr hgd (gl (by kernel_rfl)) (pma_cons (pm_lst (pma_cons (pm_df d_kind_put hr hgd (gl (by kernel_rfl)) (pma_cons (pm_loc 2 (by kernel_rfl) (.inl (by kernel_rfl))) (pma_cons (pm_loc 10 (by kernel_rfl) (.inl (by kernel_rfl))) pma_nil))) (pma_cons (pm_dfK (ks := ["putting", "kind"]) (is := [1, 0]) d_kind_put hr hgd (gl (by kernel_rfl)) (fun _ _ _ _ _ _ ws hl => match ws, hl with | [_, _], _ => by kernel_rfl) (pmk_cons (pm_loc 10 (by kernel_rfl) (.inl (by kernel_rfl))) (pmk_cons (pm_loc 2 (by kernel_rfl) (.inl (by kernel_rfl))) pmk_nil)) (len_cons (len_cons len_nil))) pma_nil))) (pma_cons (pm_df d__law_kind_put hr hgd (gl (by kernel_rfl)) (pma_cons (pm_loc 2 (by kernel_rfl) (.inl (by kernel_rfl))) (pma_cons (pm_loc 8 (by kernel_rfl) (.inl (by kernel_rfl))) (pma_cons (pm_loc 9 (by kernel_rfl) (.inl (by kernel_rfl))) pma_nil)))) pma_nil)))))))) (psm_one (psm_ret pm_bl)) psm_nil) (psm_cons (psm_if (pmt_not (pmt_val (pm_df d__law_twice hr hgd (gl (by kernel_rfl)) (pma_cons (pm_lst (pma_cons (pm_df d_row_put hr hgd (gl (by kernel_rfl)) (pma_cons (pm_loc 3 (by kernel_rfl) (.inl (by kernel_rfl))) (pma_cons (pm_loc 10 (by kernel_rfl) (.inl (by kernel_rfl))) pma_nil))) (pma_cons (pm_dfK (ks := ["putting", "row"]) (is := [1, 0]) d_row_put hr hgd (gl (by kernel_rfl)) (fun _ _ _ _ _ _ ws hl => match ws, hl with | [_, _], _ => by kernel_rfl) (pmk_cons (pm_loc 10 (by kernel_rfl) (.inl (by kernel_rfl))) (pmk_cons (pm_loc 3 (by kernel_rfl) (.inl (by kernel_rfl))) pmk_nil)) (len_cons (len_cons len_nil))) pma_nil))) (pma_cons (pm_df d__law_row_put hr hgd (gl (by kernel_rfl)) (pma_cons (pm_loc 3 (by kernel_rfl) (.inl (by kernel_rfl))) (pma_cons (pm_loc 9 (by kernel_rfl) (.inl (by kernel_rfl))) pma_nil))) pma_nil))))) (psm_one (psm_ret pm_bl)) psm_nil) (psm_cons (psm_set S.nd (pm_df d__law_anew hr hgd (gl (by kernel_rfl)) (pma_cons (pm_loc 2 (by kernel_rfl) (.inl (by kernel_rfl))) (pma_cons (pm_loc 3 (by kernel_rfl) (.inl (by kernel_rfl))) pma_nil))) (hx := .inl (by kernel_rfl)) (hf := .inr (by kernel_rfl))) (psm_cons (psm_if (pmt_not (pmt_val (pm_df d__law_twice hr hgd (gl (by kernel_rfl)) (pma_cons (pm_lst (pma_cons (pm_df d_named_anew hr hgd (gl (by kernel_rfl)) (pma_cons (pm_loc 2 (by kernel_rfl) (.inl (by kernel_rfl))) (pma_cons (pm_loc 3 (by kernel_rfl) (.inl (by kernel_rfl))) pma_nil))) (pma_cons (pm_dfK (ks := ["row", "kind"]) (is := [1, 0]) d_named_anew hr hgd (gl (by kernel_rfl)) (fun _ _ _ _ _ _ ws hl => match ws, hl with | [_, _], _ => by kernel_rfl) (pmk_cons (pm_loc 3 (by kernel_rfl) (.inl (by kernel_rfl))) (pmk_cons (pm_loc 2 (by kernel_rfl) (.inl (by kernel_rfl))) pmk_nil)) (len_cons (len_cons len_nil))) pma_nil))) (pma_cons (pm_loc 11 (by kernel_rfl) (.inl (by kernel_rfl))) pma_nil))))) (psm_one (psm_ret pm_bl)) psm_nil) (psm_cons (psm_set S.nd (pm_df d__law_some hr hgd (gl (by kernel_rfl)) (pma_cons (pm_loc 0 (by kernel_rfl) (.inr (.inl (by kernel_rfl)))) (pma_cons (pm_listRng (by kernel_rfl) (gl (by kernel_rfl)) T.b_list (gl (by kernel_rfl)) T.b_range pm_int) (pma_cons pm_int pma_nil)))) (hx := .inr (by kernel_rfl)) (hf := .inl (by kernel_rfl))) (psm_cons (psm_set S.nd (pm_df d__law_kind_put hr hgd (gl (by kernel_rfl)) (pma_cons (pm_loc 2 (by kernel_rfl) (.inl (by kernel_rfl))) (pma_cons (pm_dictP (by kernel_rfl) (gl (by kernel_rfl)) T.b_dict (pm_comp (by kernel_rfl) S.nd (pim_rng (gl (by kernel_rfl)) T.b_range (pma_cons pm_int pma_nil)) (own := [("at", 17)]) (blkOk_by (by kernel_rfl)) (tgc_name (i := 17) (by decide)) (fun _ _ _ _ _ => pg_name S.nd (by kernel_rfl) (.inl (by kernel_rfl)) (.inr (by kernel_rfl))) (fun _ _ _ _ _ => pmts_nil) (fun _ _ _ _ _ => (pm_tup (pma_cons (pm_loc 17 (by kernel_rfl) (.inl (by kernel_rfl))) (pma_cons (pm_tup (pma_cons (pm_str (by decide +kernel)) (pma_cons (pm_idx (pm_loc 12 (by kernel_rfl) (.inr (.inl (by kernel_rfl)))) (pm_loc 17 (by kernel_rfl) (.inl (by kernel_rfl)))) pma_nil))) pma_nil)))))) (pma_cons (pm_dictP (by kernel_rfl) (gl (by kernel_rfl)) T.b_dict (pm_comp (by kernel_rfl) S.nd (pim_rng (gl (by kernel_rfl)) T.b_range (pma_cons pm_int pma_nil)) (own := [("at", 17)]) (blkOk_by (by kernel_rfl)) (tgc_name (i := 17) (by decide)) (fun _ _ _ _ _ => pg_name S.nd (by kernel_rfl) (.inl (by kernel_rfl)) (.inr (by kernel_rfl))) (fun _ _ _ _ _ => pmts_nil) (fun _ _ _ _ _ => (pm_tup (pma_cons (pm_loc 17 (by kernel_rfl) (.inl (by kernel_rfl))) (pma_cons (pm_tup (pma_cons (pm_str (by decide +kernel)) (pma_cons (pm_tup pma_nil) (pma_cons (pm_idx (pm_loc 12 (by kernel_rfl) (.inr (.inl (by kernel_rfl)))) (pm_bin o_add pm_int (pm_loc 17 (by kernel_rfl) (.inl (by kernel_rfl))))) pma_nil)))) pma_nil)))))) pma_nil)))) (hx := .inl (by kernel_rfl)) (hf := .inr (by kernel_rfl))) (psm_cons (psm_set S.nd (pm_tup (pma_cons (pm_str (by decide +kernel)) (pma_cons (pm_tup pma_nil) (pma_cons pm_non pma_nil)))) (hx := .inl (by kernel_rfl)) (hf := .inr (by kernel_rfl))) (psm_cons (psm_for PassesOwn.never (by kernel_rfl) (pim_tup (pm_tup (pma_cons (pm_loc 13 (by kernel_rfl) (.inl (by kernel_rfl))) (pma_cons (pm_df d__law_kind hr hgd (gl (by kernel_rfl)) (pma_cons (pm_loc 0 (by kernel_rfl) (.inr (.inl (by kernel_rfl)))) (pma_cons pm_int pma_nil))) (pma_cons (pm_df d__law_kind_put hr hgd (gl (by kernel_rfl)) (pma_cons (pm_loc 2 (by kernel_rfl) (.inl (by kernel_rfl))) (pma_cons (pm_disp1 pm_int (pm_tup (pma_cons (pm_str (by decide +kernel)) (pma_cons pm_int pma_nil))) (pps_cons pm_int (pm_tup (pma_cons (pm_str (by decide +kernel)) (pma_cons pm_int pma_nil))) pps_nil)) (pma_cons pm_newD pma_nil)))) (pma_cons (pm_df d__law_kind_put hr hgd (gl (by kernel_rfl)) (pma_cons (pm_loc 2 (by kernel_rfl) (.inl (by kernel_rfl))) (pma_cons pm_newD (pma_cons (pm_disp1 pm_int (pm_tup (pma_cons (pm_str (by decide +kernel)) (pma_cons (pm_tup pma_nil) (pma_cons pm_int pma_nil)))) (pps_cons pm_int (pm_tup (pma_cons (pm_str (by decide +kernel)) (pma_cons (pm_tup pma_nil) (pma_cons pm_int pma_nil)))) pps_nil)) pma_nil)))) (pma_cons (pm_df d__law_kind_put hr hgd (gl (by kernel_rfl)) (pma_cons (pm_loc 2 (by kernel_rfl) (.inl (by kernel_rfl))) (pma_cons (pm_loc 8 (by kernel_rfl) (.inl (by kernel_rfl))) (pma_cons (pm_loc 9 (by kernel_rfl) (.inl (by kernel_rfl))) pma_nil)))) pma_nil))))))) (pgm_name 15 S.nd (hx := .inl (by kernel_rfl)) (hf := .inr (by kernel_rfl))) (psm_scope (psm_cons (psm_set S.nd (pm_cmp (o_eq (hu190 hr)) (pm_df d__law_anew hr hgd (gl (by kernel_rfl)) (pma_cons (pm_loc 15 (by kernel_rfl) (.inl (by kernel_rfl))) (pma_cons (pm_loc 14 (by kernel_rfl) (.inl (by kernel_rfl))) pma_nil))) (pm_df d__law_anew hr hgd (gl (by kernel_rfl)) (pma_cons (pm_loc 2 (by kernel_rfl) (.inl (by kernel_rfl))) (pma_cons (pm_loc 14 (by kernel_rfl) (.inl (by kernel_rfl))) pma_nil))) (hm := by kernel_rfl)) (hx := .inl (by kernel_rfl)) (hf := .inr (by kernel_rfl))) (psm_one (psm_if (pmt_not (pmt_val (pm_df d__law_twice hr hgd (gl (by kernel_rfl)) (pma_cons (pm_lst (pma_cons (pm_df d_are_alike_kinds hr hgd (gl (by kernel_rfl)) (pma_cons (pm_loc 2 (by kernel_rfl) (.inl (by kernel_rfl))) (pma_cons (pm_loc 15 (by kernel_rfl) (.inl (by kernel_rfl))) pma_nil))) (pma_cons (pm_dfK (ks := ["other_kind", "kind"]) (is := [1, 0]) d_are_alike_kinds hr hgd (gl (by kernel_rfl)) (fun _ _ _ _ _ _ ws hl => match ws, hl with | [_, _], _ => by kernel_rfl) (pmk_cons (pm_loc 2 (by kernel_rfl) (.inl (by kernel_rfl))) (pmk_cons (pm_loc 15 (by kernel_rfl) (.inl (by kernel_rfl))) pmk_nil)) (len_cons (len_cons len_nil))) pma_nil))) (pma_cons (pm_loc 16 (by kernel_rfl) (.inl (by kernel_rfl))) pma_nil))))) (psm_one (psm_ret pm_bl)) psm_nil))))) (psm_one (psm_if (PMW.t (pmw_or (pmt_not (pmt_val (pm_df d_are_alike_kinds hr hgd (gl (by kernel_rfl)) (pma_cons (pm_loc 2 (by kernel_rfl) (.inl (by kernel_rfl))) (pma_cons (pm_loc 13 (by kernel_rfl) (.inl (by kernel_rfl))) pma_nil))))) (pmw_or1 (pmt_neT (pm_repr hgd (hu192 hr) (gl (by kernel_rfl)) T.b_repr (pm_lst (pma_cons (pm_loc 2 (by kernel_rfl) (.inl (by kernel_rfl))) (pma_cons (pm_loc 3 (by kernel_rfl) (.inl (by kernel_rfl))) pma_nil)))) (pm_loc 4 (by kernel_rfl) (.inl (by kernel_rfl))) (hm := by kernel_rfl))))) (psm_one (psm_ret pm_bl)) psm_nil)))))))))))))))))))) (psm_one (psm_ret pm_bl)))
theorem sc__law_pot : FnScope ["script", "k", "cell"] ["script", "k"] (defScope (tp 51)) := ⟨by kernel_rfl, by kernel_rfl, by kernel_rfl, by decide +kernel, by kernel_rfl, by decide +kernel, by decide +kernel⟩
theorem ok__law_pot (T : Tops K w mg)  : Df P w K mg base "_law_pot" (tp 51) ["script", "k"] (k + 1) f__law_pot :=
  have S := sc__law_pot
  df_makes (b := b__law_pot) T.p__law_pot S (fun _ _ _ _ _ _ us hl => match us, hl with | [_, _], _ => by kernel_rfl) fun _ cdv A outer s H hr hgd => (psm_cons (psm_set S.nd (pm_ite (pmt_cmp o_lt (pm_loc 1 (by kernel_rfl) (.inl (by kernel_rfl))) (pm_lenS (gl (by kernel_rfl)) T.b_len (pm_loc 0 (by kernel_rfl) (.inl (by kernel_rfl)))) (hm := by kernel_rfl)) (pm_blt c_abs (gl (by kernel_rfl)) T.b_abs bb_abs (pma_cons (pm_ixS (pm_loc 0 (by kernel_rfl) (.inl (by kernel_rfl))) (pm_loc 1 (by kernel_rfl) (.inl (by kernel_rfl)))) pma_nil)) (pm_bin o_add (pm_bin o_mul pm_int (pm_loc 1 (by kernel_rfl) (.inl (by kernel_rfl)))) pm_int)) (hx := .inl (by kernel_rfl)) (hf := .inr (by kernel_rfl))) (psm_one (psm_ret (pm_new (pma_cons (pm_blt (c_max2 (by kernel_rfl)) (gl (by kernel_rfl)) T.b_max bb_max (pma_cons pm_int (pma_cons (pm_bin o_sub (pm_loc 2 (by kernel_rfl) (.inl (by kernel_rfl))) (pm_bin o_pow pm_int pm_int)) pma_nil))) (pma_cons (pm_bin o_add (pm_bin o_mod (pm_ty c_int (gl (by kernel_rfl)) T.b_int bb_int (pma_cons (pm_bin o_add (pm_bin o_add (pm_bin o_mul (pm_bin o_mod (pm_ty c_int (gl (by kernel_rfl)) T.b_int bb_int (pma_cons (pm_loc 2 (by kernel_rfl) (.inl (by kernel_rfl))) pma_nil)) pm_int) pm_int) (pm_bin o_mul pm_int (pm_loc 1 (by kernel_rfl) (.inl (by kernel_rfl))))) pm_int) pma_nil)) pm_int) pm_int) pma_nil))))))
theorem sc_law : FnScope ["script"] ["script"] (defScope (tp 66)) := ⟨by kernel_rfl, by kernel_rfl, by kernel_rfl, by decide +kernel, by kernel_rfl, by decide +kernel, by decide +kernel⟩
theorem ok_law (T : Tops K w mg) (d__law_right : Df P w K mg base "_law_right" (tp 65) ["pot"] k f__law_right) (d__law_pot : Df P w K mg base "_law_pot" (tp 51) ["script", "k"] k f__law_pot) : Df P w K mg base "law" (tp 66) ["script"] (k + 1) f_law :=
  have S := sc_law
  df_of (b := b_law) T.p_law S (fun _ _ _ _ _ _ us hl => match us, hl with | [_], _ => by kernel_rfl) fun _ cdv A outer s H hr hgd => (psm_one (psm_ret (pm_and (pm_df d__law_right hr hgd (gl (by kernel_rfl)) (pma_cons (pm_df d__law_pot hr hgd (gl (by kernel_rfl)) (pma_cons (pm_loc 0 (by kernel_rfl) (.inl (by kernel_rfl))) (pma_cons pm_int pma_nil))) pma_nil)) (pm_one (pm_df d__law_right hr hgd (gl (by kernel_rfl)) (pma_cons (pm_df d__law_pot hr hgd (gl (by kernel_rfl)) (pma_cons (pm_loc 0 (by kernel_rfl) (.inl (by kernel_rfl))) (pma_cons pm_int pma_nil))) pma_nil))))))
theorem rec__law_kind (T : Tops K w mg) (d__law_draw : Df P w K mg base "_law_draw" (tp 52) ["pot", "many"] k f__law_draw) (d__law_row : Df P w K mg base "_law_row" (tp 55) ["pot"] k f__law_row) : ∀ n : Nat, Df P w K mg base "_law_kind" (tp 56) ["pot", "deep"] (k + n) (f__law_kind n)
  | 0 => df_zero T.p__law_kind (fun _ _ _ _ _ _ us hl => match us, hl with | [_, _], _ => by kernel_rfl)
  | n + 1 => ok__law_kind (k := k + n) T (d__law_draw.mono (Nat.le_add_right _ _)) (d__law_row.mono (Nat.le_add_right _ _)) (rec__law_kind T d__law_draw d__law_row n)
theorem rec__law_loose (T : Tops K w mg)  : ∀ n : Nat, Df P w K mg base "_law_loose" (tp 58) ["kind"] (k + n) (f__law_loose n)
  | 0 => df_zero T.p__law_loose (fun _ _ _ _ _ _ us hl => match us, hl with | [_], _ => by kernel_rfl)
  | n + 1 => ok__law_loose (k := k + n) T  (rec__law_loose T  n)
theorem rec_come_in (T : Tops K w mg) (d_come_in_row : Df P w K mg base "come_in_row" (tp 32) ["row", "tails"] k f_come_in_row) (d_within_of : Df P w K mg base "within_of" (tp 28) ["kind"] k f_within_of) : ∀ n : Nat, Df P w K mg base "come_in" (tp 31) ["kind", "anys", "tails"] (k + n) (f_come_in n)
  | 0 => df_zero T.p_come_in (fun _ _ _ _ _ _ us hl => match us, hl with | [_, _, _], _ => by kernel_rfl)
  | n + 1 => ok_come_in (k := k + n) T (d_come_in_row.mono (Nat.le_add_right _ _)) (d_within_of.mono (Nat.le_add_right _ _)) (rec_come_in T d_come_in_row d_within_of n)
theorem rec__law_kind_led (T : Tops K w mg) (TB : LamsOk P w K mg base k tabF) (GO : DefsOk P w K mg base k gtF)  : ∀ n : Nat, Df P w K mg base "_law_kind_led" (tp 57) ["kind", "any_led", "row_led"] (k + n) (f__law_kind_led n)
  | 0 => df_zero T.p__law_kind_led (fun _ _ _ _ _ _ us hl => match us, hl with | [_, _, _], _ => by kernel_rfl)
  | n + 1 => ok__law_kind_led (k := k + n) T (TB.mono (Nat.le_add_right _ _)) (GO.mono (Nat.le_add_right _ _)) (rec__law_kind_led T TB GO n)
theorem rec_put_in (T : Tops K w mg) (d_put_in_row : Df P w K mg base "put_in_row" (tp 35) ["row", "rows"] k f_put_in_row) : ∀ n : Nat, Df P w K mg base "put_in" (tp 36) ["kind", "kinds", "rows"] (k + n) (f_put_in n)
  | 0 => df_zero T.p_put_in (fun _ _ _ _ _ _ us hl => match us, hl with | [_, _, _], _ => by kernel_rfl)
  | n + 1 => ok_put_in (k := k + n) T (d_put_in_row.mono (Nat.le_add_right _ _)) (rec_put_in T d_put_in_row n)
theorem all_ok (T : Tops K w mg) (hB : TabsBase base mg K) : Df P w K mg base "law" (tp 66) ["script"] 21 f_law := by
  have d__law_draw : Df P w K mg base "_law_draw" (tp 52) ["pot", "many"] 1 f__law_draw := ok__law_draw (k := 0) T 
  have d__law_pick : Df P w K mg base "_law_pick" (tp 53) ["pot", "some"] 2 f__law_pick := ok__law_pick (k := 1) T (d__law_draw.mono (by decide))
  have d__law_row : Df P w K mg base "_law_row" (tp 55) ["pot"] 3 f__law_row := ok__law_row (k := 2) T (d__law_pick.mono (by decide))
  have d__law_kind : Df P w K mg base "_law_kind" (tp 56) ["pot", "deep"] 9 (f__law_kind 6) := by
    have q := rec__law_kind (P := P) (base := base) (k := 3) T (d__law_draw.mono (by decide)) (d__law_row.mono (by decide)) 6
    exact q.mono (by decide)
  have d__law_loose : Df P w K mg base "_law_loose" (tp 58) ["kind"] 12 (f__law_loose 12) := by
    have q := rec__law_loose (P := P) (base := base) (k := 0) T  12
    exact q.mono (by decide)
  have d_has_many : Df P w K mg base "has_many" (tp 24) ["value", "many"] 1 f_has_many := ok_has_many (k := 0) T 
  have d_is_integer : Df P w K mg base "is_integer" (tp 7) ["value"] 1 f_is_integer := ok_is_integer (k := 0) T 
  have d_is_count : Df P w K mg base "is_count" (tp 8) ["value"] 2 f_is_count := ok_is_count (k := 1) T (d_is_integer.mono (by decide))
  have d_has_signs : Df P w K mg base "has_signs" (tp 14) ["value", "first", "others"] 1 f_has_signs := ok_has_signs (k := 0) T 
  have d_is_ask_name : Df P w K mg base "is_ask_name" (tp 15) ["value"] 2 f_is_ask_name := ok_is_ask_name (k := 1) T (d_has_signs.mono (by decide))
  have d_are_names : Df P w K mg base "are_names" (tp 25) ["value"] 3 f_are_names := ok_are_names (k := 2) T (d_is_ask_name.mono (by decide))
  have d_is_row_of : Df P w K mg base "is_row_of" (tp 26) ["value"] 4 f_is_row_of := ok_is_row_of (k := 3) T (d_has_many.mono (by decide)) (d_is_count.mono (by decide)) (d_are_names.mono (by decide))
  have d_is_row : Df P w K mg base "is_row" (tp 42) ["value"] 5 f_is_row := ok_is_row (k := 4) T (d_is_row_of.mono (by decide))
  have d_is_kind_of : Df P w K mg base "is_kind_of" (tp 27) ["value"] 5 f_is_kind_of := ok_is_kind_of (k := 4) T (d_is_row_of.mono (by decide)) (d_is_count.mono (by decide))
  have d_is_kind : Df P w K mg base "is_kind" (tp 41) ["value"] 6 f_is_kind := ok_is_kind (k := 5) T (d_is_kind_of.mono (by decide))
  have d__law_twice : Df P w K mg base "_law_twice" (tp 64) ["one", "due"] 1 f__law_twice := ok__law_twice (k := 0) T 
  have d_come_in_row : Df P w K mg base "come_in_row" (tp 32) ["row", "tails"] 1 f_come_in_row := ok_come_in_row (k := 0) T 
  have d_within_of : Df P w K mg base "within_of" (tp 28) ["kind"] 1 f_within_of := ok_within_of (k := 0) T 
  have d_come_in : Df P w K mg base "come_in" (tp 31) ["kind", "anys", "tails"] 13 (f_come_in 12) := by
    have q := rec_come_in (P := P) (base := base) (k := 1) T (d_come_in_row.mono (by decide)) (d_within_of.mono (by decide)) 12
    exact q.mono (by decide)
  have d_loose_of : Df P w K mg base "loose_of" (tp 33) ["kind"] 14 f_loose_of := ok_loose_of (k := 13) T (d_come_in.mono (by decide))
  have d_want_kind : Df P w K mg base "want_kind" (tp 38) ["value"] 6 f_want_kind := ok_want_kind (k := 5) T (d_is_kind_of.mono (by decide))
  have d_loose : Df P w K mg base "loose" (tp 44) ["kind"] 15 f_loose := ok_loose (k := 14) T (d_loose_of.mono (by decide)) (d_want_kind.mono (by decide))
  have d_loose_of__u : Df P w K mg base "loose_of" (tp 33) ["kind"] 14 f_loose_of__u := ok_loose_of__u (k := 13) T (d_come_in.mono (by decide))
  have d_loose__u : Df P w K mg base "loose" (tp 44) ["kind"] 15 f_loose__u := ok_loose__u (k := 14) T (d_loose_of__u.mono (by decide)) (d_want_kind.mono (by decide))
  have d_want_row : Df P w K mg base "want_row" (tp 39) ["value"] 5 f_want_row := ok_want_row (k := 4) T (d_is_row_of.mono (by decide))
  have d_more_of : Df P w K mg base "more_of" (tp 34) ["row", "names"] 1 f_more_of := ok_more_of (k := 0) T 
  have d_row_more : Df P w K mg base "row_more" (tp 45) ["row", "names"] 6 f_row_more := ok_row_more (k := 5) T (d_want_row.mono (by decide)) (d_are_names.mono (by decide)) (d_more_of.mono (by decide))
  have d__law_putting : Df P w K mg base "_law_putting" (tp 63) ["pot"] 10 f__law_putting := ok__law_putting (k := 9) T (d__law_draw.mono (by decide)) (d__law_kind.mono (by decide)) (d__law_row.mono (by decide))
  have d__law_row_anew : Df P w K mg base "_law_row_anew" (tp 60) ["row", "tails"] 1 f__law_row_anew := ok__law_row_anew (k := 0) T 
  have d__law_row_put : Df P w K mg base "_law_row_put" (tp 61) ["row", "rows"] 1 f__law_row_put := ok__law_row_put (k := 0) T 
  have TB : LamsOk P w K mg base 6 tabF := lams_ok (k := 5) T (d__law_row_anew.mono (by decide)) (d__law_row_put.mono (by decide))
  have GO : DefsOk P w K mg base 6 gtF := defs_ok (k := 6) T (d_is_kind_of.mono (by decide)) (d_is_row_of.mono (by decide))
  have d__law_kind_led : Df P w K mg base "_law_kind_led" (tp 57) ["kind", "any_led", "row_led"] 18 (f__law_kind_led 12) := by
    have q := rec__law_kind_led (P := P) (base := base) (k := 6) T (TB.mono (by decide)) (GO.mono (by decide)) 12
    exact q.mono (by decide)
  have d__law_kind_put : Df P w K mg base "_law_kind_put" (tp 62) ["kind", "kinds", "rows"] 19 f__law_kind_put := ok__law_kind_put (k := 18) T hB (d__law_kind_led.mono (by decide))
  have d_are_put_by : Df P w K mg base "are_put_by" (tp 29) ["value", "is_one"] 7 f_are_put_by := ok_are_put_by (k := 6) T (TB.mono (by decide)) (GO.mono (by decide)) (d_has_many.mono (by decide)) (d_is_count.mono (by decide))
  have d_is_putting_of : Df P w K mg base "is_putting_of" (tp 30) ["value"] 8 f_is_putting_of := ok_is_putting_of (k := 7) T (d_are_put_by.mono (by decide)) (d_has_many.mono (by decide))
  have d_want_putting : Df P w K mg base "want_putting" (tp 40) ["value"] 9 f_want_putting := ok_want_putting (k := 8) T (d_is_putting_of.mono (by decide))
  have d_put_in_row : Df P w K mg base "put_in_row" (tp 35) ["row", "rows"] 2 f_put_in_row := ok_put_in_row (k := 1) T (d_more_of.mono (by decide))
  have d_put_in : Df P w K mg base "put_in" (tp 36) ["kind", "kinds", "rows"] 14 (f_put_in 12) := by
    have q := rec_put_in (P := P) (base := base) (k := 2) T (d_put_in_row.mono (by decide)) 12
    exact q.mono (by decide)
  have d_kind_put : Df P w K mg base "kind_put" (tp 46) ["kind", "putting"] 15 f_kind_put := ok_kind_put (k := 14) T (d_want_kind.mono (by decide)) (d_want_putting.mono (by decide)) (d_put_in.mono (by decide))
  have d_is_putting : Df P w K mg base "is_putting" (tp 43) ["value"] 9 f_is_putting := ok_is_putting (k := 8) T (d_is_putting_of.mono (by decide))
  have d_row_put : Df P w K mg base "row_put" (tp 47) ["row", "putting"] 10 f_row_put := ok_row_put (k := 9) T (d_want_row.mono (by decide)) (d_want_putting.mono (by decide)) (d_put_in_row.mono (by decide))
  have d__law_anew : Df P w K mg base "_law_anew" (tp 59) ["kind", "row"] 19 f__law_anew := ok__law_anew (k := 18) T hB (d__law_loose.mono (by decide)) (d__law_row_anew.mono (by decide)) (d__law_kind_led.mono (by decide))
  have d_named_anew_of : Df P w K mg base "named_anew_of" (tp 37) ["kind", "row"] 15 f_named_anew_of := ok_named_anew_of (k := 14) T (d_come_in.mono (by decide)) (d_come_in_row.mono (by decide)) (d_put_in_row.mono (by decide)) (d_put_in.mono (by decide))
  have d_named_anew : Df P w K mg base "named_anew" (tp 48) ["kind", "row"] 16 f_named_anew := ok_named_anew (k := 15) T (d_want_kind.mono (by decide)) (d_named_anew_of.mono (by decide)) (d_want_row.mono (by decide))
  have d__law_some : Df P w K mg base "_law_some" (tp 54) ["pot", "things", "many"] 2 f__law_some := ok__law_some (k := 1) T (d__law_draw.mono (by decide))
  have d_are_alike_kinds : Df P w K mg base "are_alike_kinds" (tp 49) ["kind", "other_kind"] 16 f_are_alike_kinds := ok_are_alike_kinds (k := 15) T (d_want_kind.mono (by decide)) (d_named_anew_of.mono (by decide))
  have d__law_right : Df P w K mg base "_law_right" (tp 65) ["pot"] 20 f__law_right := ok__law_right (k := 19) T (d__law_row.mono (by decide)) (d__law_kind.mono (by decide)) (d__law_loose.mono (by decide)) (d_is_row.mono (by decide)) (d_is_kind.mono (by decide)) (d__law_twice.mono (by decide)) (d_loose.mono (by decide)) (d_loose__u.mono (by decide)) (d__law_draw.mono (by decide)) (d__law_pick.mono (by decide)) (d_row_more.mono (by decide)) (d__law_putting.mono (by decide)) (d__law_kind_put.mono (by decide)) (d_kind_put.mono (by decide)) (d_is_putting.mono (by decide)) (d__law_row_put.mono (by decide)) (d_row_put.mono (by decide)) (d__law_anew.mono (by decide)) (d_named_anew.mono (by decide)) (d__law_some.mono (by decide)) (d_are_alike_kinds.mono (by decide))
  have d__law_pot : Df P w K mg base "_law_pot" (tp 51) ["script", "k"] 1 f__law_pot := ok__law_pot (k := 0) T 
  have d_law : Df P w K mg base "law" (tp 66) ["script"] 21 f_law := ok_law (k := 20) T (d__law_right.mono (by decide)) (d__law_pot.mono (by decide))
  exact d_law
end
-- level of law: 21
end Mn.k20

/-! MnEv: evaluating the functions of the defs by rewriting; loops and comprehensions by rules. -/
namespace Mn
open PySem PySem.Spec PyProof.Rows L2
@[simp] theorem ev_sSeq (a b : Sts) : ∀ L S, sSeq a b L S = (match a L S with
  | some (.nx L1 S1) => b L1 S1
  | r => r) := fun _ _ => rfl
@[simp] theorem ev_sIf (c : Sem) (a b : Sts) : ∀ L S, sIf c a b L S = (match c L S with
  | some (.d (.bool true), S1) => a L S1
  | some (.d (.bool false), S1) => b L S1
  | _ => none) := fun _ _ => rfl
@[simp] theorem ev_sSet (i : Nat) (m : Sem) : ∀ L S, sSet i m L S = (match m L S with
  | some (x, S1) => some (.nx (L.set i (some x)) S1)
  | none => none) := fun _ _ => rfl
@[simp] theorem ev_sRet (m : Sem) : ∀ L S, sRet m L S = (match m L S with
  | some (x, S1) => some (.rt x S1)
  | none => none) := fun _ _ => rfl
@[simp] theorem ev_sDrop (m : Sem) : ∀ L S, sDrop m L S = (match m L S with
  | some (_, S1) => some (.nx L S1)
  | none => none) := fun _ _ => rfl
@[simp] theorem ev_sNil : ∀ L S, sNil  L S = (some (.nx L S)) := fun _ _ => rfl
@[simp] theorem ev_sPar (i j : Nat) (r : Sems) : ∀ L S, sPar i j r L S = (match r L S with
  | some ([x, y], S1) => some (.nx ((L.set i (some x)).set j (some y)) S1)
  | _ => none) := fun _ _ => rfl
@[simp] theorem ev_sAsg (m : Sem) (g : Tg) : ∀ L S, sAsg m g L S = (match m L S with
  | some (x, S1) => match g x L S1 with
    | some (L2, S2) => some (.nx L2 S2)
    | none => none
  | none => none) := fun _ _ => rfl
@[simp] theorem ev_tgNil : ∀ ts L S, tgNil  ts L S = (match ts with
  | [] => some (L, S)
  | _ => none) := fun _ _ _ => rfl
@[simp] theorem ev_tName (i : Nat) : ∀ x L S, tName i x L S = (some (L.set i (some x), S)) := fun _ _ _ => rfl
@[simp] theorem ev_eBin (f : T → T → Option T) (a b : Sem) : ∀ L S, eBin f a b L S = (match a L S with
  | some (x, S1) => match b L S1 with
    | some (y, S2) => match deref S2 x, deref S2 y with
      | some t, some u => match f t u with
        | some z => some (.d z, S2)
        | none => none
      | _, _ => none
    | none => none
  | none => none) := fun _ _ => rfl
@[simp] theorem ev_eLoc (i : Nat) : ∀ L S, eLoc i L S = (match L[i]? with
  | some (some x) => some (x, S)
  | _ => none) := fun _ _ => rfl
@[simp] theorem ev_eC (t : T) : ∀ L S, eC t L S = (some (.d t, S)) := fun _ _ => rfl
@[simp] theorem ev_eTup (r : Sems) : ∀ L S, eTup r L S = (match r L S with
  | some (xs, S1) => match datas xs with
    | some ts => if ts.length ≤ 100000 then some (.d (.tuple ts), S1) else none
    | none => none
  | none => none) := fun _ _ => rfl
@[simp] theorem ev_eLst (r : Sems) : ∀ L S, eLst r L S = (match r L S with
  | some (xs, S1) => match datas xs with
    | some ts => if ts.length ≤ 100000 then some (.d (.list ts), S1) else none
    | none => none
  | none => none) := fun _ _ => rfl
@[simp] theorem ev_eNew (r : Sems) : ∀ L S, eNew r L S = (match r L S with
  | some (xs, S1) => match datas xs with
    | some ts => if ts.length ≤ 100000 then some (.r S1.length, S1 ++ [.lst ts]) else none
    | none => none
  | none => none) := fun _ _ => rfl
@[simp] theorem ev_aCons (a : Sem) (r : Sems) : ∀ L S, aCons a r L S = (match a L S with
  | some (x, S1) => match r L S1 with
    | some (xs, S2) => some (x :: xs, S2)
    | none => none
  | none => none) := fun _ _ => rfl
@[simp] theorem ev_aNil : ∀ L S, aNil L S = (some ([], S)) := fun _ _ => rfl
@[simp] theorem ev_eCall (F : Fn) (r : Sems) : ∀ L S, eCall F r L S = (match r L S with
  | some (xs, S1) => F xs S1
  | none => none) := fun _ _ => rfl
@[simp] theorem ev_eCallK0 (F : Fn) (is : List Nat) (rk : Sems) : ∀ L S, eCallK0 F is rk L S = (match rk L S with
  | some (zs, S2) => F (pick is zs) S2
  | none => none) := fun _ _ => rfl
@[simp] theorem ev_eAnd (a b : Sem) : ∀ L S, eAnd a b L S = (match a L S with
  | some (.d (.bool true), S1) => b L S1
  | some (.d (.bool false), S1) => some (.d (.bool false), S1)
  | _ => none) := fun _ _ => rfl
@[simp] theorem ev_eOr (a b : Sem) : ∀ L S, eOr a b L S = (match a L S with
  | some (.d (.bool false), S1) => b L S1
  | some (.d (.bool true), S1) => some (.d (.bool true), S1)
  | _ => none) := fun _ _ => rfl
@[simp] theorem ev_eNot (a : Sem) : ∀ L S, eNot a L S = (match a L S with
  | some (.d (.bool b), S1) => some (.d (.bool (!b)), S1)
  | _ => none) := fun _ _ => rfl
@[simp] theorem ev_eIte (c a b : Sem) : ∀ L S, eIte c a b L S = (match c L S with
  | some (.d (.bool true), S1) => a L S1
  | some (.d (.bool false), S1) => b L S1
  | _ => none) := fun _ _ => rfl
@[simp] theorem ev_eNeg (a : Sem) : ∀ L S, eNeg a L S = (match a L S with
  | some (.d (.int i), S1) => some (.d (.int (-i)), S1)
  | _ => none) := fun _ _ => rfl
@[simp] theorem ev_eSl (a : Sem) (lo hi : Option Sem) : ∀ L S, eSl a lo hi L S = (match a L S with
  | some (x, S1) => match ePart lo L S1 with
    | some (l, S2) => match ePart hi L S2 with
      | some (h, S3) => match deref S3 x with
        | some t => match fSl t l h with
          | some z => some (.d z, S3)
          | none => none
        | none => none
      | none => none
    | none => none
  | none => none) := fun _ _ => rfl
@[simp] theorem ev_eBlt (F : List T → Option T) (r : Sems) : ∀ L S, eBlt F r L S = (match r L S with
  | some (xs, S1) => (match derefs S1 xs with
    | some ts => (match F ts with
      | some z => some (.d z, S1)
      | none => none)
    | none => none)
  | none => none) := fun _ _ => rfl
@[simp] theorem ev_runT (np n : Nat) (b : Sts) : ∀ xs S, runT np n b xs S = (match run np n b xs S with
  | some (x, S') => fin S.length x S'
  | none => none) := fun _ _ => rfl
@[simp] theorem ev_runR (np n : Nat) (b : Sts) : ∀ xs S, runR np n b xs S = (match run np n b xs S with
  | some (x, S') => finR S.length x S'
  | none => none) := fun _ _ => rfl
@[simp] theorem ev_run (np n : Nat) (b : Sts) : ∀ xs S, run np n b xs S = (if xs.length = np then (match b (startL n xs) S with
  | some (.nx _ S') => some (.d .none, S')
  | some (.rt x S') => some (x, S')
  | _ => none) else none) := fun _ _ => rfl
@[simp] theorem ev_eCallV (tab : Nat → List Cap → Fn) (gt : Str → Fn) (i : Nat) (m : Sems) : ∀ L S, eCallV tab gt i m L S = (match L[i]? with
  | some (some (.f n cs)) => (match m L S with
    | some (xs, S1) => if xs.all noF = true then tab n cs xs S1 else none
    | none => none)
  | some (some (.g x)) => (match m L S with
    | some (xs, S1) => gt x xs S1
    | none => none)
  | _ => none) := fun _ _ => rfl
@[simp] theorem ev_eCallF (F : Fn) (m : Sems) : ∀ L S, eCallF F m L S = (match m L S with
  | some (xs, S1) => (match F xs S1 with
    | some (y, S2) => if noF y = true then some (y, S2) else none
    | none => none)
  | none => none) := fun _ _ => rfl
@[simp] theorem ev_aLam (i : Nat) (js : List Nat) (r : Sems) : ∀ L S, aLam i js r L S = (match capsAt L js with
  | some cs => (match r L S with
    | some (xs, S1) => some (.f i cs :: xs, S1)
    | none => none)
  | none => none) := fun _ _ => rfl
@[simp] theorem ev_lamF (np n : Nat) (m : Sem) : ∀ cs xs S, lamF np n m cs xs S = (if xs.length = np then m (xs.map some ++ (cs.map (fun c => some c.vl) ++ List.replicate (n - xs.length - cs.length) none)) S else none) := fun _ _ _ => rfl
@[simp] theorem ev_eDGet2 (o k x : Sem) : ∀ L S, eDGet2 o k x L S = (match o L S with
  | some (.r n, S1) => (match S1[n]? with
    | some (.dct _) => (match k L S1 with
      | some (.d kt, S2) => (match keyT kt with
        | some key => (match x L S2 with
          | some (.d xt, S3) => (match S3[n]? with
            | some (.dct kts) => some (.d ((valT kts key).getD xt), S3)
            | _ => none)
          | _ => none)
        | none => none)
      | _ => none)
    | _ => none)
  | _ => none) := fun _ _ => rfl
@[simp] theorem ev_eDSub (o k : Sem) : ∀ L S, eDSub o k L S = (match o L S with
  | some (.r n, S1) => (match k L S1 with
    | some (.d kt, S2) => (match keyT kt, S2[n]? with
      | some key, some (.dct kts) => (match valT kts key with
        | some t => some (.d t, S2)
        | none => none)
      | _, _ => none)
    | _ => none)
  | _ => none) := fun _ _ => rfl
@[simp] theorem ev_eDIn (b : Bool) (k o : Sem) : ∀ L S, eDIn b k o L S = (match k L S with
  | some (.d kt, S1) => (match o L S1 with
    | some (.r n, S2) => (match S2[n]? with
      | some (.dct kts) => (match keyT kt with
        | some key => some (.d (.bool ((valT kts key).isSome == b)), S2)
        | none => (match kt with
          | .none => some (.d (.bool (!b)), S2)
          | _ => none))
      | _ => none)
    | _ => none)
  | _ => none) := fun _ _ => rfl
@[simp] theorem ev_eDSetd (o k x : Sem) : ∀ L S, eDSetd o k x L S = (match o L S with
  | some (.r n, S1) => (match S1[n]? with
    | some (.dct _) => (match k L S1 with
      | some (.d kt, S2) => (match keyT kt with
        | some key => (match x L S2 with
          | some (.d xt, S3) => (match S3[n]? with
            | some (.dct kts) => if kts.length < 100000 then (match valT kts key with
              | some t => some (.d t, S3)
              | none => some (.d xt, S3.set n (.dct (kts ++ [(key, xt)])))) else none
            | _ => none)
          | _ => none)
        | none => none)
      | _ => none)
    | _ => none)
  | _ => none) := fun _ _ => rfl
@[simp] theorem ev_eLenD (a : Sem) : ∀ L S, eLenD a L S = (match a L S with
  | some (.r n, S1) => (match S1[n]? with
    | some (.dct kts) => some (.d (.int (kts.length : Nat)), S1)
    | _ => none)
  | _ => none) := fun _ _ => rfl
@[simp] theorem ev_eListD (a : Sem) : ∀ L S, eListD a L S = (match a L S with
  | some (.r n, S1) => (match S1[n]? with
    | some (.dct kts) => if kts.all (fun p => keyOk p.1) = true then some (.d (.list (kts.map fun p => keyD p.1)), S1) else none
    | _ => none)
  | _ => none) := fun _ _ => rfl
@[simp] theorem ev_eListDN (a : Sem) : ∀ L S, eListDN a L S = (match a L S with
  | some (.r n, S1) => (match S1[n]? with
    | some (.dct kts) => if kts.all (fun p => keyOk p.1) = true then some (.r S1.length, S1 ++ [.lst (kts.map fun p => keyD p.1)]) else none
    | _ => none)
  | _ => none) := fun _ _ => rfl
@[simp] theorem ev_eSortDI (a : Sem) : ∀ L S, eSortDI a L S = (match a L S with
  | some (.r n, S1) => (match S1[n]? with
    | some (.dct kts) => (match keysI kts with
      | some xs => if xs.length < 64 then some (.d (.list ((sortI xs).map PyData.int)), S1) else none
      | none => none)
    | _ => none)
  | _ => none) := fun _ _ => rfl
@[simp] theorem ev_eDictP (m : Sem) : ∀ L S, eDictP m L S = (match m L S with
  | some (.d (.list ts), S1) => (match pairsKv ts with
    | some kts => some (.r S1.length, S1 ++ [.dct (mergeT [] kts)])
    | none => none)
  | _ => none) := fun _ _ => rfl
@[simp] theorem ev_eDictT (m : Sem) : ∀ L S, eDictT m L S = (match m L S with
  | some (.p ts, S1) => (match pairsKv ts with
    | some kts => some (.r S1.length, S1 ++ [.dct (mergeT [] kts)])
    | none => none)
  | _ => none) := fun _ _ => rfl
@[simp] theorem ev_eTupP (m : Sem) : ∀ L S, eTupP m L S = (match m L S with
  | some (.d (.list ts), S1) => some (.p ts, S1)
  | _ => none) := fun _ _ => rfl
@[simp] theorem ev_eTupU (r : Sems) : ∀ L S, eTupU r L S = (match r L S with
  | some (xs, S1) => (match capsOf xs with
    | some cs => if cs.length ≤ 100000 then some (.u cs, S1) else none
    | none => none)
  | none => none) := fun _ _ => rfl
@[simp] theorem ev_eTupQ (r : Sems) : ∀ L S, eTupQ r L S = (match r L S with
  | some (xs, S1) => (match plains xs with
    | some tss => if tss.length ≤ 100000 then some (.q tss, S1) else none
    | none => none)
  | none => none) := fun _ _ => rfl
@[simp] theorem ev_eIxQ (m b : Sem) : ∀ L S, eIxQ m b L S = (match m L S with
  | some (.q tss, S1) => (match b L S1 with
    | some (.d (.int i), S2) => (match L2.atI tss i with
      | some ts => some (.p ts, S2)
      | none => none)
    | _ => none)
  | _ => none) := fun _ _ => rfl
@[simp] theorem ev_eIxU (m b : Sem) : ∀ L S, eIxU m b L S = (match m L S with
  | some (.u cs, S1) => (match b L S1 with
    | some (.d (.int i), S2) => (match L2.atI cs i with
      | some c => some (c.vl, S2)
      | none => none)
    | _ => none)
  | _ => none) := fun _ _ => rfl
@[simp] theorem ev_eTree (m : Sem) : ∀ L S, eTree m L S = (match m L S with
  | some (.d t, S1) => some (.d t, S1)
  | some (.p ts, S1) => some (.d (.tuple ts), S1)
  | some (.q tss, S1) => some (.d (.tuple (tss.map .tuple)), S1)
  | _ => none) := fun _ _ => rfl
@[simp] theorem ev_tgU (is : List Nat) : ∀ x L S, tgU is x L S = (match x with
  | .u cs => (match setU is cs L with
    | some L1 => if cs.length = is.length then some (L1, S) else none
    | none => none)
  | _ => none) := fun _ _ _ => rfl
@[simp] theorem ev_eDisp1 (mk mv : Sem) : ∀ L S, eDisp1 mk mv L S = (match mk L (S ++ [.dct []]) with
  | some (.d kt, S1) => (match mv L S1 with
    | some (.d t, S2) => (match keyT kt with
      | some key => (match S2[S.length]? with
        | some (.dct []) => some (.r S.length, S2.set S.length (.dct [(key, t)]))
        | _ => none)
      | none => none)
    | _ => none)
  | _ => none) := fun _ _ => rfl
@[simp] theorem ev_eNewD : ∀ L S, eNewD  L S = (some (.r S.length, S ++ [.dct []])) := fun _ _ => rfl
@[simp] theorem ev_eSortT (m : Sem) : ∀ L S, eSortT m L S = (match m L S with
  | some (.d (.list ts), S1) => (match strsT ts with
    | some xs => if xs.length < 64 then some (.d (.list ((sortS xs).map PyData.str)), S1) else none
    | none => none)
  | some (.d (.tuple ts), S1) => (match strsT ts with
    | some xs => if xs.length < 64 then some (.d (.list ((sortS xs).map PyData.str)), S1) else none
    | none => none)
  | _ => none) := fun _ _ => rfl
@[simp] theorem ev_eIndex (o a : Sem) : ∀ L S, eIndex o a L S = (match o L S with
  | some (.d (.list ts), S1) => (match a L S1 with
    | some (.d (.int i), S2) => if ts.all isIntT = true then (match idxI i ts with
      | some j => some (.d (.int (j : Nat)), S2)
      | none => none) else none
    | _ => none)
  | _ => none) := fun _ _ => rfl
@[simp] theorem ev_eListRng (a : Sem) : ∀ L S, eListRng a L S = (match a L S with
  | some (.d (.int n), S1) => if 0 ≤ n ∧ n ≤ 1000 then some (.d (.list (intsT n.toNat)), S1) else none
  | _ => none) := fun _ _ => rfl
@[simp] theorem ev_eListN (m : Sem) : ∀ L S, eListN m L S = (match m L S with
  | some (.d (.list ts), S1) => some (.r S1.length, S1 ++ [.lst ts])
  | some (.d (.tuple ts), S1) => some (.r S1.length, S1 ++ [.lst ts])
  | _ => none) := fun _ _ => rfl
@[simp] theorem ev_eG (x : Str) : ∀ L S, eG x L S = (some (.g x, S)) := fun _ _ => rfl
@[simp] theorem ev_eApp (o a : Sem) : ∀ L S, eApp o a L S = (match eCell o a L S with
  | some (n, .d t, ts, S2) => if ts.length < 100000 then some (.d .none, S2.set n (.lst (ts ++ [t]))) else none
  | _ => none) := fun _ _ => rfl
@[simp] theorem ev_eExt (o a : Sem) : ∀ L S, eExt o a L S = (match eCell o a L S with
  | some (n, x, ts, S2) => (match deref S2 x with
    | some (.list us) => if ts.length + us.length ≤ 100000 then some (.d .none, S2.set n (.lst (ts ++ us))) else none
    | some (.tuple us) => if ts.length + us.length ≤ 100000 then some (.d .none, S2.set n (.lst (ts ++ us))) else none
    | _ => none)
  | none => none) := fun _ _ => rfl
@[simp] theorem ev_ePop (o : Sem) : ∀ L S, ePop o L S = (match o L S with
  | some (.r n, S1) => (match S1[n]? with
    | some (.lst ts) => (match ts[ts.length - 1]? with
      | some t => some (.d t, S1.set n (.lst ts.dropLast))
      | none => none)
    | _ => none)
  | _ => none) := fun _ _ => rfl
@[simp] theorem ev_ePopAt (o a : Sem) : ∀ L S, ePopAt o a L S = (match eCell o a L S with
  | some (n, .d (.int i), ts, S2) => if 0 ≤ i ∧ i < 4294967296 then (match ts[i.toNat]? with
    | some t => some (.d t, S2.set n (.lst (ts.eraseIdx i.toNat)))
    | none => none) else none
  | _ => none) := fun _ _ => rfl
@[simp] theorem ev_eRepr (a : Sem) : ∀ L S, eRepr a L S = (match a L S with
  | some (x, S1) => (match deref S1 x with
    | some t => if seqT t = true ∧ t.showable = true ∧ t.depth ≤ 190 ∧ t.shown.length ≤ 100000 then some (.t t.shown, S1) else none
    | none => none)
  | none => none) := fun _ _ => rfl
@[simp] theorem ev_eEqT (c : Bool) (a b : Sem) : ∀ L S, eEqT c a b L S = (match a L S with
  | some (.t x, S1) => (match b L S1 with
    | some (.t y, S2) => some (.d (.bool (if x = y then c else !c)), S2)
    | _ => none)
  | _ => none) := fun _ _ => rfl
@[simp] theorem ev_eIxS (a b : Sem) : ∀ L S, eIxS a b L S = (match a L S with
  | some (.s ns, S1) => (match b L S1 with
    | some (.d (.int i), S2) => (match L2.atI ns i with
      | some n => some (.d (.int n), S2)
      | none => none)
    | _ => none)
  | _ => none) := fun _ _ => rfl
@[simp] theorem ev_eLenS (a : Sem) : ∀ L S, eLenS a L S = (match a L S with
  | some (.s ns, S1) => some (.d (.int (ns.length : Nat)), S1)
  | _ => none) := fun _ _ => rfl
@[simp] theorem ev_sDropCut (m : Sem) : ∀ L S, sDropCut m L S = (match m L S with
  | some (_, S1) => some (.nx L (S1.take S.length))
  | none => none) := fun _ _ => rfl
@[simp] theorem ev_sScope (b : Sts) : ∀ L S, sScope b L S = (match b L S with
  | some (.nx L1 S1) => some (.nx (L1.map (wipeV S.length)) (S1.take S.length))
  | some (.ct L1 S1) => some (.ct (L1.map (wipeV S.length)) (S1.take S.length))
  | some (.bk L1 S1) => some (.bk (L1.map (wipeV S.length)) (S1.take S.length))
  | r => r) := fun _ _ => rfl
@[simp] theorem ev_sAug (i : Nat) (f : T → T → Option T) (m : Sem) : ∀ L S, sAug i f m L S = (match L[i]? with
  | some (some (.d t)) => match m L S with
    | some (.d u, S1) => match f t u with
      | some z => some (.nx (L.set i (some (.d z))) S1)
      | none => none
    | _ => none
  | _ => none) := fun _ _ => rfl
@[simp] theorem ev_iTupM (m : Sem) : ∀ L S, iTupM m L S = (match m L S with
  | some (.d (.tuple ts), S1) => some (ts, S1)
  | _ => none) := fun _ _ => rfl
@[simp] theorem ev_iLstM (m : Sem) : ∀ L S, iLstM m L S = (match m L S with
  | some (.d (.list ts), S1) => some (ts, S1)
  | _ => none) := fun _ _ => rfl
@[simp] theorem ev_iRngM (r : Sems) : ∀ L S, iRngM r L S = (match r L S with
  | some ([.d (.int n)], S1) => if -100000000 < n ∧ n < 100000000 then some (intsT n.toNat, S1) else none
  | _ => none) := fun _ _ => rfl
@[simp] theorem ev_iZipM (r : Sems) : ∀ L S, iZipM r L S = (match r L S with
  | some ([.d (.tuple ts), .d (.tuple us)], S1) => some (zipT ts us, S1)
  | _ => none) := fun _ _ => rfl
@[simp] theorem ev_iStrM (m : Sem) : ∀ L S, iStrM m L S = (match m L S with
  | some (.d (.str x), S1) => some (signsT x, S1)
  | _ => none) := fun _ _ => rfl
@[simp] theorem ev_eNever : ∀ L S, eNever L S = (none) := fun _ _ => rfl
@[simp] theorem ev_sNever : ∀ L S, sNever L S = (none) := fun _ _ => rfl
@[simp] theorem ev_eIsi (c : String) (m : Sem) : ∀ L S, eIsi c m L S = (match m L S with
  | some (.d t, S1) => some (.d (.bool (isiT c t)), S1)
  | _ => none) := fun _ _ => rfl
@[simp] theorem ev_tSubL (o i : Sem) : ∀ x L S, tSubL o i x L S = (match x with
  | .d t => match o L S with
    | some (.r n, S1) => match i L S1 with
      | some (.d (.int k), S2) => match S2[n]? with
        | some (.lst ts) => match ixN ts.length k with
          | some j => some (L, S2.set n (.lst (ts.set j t)))
          | none => none
        | _ => none
      | _ => none
    | _ => none
  | _ => none) := fun _ _ _ => rfl
@[simp] theorem ev_tTuple (n : Nat) (r : List T → Lc → So → Option (Lc × So)) (ts : List T) (L : Lc) (S : So) : tTuple n r (.d (.tuple ts)) L S = if ts.length = n then r ts L S else none := rfl
@[simp] theorem ev_tgCons (g : Tg) (r : List T → Lc → So → Option (Lc × So)) (t : T) (us : List T) (L : Lc) (S : So) : tgCons g r (t :: us) L S = (match g (.d t) L S with
    | some (L1, S1) => r us L1 S1
    | none => none) := rfl
@[simp] theorem ev_eCell (o a : Sem) (L : Lc) (S : So) : eCell o a L S = (match o L S with
  | some (.r n, S1) => (match S1[n]? with
    | some (.lst _) => (match a L S1 with
      | some (x, S2) => (match S2[n]? with
        | some (.lst ts) => some (n, x, ts, S2)
        | _ => none)
      | none => none)
    | _ => none)
  | _ => none) := rfl
@[simp] theorem ev_pick0 {α : Type} (xs : List α) : pick [] xs = [] := rfl
@[simp] theorem ev_pick1 {α : Type} (i : Nat) (is : List Nat) (xs : List α) : pick (i :: is) xs = (match xs[i]? with
  | some x => x :: pick is xs
  | none => pick is xs) := by
  unfold pick
  rw [List.filterMap_cons]
  cases xs[i]? <;> rfl
@[simp] theorem ev_startL (n : Nat) (xs : List Vl) : startL n xs = xs.map some ++ List.replicate (n - xs.length) none := rfl
section
variable {S : So} {c d c' : Cell} {r : So} {n : Nat}
@[simp] theorem ev_de_d (t : T) : deref S (.d t) = some t := rfl
@[simp] theorem ev_de_p (t : List T) : deref S (.p t) = some (.tuple t) := rfl
@[simp] theorem ev_de_q (t : List (List T)) : deref S (.q t) = some (.tuple (t.map .tuple)) := rfl
@[simp] theorem ev_de_r (n : Nat) : deref S (.r n) = (match S[n]? with
    | some (.lst ts) => some (.list ts)
    | _ => none) := rfl
@[simp] theorem ev_ds0 : derefs S [] = some [] := rfl
@[simp] theorem ev_ds1 (x : Vl) (r : List Vl) : derefs S (x :: r) = (match deref S x with
    | some t => match derefs S r with
      | some ts => some (t :: ts)
      | none => none
    | none => none) := rfl
@[simp] theorem ev_da0 : datas [] = some [] := rfl
@[simp] theorem ev_da1 (t : T) (r : List Vl) : datas (.d t :: r) = (match datas r with
    | some ts => some (t :: ts)
    | none => none) := rfl
@[simp] theorem ev_fin_d (t : T) : fin n (.d t) S = some (.d t, S.take n) := rfl
@[simp] theorem ev_fin_t (t : Str) : fin n (.t t) S = some (.t t, S.take n) := rfl
@[simp] theorem ev_fin_r (m : Nat) : fin n (.r m) S = if m < n then some (.r m, S.take n) else (match S[m]? with
    | some (.lst ts) => some (.d (.list ts), S.take n)
    | _ => none) := rfl
@[simp] theorem ev_finR (m : Nat) : finR n (.r m) S = if m < n then none else (match S[m]? with
    | some c => some (.r n, S.take n ++ [c])
    | none => none) := rfl
@[simp] theorem ev_part0 (L : Lc) : ePart none L S = some (none, S) := rfl
@[simp] theorem ev_part1 (m : Sem) (L : Lc) : ePart (some m) L S = (match m L S with
    | some (.d (.int i), S1) => some (some i, S1)
    | _ => none) := rfl
@[simp] theorem st0 : (S ++ c :: r)[S.length]? = some c := by simp
@[simp] theorem st1 : (S ++ c :: d :: r)[S.length + 1]? = some d := by simp
@[simp] theorem st0s : (S ++ c :: r).set S.length c' = S ++ c' :: r := by simp
@[simp] theorem st1s : (S ++ c :: d :: r).set (S.length + 1) c' = S ++ c :: c' :: r := by simp
theorem st_in {n : Nat} {x : Cell} (h : S[n]? = some x) : (S ++ r)[n]? = some x := by
  rw [List.getElem?_append_left (List.getElem?_eq_some_iff.mp h).1, h]
end
@[simp] theorem fEq_str (x y : Str) : fEq (.str x) (.str y) = some (.bool (x == y)) := by simp [fEq, PyData.depth, PyData.eqv]
@[simp] theorem fNe_str (x y : Str) : fNe (.str x) (.str y) = some (.bool (!(x == y))) := by simp [fNe, PyData.depth, PyData.eqv]
@[simp] theorem fEq_int (x y : Int) : fEq (.int x) (.int y) = some (.bool (x == y)) := by simp [fEq, PyData.depth, PyData.eqv]
@[simp] theorem fNe_int (x y : Int) : fNe (.int x) (.int y) = some (.bool (!(x == y))) := by simp [fNe, PyData.depth, PyData.eqv]
@[simp] theorem ix0 {t : T} {ts : List T} : fIdx (.tuple (t :: ts)) (.int 0) = some t := by
  have h : (0 : Int) < (ts.length : Int) + 1 := by omega
  simp [fIdx, L2.atI, L2.ixN, h]
@[simp] theorem ix1 {t u : T} {ts : List T} : fIdx (.tuple (t :: u :: ts)) (.int 1) = some u := by
  have h : (1 : Int) < (ts.length : Int) + 1 + 1 := by omega
  simp [fIdx, L2.atI, L2.ixN, h]
@[simp] theorem ix2 {t u v : T} {ts : List T} : fIdx (.tuple (t :: u :: v :: ts)) (.int 2) = some v := by
  have h : (2 : Int) < (ts.length : Int) + 1 + 1 + 1 := by omega
  simp [fIdx, L2.atI, L2.ixN, h]
@[simp] theorem ix3 {t u v x : T} {ts : List T} : fIdx (.tuple (t :: u :: v :: x :: ts)) (.int 3) = some x := by
  have h : (3 : Int) < (ts.length : Int) + 1 + 1 + 1 + 1 := by omega
  simp [fIdx, L2.atI, L2.ixN, h]
@[simp] theorem lx0 {t : T} {ts : List T} : fIdx (.list (t :: ts)) (.int 0) = some t := by
  have h : (0 : Int) < (ts.length : Int) + 1 := by omega
  simp [fIdx, L2.atI, L2.ixN, h]
@[simp] theorem lx1 {t u : T} {ts : List T} : fIdx (.list (t :: u :: ts)) (.int 1) = some u := by
  have h : (1 : Int) < (ts.length : Int) + 1 + 1 := by omega
  simp [fIdx, L2.atI, L2.ixN, h]
@[simp] theorem sl1_ {t : T} {ts : List T} : fSl (.tuple (t :: ts)) (some 1) none = some (.tuple ts) := by
  simp [fSl, cutT, HT.sIx]
@[simp] theorem sl_1 {t : T} {ts : List T} : fSl (.tuple (t :: ts)) none (some 1) = some (.tuple [t]) := by
  simp [fSl, cutT, HT.sIx]
@[simp] theorem fAdd_tt (a b : List T) : fAdd (.tuple a) (.tuple b) = if a.length + b.length ≤ 100000 then some (.tuple (a ++ b)) else none := rfl
@[simp] theorem fAdd_ll (a b : List T) : fAdd (.list a) (.list b) = if a.length + b.length ≤ 100000 then some (.list (a ++ b)) else none := rfl
@[simp] theorem fAdd_ii (a b : Int) : fAdd (.int a) (.int b) = some (.int (a + b)) := rfl
@[simp] theorem fSub_ii (a b : Int) : fSub (.int a) (.int b) = some (.int (a - b)) := rfl
@[simp] theorem fLt_ii (a b : Int) : fLt (.int a) (.int b) = some (.bool (decide (a < b))) := rfl
@[simp] theorem fGt_ii (a b : Int) : fGt (.int a) (.int b) = some (.bool (decide (a > b))) := rfl
@[simp] theorem fLe_ii (a b : Int) : fLe (.int a) (.int b) = some (.bool (decide (a ≤ b))) := rfl
@[simp] theorem fGe_ii (a b : Int) : fGe (.int a) (.int b) = some (.bool (decide (a ≥ b))) := rfl
@[simp] theorem fIsN_n : fIsN .none .none = some (.bool true) := rfl
@[simp] theorem fIsN_i (i : Int) : fIsN (.int i) .none = some (.bool false) := rfl
@[simp] theorem fNotN_n : fNotN .none .none = some (.bool false) := rfl
@[simp] theorem fNotN_i (i : Int) : fNotN (.int i) .none = some (.bool true) := rfl
@[simp] theorem fIsB_b (a b : Bool) : fIsB (.bool a) (.bool b) = some (.bool (decide (a = b))) := rfl
@[simp] theorem fNotB_b (a b : Bool) : fNotB (.bool a) (.bool b) = some (.bool (!decide (a = b))) := rfl
@[simp] theorem bTuple_t (a : List T) : bTuple [.tuple a] = some (.tuple a) := rfl
@[simp] theorem bTuple_l (a : List T) : bTuple [.list a] = some (.tuple a) := rfl
@[simp] theorem bList_t (a : List T) : bList [.tuple a] = some (.list a) := rfl
@[simp] theorem bList_l (a : List T) : bList [.list a] = some (.list a) := rfl
@[simp] theorem bLen_t (a : List T) : bLen [.tuple a] = some (.int (a.length : Nat)) := rfl
@[simp] theorem bLen_l (a : List T) : bLen [.list a] = some (.int (a.length : Nat)) := rfl
@[simp] theorem key_int (n : Int) : keyT (.int n) = some (.inl n) := rfl
@[simp] theorem key_none : keyT .none = none := rfl
theorem leS_anti {x y : Str} (h : leS x y) (k : leS y x) : x = y := ext_cps (List.le_antisymm (List.not_lt.mp h) (List.not_lt.mp k))
theorem sort_same {a b : List Str} (p : a.Perm b) : sortS a = sortS b := by
  have q : (sortS a).Perm (sortS b) := (sortS_perm a).trans (p.trans (sortS_perm b).symm)
  exact q.eq_of_pairwise (fun x y _ _ h1 h2 => leS_anti h1 h2) (sortS_pw a) (sortS_pw b)
theorem sortS_comm (a b : List Str) : sortS (a ++ b) = sortS (b ++ a) := sort_same (List.perm_append_comm)
theorem sortS_id {a : List Str} (h : a.Pairwise leS) : sortS a = a := (sortS_perm a).eq_of_pairwise (fun x y _ _ h1 h2 => leS_anti h1 h2) (sortS_pw a) h
@[simp] theorem strs_map : ∀ xs : List Str, strsT (xs.map .str) = some xs
  | [] => rfl
  | x :: r => by simp [strsT, strs_map r]
@[simp] theorem strs_app (xs ys : List Str) : strsT (xs.map .str ++ ys.map .str) = some (xs ++ ys) := by rw [← List.map_append, strs_map]
/-! ### loops and comprehensions -/
section
variable {src : SemI} {f : TgF} {vs : List Nat} {tt elt : Sem} {L : Lc} {S S1 : So}
theorem cmp_pure (g : T → T) (p : T → Bool) : ∀ (ts : List T) (acc : List T), (∀ t ∈ ts, ∃ L1, f t (wipeL L vs) = some L1 ∧ ∀ acc, tt L1 (S1 ++ [.lst acc]) = some (.d (.bool (p t)), S1 ++ [.lst acc]) ∧ (p t = true → elt L1 (S1 ++ [.lst acc]) = some (.d (g t), S1 ++ [.lst acc]))) → acc.length + ts.length ≤ 100000 →
    cmpN f vs tt elt S1.length ts L (S1 ++ [.lst acc]) = some (S1 ++ [.lst (acc ++ (ts.filter p).map g)])
  | [], acc, _, _ => by simp [cmpN]
  | t :: r, acc, h, hl => by
    obtain ⟨L1, e1, e2⟩ := h t (List.mem_cons_self ..)
    obtain ⟨e3, e4⟩ := e2 acc
    have hr := fun u hu => h u (List.mem_cons_of_mem _ hu)
    rw [List.length_cons] at hl
    unfold cmpN
    cases hp : p t with
    | false =>
      rw [hp] at e3
      simp only [e1, e3]
      rw [cmp_pure g p r acc hr (by omega)]
      simp [hp]
    | true =>
      rw [hp] at e3
      have e5 := e4 hp
      have hla : acc.length < 100000 := by omega
      simp only [e1, e3, e5, st0, if_pos hla, st0s]
      rw [cmp_pure g p r (acc ++ [g t]) hr (by simp; omega)]
      simp [hp]
theorem comp_pure (g : T → T) (p : T → Bool) {ts : List T} (hs : src L S = some (ts, S1)) (h : ∀ t ∈ ts, ∃ L1, f t (wipeL L vs) = some L1 ∧ ∀ acc, tt L1 (S1 ++ [.lst acc]) = some (.d (.bool (p t)), S1 ++ [.lst acc]) ∧ (p t = true → elt L1 (S1 ++ [.lst acc]) = some (.d (g t), S1 ++ [.lst acc]))) (hl : ts.length ≤ 100000) :
    eComp src f vs tt elt L S = some (.d (.list ((ts.filter p).map g)), S1) := by
  unfold eComp
  rw [hs]
  simp only
  rw [cmp_pure g p ts [] h (by simpa using hl)]
  simp
theorem comp_map (g : T → T) {ts : List T} (hs : src L S = some (ts, S1)) (h : ∀ t ∈ ts, ∃ L1, f t (wipeL L vs) = some L1 ∧ ∀ acc, elt L1 (S1 ++ [.lst acc]) = some (.d (g t), S1 ++ [.lst acc])) (hl : ts.length ≤ 100000) :
    eComp src f vs eYes elt L S = some (.d (.list (ts.map g)), S1) := by
  have q := comp_pure (tt := eYes) (fun t => g t) (fun _ => true) hs (fun t ht => by
    obtain ⟨L1, a, b⟩ := h t ht
    exact ⟨L1, a, fun acc => ⟨rfl, fun _ => b acc⟩⟩) hl
  have e : ts.filter (fun _ => true) = ts := List.filter_eq_self.mpr fun _ _ => rfl
  rw [q, e]
theorem comp_filter (p : T → Bool) {ts : List T} (hs : src L S = some (ts, S1)) (h : ∀ t ∈ ts, ∃ L1, f t (wipeL L vs) = some L1 ∧ ∀ acc, tt L1 (S1 ++ [.lst acc]) = some (.d (.bool (p t)), S1 ++ [.lst acc]) ∧ elt L1 (S1 ++ [.lst acc]) = some (.d t, S1 ++ [.lst acc])) (hl : ts.length ≤ 100000) :
    eComp src f vs tt elt L S = some (.d (.list (ts.filter p)), S1) := by
  have q := comp_pure (tt := tt) id p hs (fun t ht => by
    obtain ⟨L1, a, b⟩ := h t ht
    exact ⟨L1, a, fun acc => ⟨(b acc).1, fun _ => (b acc).2⟩⟩) hl
  rw [q]
  simp
end
theorem for_inv {g : Tg} {b : Sts} {I : Nat → Lc → So → Prop} : ∀ (ts : List T) (i0 : Nat) (L : Lc) (S : So), I i0 L S →
    (∀ i t L S, ts[i]? = some t → I (i0 + i) L S → ∃ L1 L' S', g (.d t) L S = some (L1, S) ∧ b L1 S = some (.nx L' S') ∧ I (i0 + i + 1) L' S') →
    ∃ L' S', forN g b ts L S = some (.nx L' S') ∧ I (i0 + ts.length) L' S'
  | [], i0, L, S, h, _ => ⟨L, S, rfl, h⟩
  | t :: ts, i0, L, S, h, hb => by
    obtain ⟨L1, L2, S2, e1, e2, h2⟩ := hb 0 t L S rfl h
    obtain ⟨L3, S3, e3, h3⟩ := for_inv ts (i0 + 1) L2 S2 h2 fun i u L S hu hf => by
      have q := hb (i + 1) u L S (by simpa using hu) (by rw [show i0 + (i + 1) = i0 + 1 + i by omega]; exact hf)
      rw [show i0 + (i + 1) + 1 = i0 + 1 + i + 1 by omega] at q
      exact q
    refine ⟨L3, S3, ?_, by rw [List.length_cons, show i0 + (ts.length + 1) = i0 + 1 + ts.length by omega]; exact h3⟩
    simp only [forN, e1, e2, e3]
end Mn

/-! Q1: kinds and rows as trees -/
namespace Mn.k20
open PySem PySem.Spec PyProof.Rows L2 Mn
structure Rw where
  ns : List Str
  tl : Option Nat
def tlT : Option Nat → T
  | none => .none
  | some n => .int (n : Nat)
@[simp] theorem tlT_n : tlT none = .none := rfl
@[simp] theorem tlT_s (n : Nat) : tlT (some n) = .int (n : Nat) := rfl
def Rw.den (r : Rw) : T := .tuple [.str "row", .tuple (r.ns.map .str), tlT r.tl]
inductive Kd
  | int | bool | unit
  | any (n : Nat)
  | lst (a : Kd)
  | pair (a b : Kd)
  | fn (a : Kd) (r : Rw) (b : Kd)
def Kd.den : Kd → T
  | .int => .tuple [.str "int"]
  | .bool => .tuple [.str "bool"]
  | .unit => .tuple [.str "unit"]
  | .any n => .tuple [.str "any", .int (n : Nat)]
  | .lst a => .tuple [.str "list", a.den]
  | .pair a b => .tuple [.str "pair", a.den, b.den]
  | .fn a r b => .tuple [.str "fn", a.den, r.den, b.den]
def Kd.dep : Kd → Nat
  | .lst a => a.dep + 1
  | .pair a b => max a.dep b.dep + 1
  | .fn a _ b => max a.dep b.dep + 1
  | _ => 1
/-- how many things are in it -/
def Kd.sz : Kd → Nat
  | .lst a => a.sz + 1
  | .pair a b => a.sz + b.sz + 1
  | .fn a _ b => a.sz + b.sz + 1
  | _ => 1
theorem dep_pos (k : Kd) : 1 ≤ k.dep := by cases k <;> simp [Kd.dep]
theorem sz_pos (k : Kd) : 1 ≤ k.sz := by cases k <;> simp [Kd.sz]
/-! words -/
@[simp] theorem w_int_int : (Str.ofString "int" == Str.ofString "int") = true := by kernel_rfl
@[simp] theorem w_int_bool : (Str.ofString "int" == Str.ofString "bool") = false := by kernel_rfl
@[simp] theorem w_int_unit : (Str.ofString "int" == Str.ofString "unit") = false := by kernel_rfl
@[simp] theorem w_int_any : (Str.ofString "int" == Str.ofString "any") = false := by kernel_rfl
@[simp] theorem w_int_list : (Str.ofString "int" == Str.ofString "list") = false := by kernel_rfl
@[simp] theorem w_int_pair : (Str.ofString "int" == Str.ofString "pair") = false := by kernel_rfl
@[simp] theorem w_int_fn : (Str.ofString "int" == Str.ofString "fn") = false := by kernel_rfl
@[simp] theorem w_int_row : (Str.ofString "int" == Str.ofString "row") = false := by kernel_rfl
@[simp] theorem w_bool_int : (Str.ofString "bool" == Str.ofString "int") = false := by kernel_rfl
@[simp] theorem w_bool_bool : (Str.ofString "bool" == Str.ofString "bool") = true := by kernel_rfl
@[simp] theorem w_bool_unit : (Str.ofString "bool" == Str.ofString "unit") = false := by kernel_rfl
@[simp] theorem w_bool_any : (Str.ofString "bool" == Str.ofString "any") = false := by kernel_rfl
@[simp] theorem w_bool_list : (Str.ofString "bool" == Str.ofString "list") = false := by kernel_rfl
@[simp] theorem w_bool_pair : (Str.ofString "bool" == Str.ofString "pair") = false := by kernel_rfl
@[simp] theorem w_bool_fn : (Str.ofString "bool" == Str.ofString "fn") = false := by kernel_rfl
@[simp] theorem w_bool_row : (Str.ofString "bool" == Str.ofString "row") = false := by kernel_rfl
@[simp] theorem w_unit_int : (Str.ofString "unit" == Str.ofString "int") = false := by kernel_rfl
@[simp] theorem w_unit_bool : (Str.ofString "unit" == Str.ofString "bool") = false := by kernel_rfl
@[simp] theorem w_unit_unit : (Str.ofString "unit" == Str.ofString "unit") = true := by kernel_rfl
@[simp] theorem w_unit_any : (Str.ofString "unit" == Str.ofString "any") = false := by kernel_rfl
@[simp] theorem w_unit_list : (Str.ofString "unit" == Str.ofString "list") = false := by kernel_rfl
@[simp] theorem w_unit_pair : (Str.ofString "unit" == Str.ofString "pair") = false := by kernel_rfl
@[simp] theorem w_unit_fn : (Str.ofString "unit" == Str.ofString "fn") = false := by kernel_rfl
@[simp] theorem w_unit_row : (Str.ofString "unit" == Str.ofString "row") = false := by kernel_rfl
@[simp] theorem w_any_int : (Str.ofString "any" == Str.ofString "int") = false := by kernel_rfl
@[simp] theorem w_any_bool : (Str.ofString "any" == Str.ofString "bool") = false := by kernel_rfl
@[simp] theorem w_any_unit : (Str.ofString "any" == Str.ofString "unit") = false := by kernel_rfl
@[simp] theorem w_any_any : (Str.ofString "any" == Str.ofString "any") = true := by kernel_rfl
@[simp] theorem w_any_list : (Str.ofString "any" == Str.ofString "list") = false := by kernel_rfl
@[simp] theorem w_any_pair : (Str.ofString "any" == Str.ofString "pair") = false := by kernel_rfl
@[simp] theorem w_any_fn : (Str.ofString "any" == Str.ofString "fn") = false := by kernel_rfl
@[simp] theorem w_any_row : (Str.ofString "any" == Str.ofString "row") = false := by kernel_rfl
@[simp] theorem w_list_int : (Str.ofString "list" == Str.ofString "int") = false := by kernel_rfl
@[simp] theorem w_list_bool : (Str.ofString "list" == Str.ofString "bool") = false := by kernel_rfl
@[simp] theorem w_list_unit : (Str.ofString "list" == Str.ofString "unit") = false := by kernel_rfl
@[simp] theorem w_list_any : (Str.ofString "list" == Str.ofString "any") = false := by kernel_rfl
@[simp] theorem w_list_list : (Str.ofString "list" == Str.ofString "list") = true := by kernel_rfl
@[simp] theorem w_list_pair : (Str.ofString "list" == Str.ofString "pair") = false := by kernel_rfl
@[simp] theorem w_list_fn : (Str.ofString "list" == Str.ofString "fn") = false := by kernel_rfl
@[simp] theorem w_list_row : (Str.ofString "list" == Str.ofString "row") = false := by kernel_rfl
@[simp] theorem w_pair_int : (Str.ofString "pair" == Str.ofString "int") = false := by kernel_rfl
@[simp] theorem w_pair_bool : (Str.ofString "pair" == Str.ofString "bool") = false := by kernel_rfl
@[simp] theorem w_pair_unit : (Str.ofString "pair" == Str.ofString "unit") = false := by kernel_rfl
@[simp] theorem w_pair_any : (Str.ofString "pair" == Str.ofString "any") = false := by kernel_rfl
@[simp] theorem w_pair_list : (Str.ofString "pair" == Str.ofString "list") = false := by kernel_rfl
@[simp] theorem w_pair_pair : (Str.ofString "pair" == Str.ofString "pair") = true := by kernel_rfl
@[simp] theorem w_pair_fn : (Str.ofString "pair" == Str.ofString "fn") = false := by kernel_rfl
@[simp] theorem w_pair_row : (Str.ofString "pair" == Str.ofString "row") = false := by kernel_rfl
@[simp] theorem w_fn_int : (Str.ofString "fn" == Str.ofString "int") = false := by kernel_rfl
@[simp] theorem w_fn_bool : (Str.ofString "fn" == Str.ofString "bool") = false := by kernel_rfl
@[simp] theorem w_fn_unit : (Str.ofString "fn" == Str.ofString "unit") = false := by kernel_rfl
@[simp] theorem w_fn_any : (Str.ofString "fn" == Str.ofString "any") = false := by kernel_rfl
@[simp] theorem w_fn_list : (Str.ofString "fn" == Str.ofString "list") = false := by kernel_rfl
@[simp] theorem w_fn_pair : (Str.ofString "fn" == Str.ofString "pair") = false := by kernel_rfl
@[simp] theorem w_fn_fn : (Str.ofString "fn" == Str.ofString "fn") = true := by kernel_rfl
@[simp] theorem w_fn_row : (Str.ofString "fn" == Str.ofString "row") = false := by kernel_rfl
@[simp] theorem w_row_int : (Str.ofString "row" == Str.ofString "int") = false := by kernel_rfl
@[simp] theorem w_row_bool : (Str.ofString "row" == Str.ofString "bool") = false := by kernel_rfl
@[simp] theorem w_row_unit : (Str.ofString "row" == Str.ofString "unit") = false := by kernel_rfl
@[simp] theorem w_row_any : (Str.ofString "row" == Str.ofString "any") = false := by kernel_rfl
@[simp] theorem w_row_list : (Str.ofString "row" == Str.ofString "list") = false := by kernel_rfl
@[simp] theorem w_row_pair : (Str.ofString "row" == Str.ofString "pair") = false := by kernel_rfl
@[simp] theorem w_row_fn : (Str.ofString "row" == Str.ofString "fn") = false := by kernel_rfl
@[simp] theorem w_row_row : (Str.ofString "row" == Str.ofString "row") = true := by kernel_rfl
@[simp] theorem in_int : fIn (.str (Str.ofString "int")) (.tuple [.str (Str.ofString "list"), .str (Str.ofString "pair")]) = some (.bool false) := by kernel_rfl
@[simp] theorem ip_int : fIn (.str (Str.ofString "int")) (.tuple [.str (Str.ofString "int"), .str (Str.ofString "bool"), .str (Str.ofString "unit")]) = some (.bool true) := by kernel_rfl
@[simp] theorem in_bool : fIn (.str (Str.ofString "bool")) (.tuple [.str (Str.ofString "list"), .str (Str.ofString "pair")]) = some (.bool false) := by kernel_rfl
@[simp] theorem ip_bool : fIn (.str (Str.ofString "bool")) (.tuple [.str (Str.ofString "int"), .str (Str.ofString "bool"), .str (Str.ofString "unit")]) = some (.bool true) := by kernel_rfl
@[simp] theorem in_unit : fIn (.str (Str.ofString "unit")) (.tuple [.str (Str.ofString "list"), .str (Str.ofString "pair")]) = some (.bool false) := by kernel_rfl
@[simp] theorem ip_unit : fIn (.str (Str.ofString "unit")) (.tuple [.str (Str.ofString "int"), .str (Str.ofString "bool"), .str (Str.ofString "unit")]) = some (.bool true) := by kernel_rfl
@[simp] theorem in_any : fIn (.str (Str.ofString "any")) (.tuple [.str (Str.ofString "list"), .str (Str.ofString "pair")]) = some (.bool false) := by kernel_rfl
@[simp] theorem ip_any : fIn (.str (Str.ofString "any")) (.tuple [.str (Str.ofString "int"), .str (Str.ofString "bool"), .str (Str.ofString "unit")]) = some (.bool false) := by kernel_rfl
@[simp] theorem in_list : fIn (.str (Str.ofString "list")) (.tuple [.str (Str.ofString "list"), .str (Str.ofString "pair")]) = some (.bool true) := by kernel_rfl
@[simp] theorem ip_list : fIn (.str (Str.ofString "list")) (.tuple [.str (Str.ofString "int"), .str (Str.ofString "bool"), .str (Str.ofString "unit")]) = some (.bool false) := by kernel_rfl
@[simp] theorem in_pair : fIn (.str (Str.ofString "pair")) (.tuple [.str (Str.ofString "list"), .str (Str.ofString "pair")]) = some (.bool true) := by kernel_rfl
@[simp] theorem ip_pair : fIn (.str (Str.ofString "pair")) (.tuple [.str (Str.ofString "int"), .str (Str.ofString "bool"), .str (Str.ofString "unit")]) = some (.bool false) := by kernel_rfl
@[simp] theorem in_fn : fIn (.str (Str.ofString "fn")) (.tuple [.str (Str.ofString "list"), .str (Str.ofString "pair")]) = some (.bool false) := by kernel_rfl
@[simp] theorem ip_fn : fIn (.str (Str.ofString "fn")) (.tuple [.str (Str.ofString "int"), .str (Str.ofString "bool"), .str (Str.ofString "unit")]) = some (.bool false) := by kernel_rfl
@[simp] theorem in_row : fIn (.str (Str.ofString "row")) (.tuple [.str (Str.ofString "list"), .str (Str.ofString "pair")]) = some (.bool false) := by kernel_rfl
@[simp] theorem ip_row : fIn (.str (Str.ofString "row")) (.tuple [.str (Str.ofString "int"), .str (Str.ofString "bool"), .str (Str.ofString "unit")]) = some (.bool false) := by kernel_rfl
@[simp] theorem k_any : k_ANY = .str "any" := rfl
@[simp] theorem k_fn : k_FN = .str "fn" := rfl
@[simp] theorem k_list : k_LIST = .str "list" := rfl
@[simp] theorem k_pair : k_PAIR = .str "pair" := rfl
@[simp] theorem k_row : k_ROW = .str "row" := rfl
@[simp] theorem k_plain : k_PLAIN = .tuple [.str "int", .str "bool", .str "unit"] := rfl
/-! ### putting -/
abbrev Ks := List (Nat × Kd)
abbrev Rs := List (Nat × Rw)
def Rw.put (rs : Rs) (r : Rw) : Rw := match r.tl with
  | none => r
  | some n => (match rs.lookup n with
    | none => r
    | some q => ⟨sortS (r.ns ++ q.ns), q.tl⟩)
def Kd.put (ks : Ks) (rs : Rs) : Kd → Kd
  | .any n => (match ks.lookup n with
    | some k => k
    | none => .any n)
  | .lst a => .lst (a.put ks rs)
  | .pair a b => .pair (a.put ks rs) (b.put ks rs)
  | .fn a r b => .fn (a.put ks rs) (r.put rs) (b.put ks rs)
  | k => k
def kD (ks : Ks) : List (Key × T) := ks.map fun p => (.inl (p.1 : Nat), p.2.den)
def rD (rs : Rs) : List (Key × T) := rs.map fun p => (.inl (p.1 : Nat), p.2.den)
theorem val_map {α : Type} (g : α → T) (n : Nat) : ∀ xs : List (Nat × α), valT (xs.map fun p => (Sum.inl ((p.1 : Nat) : Int), g p.2)) (.inl (n : Nat)) = (xs.lookup n).map g
  | [] => rfl
  | (m, x) :: r => by
    have ih := val_map g n r
    rw [List.map_cons, List.lookup_cons, valT]
    by_cases h : m = n
    · subst h
      simp
    · have h2 : (n == m) = false := by simp; omega
      rw [h2, if_neg (by simp; omega)]
      exact ih
@[simp] theorem val_kD (ks : Ks) (n : Nat) : valT (kD ks) (.inl (n : Nat)) = (ks.lookup n).map Kd.den := val_map Kd.den n ks
@[simp] theorem val_rD (rs : Rs) (n : Nat) : valT (rD rs) (.inl (n : Nat)) = (rs.lookup n).map Rw.den := val_map Rw.den n rs
theorem more_eq (r : Rw) (ns : List Str) (S : So) (h : r.ns.length + ns.length < 64) : f_more_of [.d r.den, .d (.tuple (ns.map .str))] S = some (.d (Rw.den ⟨sortS (r.ns ++ ns), r.tl⟩), S) := by
  have h2 : r.ns.length + ns.length ≤ 100000 := by omega
  simp [f_more_of, b_more_of, Rw.den, h, h2]
theorem put_row_eq (r : Rw) (rs : Rs) (S : So) (y : Nat) (hy : S[y]? = some (.dct (rD rs))) (h : ∀ n q, rs.lookup n = some q → r.ns.length + q.ns.length < 64) : f_put_in_row [.d r.den, .r y] S = some (.d (r.put rs).den, S) := by
  obtain ⟨ns, tl⟩ := r
  cases tl with
  | none => simp [f_put_in_row, b_put_in_row, Rw.den, Rw.put, hy]
  | some n =>
    cases hq : rs.lookup n with
    | none => simp [f_put_in_row, b_put_in_row, Rw.den, Rw.put, hy, hq]
    | some q =>
      have e := more_eq q ns S (by have := h n q hq; simp at this; omega)
      simp only [Rw.den] at e
      simp [f_put_in_row, b_put_in_row, Rw.den, Rw.put, hy, hq, e, sortS_comm ns q.ns]
/-- the rows that are put are short enough for those in the kind -/
def Kd.fits (rs : Rs) : Kd → Prop
  | .lst a => a.fits rs
  | .pair a b => a.fits rs ∧ b.fits rs
  | .fn a r b => a.fits rs ∧ (∀ n q, rs.lookup n = some q → r.ns.length + q.ns.length < 64) ∧ b.fits rs
  | _ => True
theorem put_eq : ∀ (f : Nat) (k : Kd) (ks : Ks) (rs : Rs) (S : So) (x y : Nat), k.dep < f + 1 → S[x]? = some (.dct (kD ks)) → S[y]? = some (.dct (rD rs)) → k.fits rs → f_put_in (f + 1) [.d k.den, .r x, .r y] S = some (.d (k.put ks rs).den, S)
  | f, .int, ks, rs, S, x, y, h, hx, hy, ht => by simp [f_put_in, b_put_in, Kd.den, Kd.put]
  | f, .bool, ks, rs, S, x, y, h, hx, hy, ht => by simp [f_put_in, b_put_in, Kd.den, Kd.put]
  | f, .unit, ks, rs, S, x, y, h, hx, hy, ht => by simp [f_put_in, b_put_in, Kd.den, Kd.put]
  | f, .any n, ks, rs, S, x, y, h, hx, hy, ht => by
    cases hq : ks.lookup n <;> simp [f_put_in, b_put_in, Kd.den, Kd.put, hx, hq]
  | 0, .lst a, ks, rs, S, x, y, h, hx, hy, ht => by have := dep_pos a; simp only [Kd.dep] at h; omega
  | 0, .pair a b, ks, rs, S, x, y, h, hx, hy, ht => by have := dep_pos a; simp only [Kd.dep] at h; omega
  | 0, .fn a r b, ks, rs, S, x, y, h, hx, hy, ht => by have := dep_pos a; simp only [Kd.dep] at h; omega
  | f + 1, .lst a, ks, rs, S, x, y, h, hx, hy, ht => by
    have ia := fun S hx hy => put_eq f a ks rs S x y (by simp only [Kd.dep] at h; omega) hx hy ht
    have hx' := fun r => st_in (r := r) hx
    have hy' := fun r => st_in (r := r) hy
    rw [f_put_in]
    simp [b_put_in, Kd.den, Kd.put, eComp, cmpN, wipeL, fName, eYes, ia, hx', hy']
  | f + 1, .pair a b, ks, rs, S, x, y, h, hx, hy, ht => by
    have ia := fun S hx hy => put_eq f a ks rs S x y (by simp only [Kd.dep] at h; omega) hx hy ht.1
    have ib := fun S hx hy => put_eq f b ks rs S x y (by simp only [Kd.dep] at h; omega) hx hy ht.2
    have hx' := fun r => st_in (r := r) hx
    have hy' := fun r => st_in (r := r) hy
    rw [f_put_in]
    simp [b_put_in, Kd.den, Kd.put, eComp, cmpN, wipeL, fName, eYes, ia, ib, hx', hy']
  | f + 1, .fn a r b, ks, rs, S, x, y, h, hx, hy, ht => by
    have ia := put_eq f a ks rs S x y (by simp only [Kd.dep] at h; omega) hx hy ht.1
    have ib := put_eq f b ks rs S x y (by simp only [Kd.dep] at h; omega) hx hy ht.2.2
    have ir := put_row_eq r rs S y hy ht.2.1
    rw [f_put_in]
    simp [b_put_in, Kd.den, Kd.put, ia, ib, ir]
/-! ### the law's own putting -/
theorem row_put_eq (r : Rw) (rs : Rs) (S : So) (y : Nat) (hy : S[y]? = some (.dct (rD rs))) (h : ∀ n q, rs.lookup n = some q → r.ns.length + q.ns.length < 64) : f__law_row_put [.d r.den, .r y] S = some (.d (r.put rs).den, S) := by
  obtain ⟨ns, tl⟩ := r
  cases tl with
  | none => simp [f__law_row_put, b__law_row_put, Rw.den, Rw.put, hy]
  | some n =>
    cases hq : rs.lookup n with
    | none => simp [f__law_row_put, b__law_row_put, Rw.den, Rw.put, hy, hq]
    | some q =>
      have h1 := h n q hq
      simp only at h1
      have h2 : ns.length + q.ns.length ≤ 100000 := by omega
      simp [f__law_row_put, b__law_row_put, Rw.den, Rw.put, hy, hq, h1, h2]
def Kd.led (F : Nat → Kd) (R : Rw → Rw) : Kd → Kd
  | .any n => F n
  | .lst a => .lst (a.led F R)
  | .pair a b => .pair (a.led F R) (b.led F R)
  | .fn a r b => .fn (a.led F R) (R r) (b.led F R)
  | k => k
/-- all anys and rows in it are such -/
def Kd.All (A : Nat → Prop) (B : Rw → Prop) : Kd → Prop
  | .any n => A n
  | .lst a => a.All A B
  | .pair a b => a.All A B ∧ b.All A B
  | .fn a r b => a.All A B ∧ B r ∧ b.All A B
  | _ => True
end Mn.k20

/-! Q2: what the law leads; loose ones -/
namespace Mn.k20
open PySem PySem.Spec PyProof.Rows L2 Mn
@[simp] theorem noF_d (t : T) : noF (.d t) = true := rfl
theorem led_eq (F : Nat → Kd) (R : Rw → Rw) (A : Nat → Prop) (B : Rw → Prop) (i j : Nat) (cs ds : List Cap) (P : So → Prop) (hP : ∀ S r, P S → P (S ++ r))
    (HA : ∀ S, P S → ∀ n, A n → tabF i cs [.d (Kd.any n).den] S = some (.d (F n).den, S)) (HB : ∀ S, P S → ∀ r, B r → tabF j ds [.d r.den] S = some (.d (R r).den, S)) :
    ∀ (f : Nat) (k : Kd) (S : So), k.dep < f + 1 → P S → k.All A B → f__law_kind_led (f + 1) [.d k.den, .f i cs, .f j ds] S = some (.d (k.led F R).den, S)
  | f, .int, S, h, p, q => by simp [f__law_kind_led, b__law_kind_led, Kd.den, Kd.led, eComp, cmpN]
  | f, .bool, S, h, p, q => by simp [f__law_kind_led, b__law_kind_led, Kd.den, Kd.led, eComp, cmpN]
  | f, .unit, S, h, p, q => by simp [f__law_kind_led, b__law_kind_led, Kd.den, Kd.led, eComp, cmpN]
  | f, .any n, S, h, p, q => by
    have e := HA S p n q
    simp only [Kd.den] at e
    simp [f__law_kind_led, b__law_kind_led, Kd.den, Kd.led, e]
  | 0, .lst a, S, h, p, q => by have := dep_pos a; simp only [Kd.dep] at h; omega
  | 0, .pair a b, S, h, p, q => by have := dep_pos a; simp only [Kd.dep] at h; omega
  | 0, .fn a r b, S, h, p, q => by have := dep_pos a; simp only [Kd.dep] at h; omega
  | f + 1, .lst a, S, h, p, q => by
    have ia := fun S p => led_eq F R A B i j cs ds P hP HA HB f a S (by simp only [Kd.dep] at h; omega) p q
    have p' := fun r => hP S r p
    rw [f__law_kind_led]
    simp [b__law_kind_led, Kd.den, Kd.led, eComp, cmpN, wipeL, fName, eYes, ia, p']
  | f + 1, .pair a b, S, h, p, q => by
    have ia := fun S p => led_eq F R A B i j cs ds P hP HA HB f a S (by simp only [Kd.dep] at h; omega) p q.1
    have ib := fun S p => led_eq F R A B i j cs ds P hP HA HB f b S (by simp only [Kd.dep] at h; omega) p q.2
    have p' := fun r => hP S r p
    rw [f__law_kind_led]
    simp [b__law_kind_led, Kd.den, Kd.led, eComp, cmpN, wipeL, fName, eYes, ia, ib, p']
  | f + 1, .fn a r b, S, h, p, q => by
    have ia := led_eq F R A B i j cs ds P hP HA HB f a S (by simp only [Kd.dep] at h; omega) p q.1
    have ib := led_eq F R A B i j cs ds P hP HA HB f b S (by simp only [Kd.dep] at h; omega) p q.2.2
    have ir := HB S p r q.2.1
    rw [f__law_kind_led]
    simp [b__law_kind_led, Kd.den, Kd.led, ia, ib, ir]
theorem put_led (ks : Ks) (rs : Rs) : ∀ k : Kd, k.put ks rs = k.led (fun n => (ks.lookup n).getD (.any n)) (Rw.put rs)
  | .int | .bool | .unit => rfl
  | .any n => by simp only [Kd.put, Kd.led]; cases ks.lookup n <;> rfl
  | .lst a => by simp only [Kd.put, Kd.led, put_led ks rs a]
  | .pair a b => by simp only [Kd.put, Kd.led, put_led ks rs a, put_led ks rs b]
  | .fn a r b => by simp only [Kd.put, Kd.led, put_led ks rs a, put_led ks rs b]
theorem fits_all (rs : Rs) : ∀ k : Kd, k.fits rs → k.All (fun _ => True) (fun r => ∀ n q, rs.lookup n = some q → r.ns.length + q.ns.length < 64)
  | .int, _ | .bool, _ | .unit, _ | .any _, _ => trivial
  | .lst a, h => fits_all rs a h
  | .pair a b, h => ⟨fits_all rs a h.1, fits_all rs b h.2⟩
  | .fn a r b, h => ⟨fits_all rs a h.1, h.2.1, fits_all rs b h.2.2⟩
theorem kind_put_eq (k : Kd) (ks : Ks) (rs : Rs) (S : So) (x y : Nat) (h : k.dep < 12) (hx : S[x]? = some (.dct (kD ks))) (hy : S[y]? = some (.dct (rD rs))) (ht : k.fits rs) : f__law_kind_put [.d k.den, .r x, .r y] S = some (.d (k.put ks rs).den, S) := by
  have e := led_eq (fun n => (ks.lookup n).getD (.any n)) (Rw.put rs) (fun _ => True) (fun r => ∀ n q, rs.lookup n = some q → r.ns.length + q.ns.length < 64) 2 3 [.r x] [.r y] (fun S => S[x]? = some (.dct (kD ks)) ∧ S[y]? = some (.dct (rD rs)))
    (fun S r p => ⟨st_in p.1, st_in p.2⟩) (fun S p n _ => by cases hq : ks.lookup n <;> simp [tabF, m_2, Cap.vl, p.1, Kd.den, hq]) (fun S p r hr => by
      have e := row_put_eq r rs S y p.2 hr
      simp [tabF, m_3, Cap.vl, e]) 11 k S h ⟨hx, hy⟩ (fits_all rs k ht)
  rw [← put_led] at e
  simp [f__law_kind_put, b__law_kind_put, capsAt, capOf, e]
/-! ### named anew -/
def nums (xs : List Nat) : T := .list (xs.map fun n => .int (n : Nat))
def Rw.nw (ts : List Nat) (r : Rw) : Rw := ⟨r.ns, r.tl.map ts.idxOf⟩
def Kd.nw (as ts : List Nat) (k : Kd) : Kd := k.led (fun n => .any (as.idxOf n)) (Rw.nw ts)
theorem idx_nums (n : Nat) : ∀ xs : List Nat, n ∈ xs → idxI (n : Nat) (xs.map fun n => .int (n : Nat)) = some (xs.idxOf n)
  | [], h => by simp at h
  | m :: r, h => by
    rw [List.map_cons, idxI, List.idxOf_cons]
    by_cases e : m = n
    · subst e
      simp
    · have h2 : n ∈ r := by
        rcases List.mem_cons.mp h with q | q
        · exact absurd q.symm e
        · exact q
      have h3 : (m == n) = false := by simpa using e
      rw [if_neg (by omega), idx_nums n r h2, h3]
      rfl
theorem ints_nums (xs : List Nat) : (xs.map fun n => (PyData.int (n : Nat))).all isIntT = true := by simp [isIntT]
theorem row_anew_eq (r : Rw) (ts : List Nat) (S : So) (h : ∀ n, r.tl = some n → n ∈ ts) : f__law_row_anew [.d r.den, .d (nums ts)] S = some (.d (r.nw ts).den, S) := by
  obtain ⟨ns, tl⟩ := r
  cases tl with
  | none => simp [f__law_row_anew, b__law_row_anew, Rw.den, Rw.nw]
  | some n => simp [f__law_row_anew, b__law_row_anew, Rw.den, Rw.nw, nums, isIntT, idx_nums n ts (h n rfl)]
/-! ### loose ones -/
def mg (xs ys : List Nat) : List Nat := xs ++ ys.filter fun n => !xs.contains n
theorem mg_nil_l (ys : List Nat) : mg [] ys = ys := by unfold mg; simp
theorem mg_nil_r (xs : List Nat) : mg xs [] = xs := by unfold mg; simp
theorem mg_assoc (xs ys zs : List Nat) : mg (mg xs ys) zs = mg xs (mg ys zs) := by
  unfold mg
  rw [List.filter_append, List.append_assoc, List.filter_filter]
  congr 2
  apply List.filter_congr
  intro n _
  simp only [List.contains_append, Bool.not_or]
  cases h : xs.contains n with
  | true => simp
  | false =>
    simp only [Bool.not_false, Bool.true_and]
    have : (List.filter (fun n => !xs.contains n) ys).contains n = ys.contains n := by
      rw [Bool.eq_iff_iff]
      simp only [List.contains_iff_mem, List.mem_filter, h]
      simp
    rw [this]
theorem mem_mg {n : Nat} {xs ys : List Nat} : n ∈ mg xs ys ↔ n ∈ xs ∨ n ∈ ys := by
  unfold mg
  simp only [List.mem_append, List.mem_filter, Bool.not_eq_true', List.contains_eq_mem, decide_eq_false_iff_not]
  constructor
  · rintro (h | h)
    · exact .inl h
    · exact .inr h.1
  · rintro (h | h)
    · exact .inl h
    · by_cases z : n ∈ xs
      · exact .inl z
      · exact .inr ⟨h, z⟩
def Rw.lo (r : Rw) : List Nat := r.tl.toList
def Kd.la : Kd → List Nat
  | .any n => [n]
  | .lst a => a.la
  | .pair a b => mg a.la b.la
  | .fn a _ b => mg a.la b.la
  | _ => []
def Kd.lt : Kd → List Nat
  | .lst a => a.lt
  | .pair a b => mg a.lt b.lt
  | .fn a r b => mg (mg a.lt r.lo) b.lt
  | _ => []
theorem any_nums (n : Nat) : ∀ xs : List Nat, ((xs.map fun n => (PyData.int (n : Nat))).any fun y => PyData.eqv y (.int (n : Nat))) = xs.contains n
  | [] => rfl
  | m :: r => by
    have e : PyData.eqv (.int (m : Nat)) (.int (n : Nat)) = (n == m) := by
      rw [PyData.eqv, Bool.eq_iff_iff]
      simp
      omega
    rw [List.map_cons, List.any_cons, any_nums n r, List.contains_cons, e]
theorem all_flat (xs : List Nat) : (xs.map fun n => (PyData.int (n : Nat))).all flatT = true := by simp [flatT]
theorem notin_nums (n : Nat) (xs : List Nat) : fNotIn (.int (n : Nat)) (.list (xs.map fun n => .int (n : Nat))) = some (.bool (!xs.contains n)) := by
  have h : fIn (.int (n : Nat)) (.list (xs.map fun n => .int (n : Nat))) = some (.bool (xs.contains n)) := by
    unfold fIn
    simp only [all_flat, any_nums, flatT]
    rfl
  unfold fNotIn
  rw [h]
theorem filter_nums (p : T → Bool) (q : Nat → Bool) (h : ∀ n : Nat, p (.int (n : Nat)) = q n) : ∀ xs : List Nat, (xs.map fun n => (PyData.int (n : Nat))).filter p = (xs.filter q).map fun n => .int (n : Nat)
  | [] => rfl
  | n :: r => by
    rw [List.map_cons, List.filter_cons, List.filter_cons, h n, filter_nums p q h r]
    cases q n <;> rfl
def isNo (xs : List Nat) : T → Bool
  | .int i => !xs.contains i.toNat
  | _ => false
/-- [at for at in ys if at not in xs] -/
theorem comp_no {m : Sem} {i j : Nat} {L : Lc} {S S1 : So} {xs ys : List Nat} (hm : m L S = some (.d (nums ys), S1)) (hj : ∀ t, ((wipeL L [j]).set j (some (.d t)))[j]? = some (some (.d t))) (hi : ∀ t, ((wipeL L [j]).set j (some (.d t)))[i]? = some (some (.d (nums xs)))) (hl : ys.length ≤ 100000) :
    eComp (iLstM m) (fName j) [j] (eBin fNotIn (eLoc j) (eLoc i)) (eLoc j) L S = some (.d (nums (ys.filter fun n => !xs.contains n)), S1) := by
  have c := comp_filter (src := iLstM m) (f := fName j) (vs := [j]) (tt := eBin fNotIn (eLoc j) (eLoc i)) (elt := eLoc j) (L := L) (S := S) (S1 := S1) (ts := ys.map fun n => .int (n : Nat)) (isNo xs) (by simp [hm, nums]) (fun t ht => ⟨_, rfl, fun acc => by
    obtain ⟨n, _, rfl⟩ := List.mem_map.mp ht
    have h1 := hj (.int (n : Nat))
    have h2 := hi (.int (n : Nat))
    refine ⟨?_, by simp only [ev_eLoc, h1]⟩
    simp only [ev_eBin, ev_eLoc, h1, h2, ev_de_d, nums, notin_nums, isNo, Int.toNat_natCast]⟩) (by simpa using hl)
  rw [c, filter_nums (isNo xs) (fun n => !xs.contains n) fun n => by simp [isNo]]
  rfl
theorem len_mg (xs ys : List Nat) : (mg xs ys).length ≤ xs.length + ys.length := by
  unfold mg
  have := List.length_filter_le (fun n => !xs.contains n) ys
  simp only [List.length_append]
  omega
theorem len_la : ∀ k : Kd, k.la.length ≤ k.sz
  | .int | .bool | .unit | .any _ => by simp [Kd.la, Kd.sz]
  | .lst a => by have := len_la a; simp only [Kd.la, Kd.sz]; omega
  | .pair a b => by have := len_la a; have := len_la b; have := len_mg a.la b.la; simp only [Kd.la, Kd.sz]; omega
  | .fn a r b => by have := len_la a; have := len_la b; have := len_mg a.la b.la; simp only [Kd.la, Kd.sz]; omega
theorem len_lo (r : Rw) : r.lo.length ≤ 1 := by
  unfold Rw.lo
  cases r.tl <;> simp
theorem len_lt : ∀ k : Kd, k.lt.length ≤ k.sz
  | .int | .bool | .unit | .any _ => by simp [Kd.lt, Kd.sz]
  | .lst a => by have := len_lt a; simp only [Kd.lt, Kd.sz]; omega
  | .pair a b => by have := len_lt a; have := len_lt b; have := len_mg a.lt b.lt; simp only [Kd.lt, Kd.sz]; omega
  | .fn a r b => by have := len_lt a; have := len_lt b; have := len_mg a.lt r.lo; have := len_lo r; have := len_mg (mg a.lt r.lo) b.lt; simp only [Kd.lt, Kd.sz]; omega
def loD (xs ys : List Nat) : T := .tuple [nums xs, nums ys]
theorem loose_row (f : Nat) (r : Rw) (S : So) : f__law_loose (f + 1) [.d r.den] S = some (.d (loD [] r.lo), S) := by
  obtain ⟨ns, tl⟩ := r
  cases tl <;> simp [f__law_loose, b__law_loose, Rw.den, Rw.lo, loD, nums]
end Mn.k20

/-! Q3: loose ones by the law, by the program; named anew -/
namespace Mn.k20
open PySem PySem.Spec PyProof.Rows L2 Mn
def LB (rc : Fn) : Sts := (sSeq (sAsg (eCall rc (aCons (eLoc 3) aNil)) (tTuple 2 (tgCons (tName 4) (tgCons (tName 5) tgNil)))) (sSeq (sSet 1 (eBin fAdd (eLoc 1) (eComp (iLstM (eLoc 4)) (fName 6) [6] (eBin fNotIn (eLoc 6) (eLoc 1)) (eLoc 6)))) (sSet 2 (eBin fAdd (eLoc 2) (eComp (iLstM (eLoc 5)) (fName 6) [6] (eBin fNotIn (eLoc 6) (eLoc 2)) (eLoc 6))))))
theorem nums_add (xs ys : List Nat) (h : xs.length + ys.length ≤ 100000) : fAdd (nums xs) (nums ys) = some (nums (xs ++ ys)) := by simp [nums, h]
theorem filt_le (xs ys : List Nat) : (ys.filter fun n => !xs.contains n).length ≤ ys.length := List.length_filter_le _ _
theorem LB_eq (rc : Fn) (x0 x4 x5 x6 : Option Vl) (one : T) (a t p q : List Nat) (S : So) (h : rc [.d one] S = some (.d (loD p q), S)) (h1 : a.length + p.length ≤ 100000) (h2 : t.length + q.length ≤ 100000) :
    LB rc [x0, some (.d (nums a)), some (.d (nums t)), some (.d one), x4, x5, x6] S = some (.nx [x0, some (.d (nums (mg a p))), some (.d (nums (mg t q))), some (.d one), some (.d (nums p)), some (.d (nums q)), x6] S) := by
  have f1 := filt_le a p
  have f2 := filt_le t q
  have c1 := comp_no (m := eLoc 4) (i := 1) (j := 6) (L := [x0, some (.d (nums a)), some (.d (nums t)), some (.d one), some (.d (nums p)), some (.d (nums q)), x6]) (S := S) (S1 := S) (xs := a) (ys := p) (by simp) (fun t => by simp [wipeL]) (fun t => by simp [wipeL]) (by omega)
  have c2 := comp_no (m := eLoc 5) (i := 2) (j := 6) (L := [x0, some (.d (nums (mg a p))), some (.d (nums t)), some (.d one), some (.d (nums p)), some (.d (nums q)), x6]) (S := S) (S1 := S) (xs := t) (ys := q) (by simp) (fun t => by simp [wipeL]) (fun t => by simp [wipeL]) (by omega)
  have a1 := nums_add a (p.filter fun n => !a.contains n) (by omega)
  have a2 := nums_add t (q.filter fun n => !t.contains n) (by omega)
  rw [show a ++ p.filter (fun n => !a.contains n) = mg a p from rfl] at a1
  rw [show t ++ q.filter (fun n => !t.contains n) = mg t q from rfl] at a2
  unfold LB
  simp only [ev_sSeq, ev_sAsg, ev_eCall, ev_aCons, ev_aNil, ev_eLoc, List.getElem?_cons_succ, List.getElem?_cons_zero, h, loD, ev_tTuple, List.length_cons, List.length_nil, ev_tgCons, ev_tName, ev_tgNil, List.set_cons_succ, List.set_cons_zero, if_true, ev_sSet, ev_eBin, c1, c2, ev_de_d, a1, a2]
theorem loose_body (rc : Fn) : b__law_loose rc = (sSeq (sAsg (eTup (aCons (eLst aNil) (aCons (eLst aNil) aNil))) (tTuple 2 (tgCons (tName 1) (tgCons (tName 2) tgNil)))) (sSeq (sIf (eBin fEq (eBin fIdx (eLoc 0) (eC (.int 0))) (eC (.str "any"))) (sRet (eTup (aCons (eLst (aCons (eBin fIdx (eLoc 0) (eC (.int 1))) aNil)) (aCons (eLst aNil) aNil)))) sNil) (sSeq (sIf (eBin fEq (eBin fIdx (eLoc 0) (eC (.int 0))) (eC (.str "row"))) (sRet (eTup (aCons (eLst aNil) (aCons (eIte (eBin fIsN (eBin fIdx (eLoc 0) (eC (.int 2))) (eC .none)) (eLst aNil) (eLst (aCons (eBin fIdx (eLoc 0) (eC (.int 2))) aNil))) aNil)))) sNil) (sSeq (sFor (iTupM (eSl (eLoc 0) (some (eC (.int 1))) none)) (tName 3) (LB rc)) (sRet (eTup (aCons (eLoc 1) (aCons (eLoc 2) aNil)))))))) := rfl
theorem nil_nums : (PyData.list []) = nums [] := rfl
theorem one_nums (n : Nat) : (PyData.list [.int (n : Nat)]) = nums [n] := rfl
theorem loose_eq : ∀ (f : Nat) (k : Kd) (S : So), k.dep < f + 1 → k.sz ≤ 10000 → f__law_loose (f + 1) [.d k.den] S = some (.d (loD k.la k.lt), S)
  | f, .int, S, h, hz => by simp [f__law_loose, loose_body, Kd.den, Kd.la, Kd.lt, loD, sFor, forN, nil_nums]
  | f, .bool, S, h, hz => by simp [f__law_loose, loose_body, Kd.den, Kd.la, Kd.lt, loD, sFor, forN, nil_nums]
  | f, .unit, S, h, hz => by simp [f__law_loose, loose_body, Kd.den, Kd.la, Kd.lt, loD, sFor, forN, nil_nums]
  | f, .any n, S, h, hz => by simp [f__law_loose, loose_body, Kd.den, Kd.la, Kd.lt, loD, nil_nums, one_nums]
  | 0, .lst a, S, h, hz => by have := dep_pos a; simp only [Kd.dep] at h; omega
  | 0, .pair a b, S, h, hz => by have := dep_pos a; simp only [Kd.dep] at h; omega
  | 0, .fn a r b, S, h, hz => by have := dep_pos a; simp only [Kd.dep] at h; omega
  | f + 1, .lst a, S, h, hz => by
    simp only [Kd.dep] at h
    simp only [Kd.sz] at hz
    have ia := loose_eq f a S (by omega) (by omega)
    have l1 := len_la a
    have l2 := len_lt a
    have b1 := fun x0 x4 x5 x6 => LB_eq (f__law_loose (f + 1)) x0 x4 x5 x6 a.den [] [] a.la a.lt S ia (by simp; omega) (by simp; omega)
    rw [f__law_loose]
    simp [loose_body, Kd.den, Kd.la, Kd.lt, loD, sFor, forN, nil_nums, b1, mg_nil_l]
  | f + 1, .pair a b, S, h, hz => by
    simp only [Kd.dep] at h
    simp only [Kd.sz] at hz
    have ia := loose_eq f a S (by omega) (by omega)
    have ib := loose_eq f b S (by omega) (by omega)
    have l1 := len_la a
    have l2 := len_lt a
    have l3 := len_la b
    have l4 := len_lt b
    have b1 := fun x0 x4 x5 x6 => LB_eq (f__law_loose (f + 1)) x0 x4 x5 x6 a.den [] [] a.la a.lt S ia (by simp; omega) (by simp; omega)
    have b2 := fun x0 x4 x5 x6 => LB_eq (f__law_loose (f + 1)) x0 x4 x5 x6 b.den a.la a.lt b.la b.lt S ib (by omega) (by omega)
    rw [f__law_loose]
    simp [loose_body, Kd.den, Kd.la, Kd.lt, loD, sFor, forN, nil_nums, b1, b2, mg_nil_l]
  | f + 1, .fn a r b, S, h, hz => by
    simp only [Kd.dep] at h
    simp only [Kd.sz] at hz
    have ia := loose_eq f a S (by omega) (by omega)
    have ir := loose_row f r S
    have ib := loose_eq f b S (by omega) (by omega)
    have l1 := len_la a
    have l2 := len_lt a
    have l3 := len_la b
    have l4 := len_lt b
    have l5 := len_lo r
    have l6 := len_mg a.lt r.lo
    have b1 := fun x0 x4 x5 x6 => LB_eq (f__law_loose (f + 1)) x0 x4 x5 x6 a.den [] [] a.la a.lt S ia (by simp; omega) (by simp; omega)
    have b2 := fun x0 x4 x5 x6 => LB_eq (f__law_loose (f + 1)) x0 x4 x5 x6 r.den a.la a.lt [] r.lo S ir (by simp; omega) (by omega)
    have b3 := fun x0 x4 x5 x6 => LB_eq (f__law_loose (f + 1)) x0 x4 x5 x6 b.den a.la (mg a.lt r.lo) b.la b.lt S ib (by omega) (by omega)
    rw [f__law_loose]
    simp [loose_body, Kd.den, Kd.la, Kd.lt, loD, sFor, forN, nil_nums, b1, b2, b3, mg_nil_l, mg_nil_r]
end Mn.k20

/-! Q4: loose ones as they come in, by the program -/
namespace Mn.k20
open PySem PySem.Spec PyProof.Rows L2 Mn
def nDF : Nat → List Nat → List (Key × T)
  | _, [] => []
  | i, n :: r => (.inl (n : Nat), .int (i : Nat)) :: nDF (i + 1) r
theorem nDF_app : ∀ (xs ys : List Nat) (i : Nat), nDF i (xs ++ ys) = nDF i xs ++ nDF (i + xs.length) ys
  | [], ys, i => rfl
  | x :: xs, ys, i => by rw [List.cons_append, nDF, nDF, nDF_app xs ys (i + 1), List.length_cons, show i + 1 + xs.length = i + (xs.length + 1) by omega]; rfl
theorem nDF_len : ∀ (xs : List Nat) (i : Nat), (nDF i xs).length = xs.length
  | [], _ => rfl
  | x :: xs, i => by rw [nDF, List.length_cons, nDF_len xs, List.length_cons]
theorem nDF_val (n : Nat) : ∀ (xs : List Nat) (i : Nat), valT (nDF i xs) (.inl (n : Nat)) = if n ∈ xs then some (.int ((i + xs.idxOf n : Nat) : Nat)) else none
  | [], _ => rfl
  | x :: xs, i => by
    rw [nDF, valT, nDF_val n xs (i + 1), List.idxOf_cons]
    by_cases e : x = n
    · subst e
      simp
    · have h1 : ¬ (Sum.inl ((x : Nat) : Int) : Key) = .inl ((n : Nat) : Int) := by simp; omega
      have h2 : (x == n) = false := by simpa using e
      rw [if_neg h1, h2]
      by_cases z : n ∈ xs
      · rw [if_pos z, if_pos (List.mem_cons_of_mem _ z)]
        simp
        omega
      · rw [if_neg z, if_neg (by simp [z]; omega)]
def nD (xs : List Nat) : List (Key × T) := nDF 0 xs
@[simp] theorem nD_len (xs : List Nat) : (nD xs).length = xs.length := nDF_len xs 0
theorem nD_in {n : Nat} {xs : List Nat} (h : n ∈ xs) : valT (nD xs) (.inl (n : Nat)) = some (.int ((xs.idxOf n : Nat) : Nat)) := by
  unfold nD
  rw [nDF_val, if_pos h, Nat.zero_add]
theorem nD_out {n : Nat} {xs : List Nat} (h : n ∉ xs) : valT (nD xs) (.inl (n : Nat)) = none := by
  unfold nD
  rw [nDF_val, if_neg h]
theorem nD_snoc (n : Nat) (xs : List Nat) : nD xs ++ [(.inl (n : Nat), .int (xs.length : Nat))] = nD (xs ++ [n]) := by
  unfold nD
  rw [nDF_app, Nat.zero_add]
  rfl
theorem mg_in {n : Nat} {xs : List Nat} (h : n ∈ xs) : mg xs [n] = xs := by unfold mg; simp [h]
theorem mg_out {n : Nat} {xs : List Nat} (h : n ∉ xs) : mg xs [n] = xs ++ [n] := by unfold mg; simp [h]
@[simp] theorem tk2 (S : So) (a b : Cell) : List.take (S.length + 2) (S ++ [a, b]) = S ++ [a, b] := List.take_of_length_le (by simp)
theorem come_row (r : Rw) (S : So) (a : Cell) (ys : List Nat) (h : ys.length < 100000) : f_come_in_row [.d r.den, .r (S.length + 1)] (S ++ [a, .dct (nD ys)]) = some (.d .none, S ++ [a, .dct (nD (mg ys r.lo))]) := by
  obtain ⟨ns, tl⟩ := r
  cases tl with
  | none => simp [f_come_in_row, b_come_in_row, Rw.den, Rw.lo, mg_nil_r]
  | some n =>
    by_cases hn : n ∈ ys
    · simp [f_come_in_row, b_come_in_row, Rw.den, Rw.lo, h, nD_in hn, mg_in hn]
    · simp [f_come_in_row, b_come_in_row, Rw.den, Rw.lo, h, nD_out hn, mg_out hn, nD_snoc]
theorem come_eq : ∀ (f : Nat) (k : Kd) (S : So) (xs ys : List Nat), k.dep < f + 1 → xs.length + k.sz ≤ 50000 → ys.length + k.sz ≤ 50000 →
    f_come_in (f + 1) [.d k.den, .r S.length, .r (S.length + 1)] (S ++ [.dct (nD xs), .dct (nD ys)]) = some (.d .none, S ++ [.dct (nD (mg xs k.la)), .dct (nD (mg ys k.lt))])
  | f, .int, S, xs, ys, h, hx, hy => by simp [f_come_in, b_come_in, Kd.den, Kd.la, Kd.lt, sFor, forN, f_within_of, b_within_of, mg_nil_r]
  | f, .bool, S, xs, ys, h, hx, hy => by simp [f_come_in, b_come_in, Kd.den, Kd.la, Kd.lt, sFor, forN, f_within_of, b_within_of, mg_nil_r]
  | f, .unit, S, xs, ys, h, hx, hy => by simp [f_come_in, b_come_in, Kd.den, Kd.la, Kd.lt, sFor, forN, f_within_of, b_within_of, mg_nil_r]
  | f, .any n, S, xs, ys, h, hx, hy => by
    have hl : xs.length < 100000 := by omega
    by_cases hn : n ∈ xs
    · simp [f_come_in, b_come_in, Kd.den, Kd.la, Kd.lt, hl, nD_in hn, mg_in hn, mg_nil_r]
    · simp [f_come_in, b_come_in, Kd.den, Kd.la, Kd.lt, hl, nD_out hn, mg_out hn, nD_snoc, mg_nil_r]
  | 0, .lst a, S, xs, ys, h, hx, hy => by have := dep_pos a; simp only [Kd.dep] at h; omega
  | 0, .pair a b, S, xs, ys, h, hx, hy => by have := dep_pos a; simp only [Kd.dep] at h; omega
  | 0, .fn a r b, S, xs, ys, h, hx, hy => by have := dep_pos a; simp only [Kd.dep] at h; omega
  | f + 1, .lst a, S, xs, ys, h, hx, hy => by
    simp only [Kd.dep] at h
    simp only [Kd.sz] at hx hy
    have ia := come_eq f a S xs ys (by omega) (by omega) (by omega)
    rw [f_come_in]
    simp [b_come_in, Kd.den, Kd.la, Kd.lt, sFor, forN, f_within_of, b_within_of, ia]
  | f + 1, .pair a b, S, xs, ys, h, hx, hy => by
    simp only [Kd.dep] at h
    simp only [Kd.sz] at hx hy
    have l1 := len_mg xs a.la
    have l2 := len_mg ys a.lt
    have l3 := len_la a
    have l4 := len_lt a
    have ia := come_eq f a S xs ys (by omega) (by omega) (by omega)
    have ib := come_eq f b S (mg xs a.la) (mg ys a.lt) (by omega) (by omega) (by omega)
    rw [f_come_in]
    simp [b_come_in, Kd.den, Kd.la, Kd.lt, sFor, forN, f_within_of, b_within_of, ia, ib, mg_assoc]
  | f + 1, .fn a r b, S, xs, ys, h, hx, hy => by
    simp only [Kd.dep] at h
    simp only [Kd.sz] at hx hy
    have l1 := len_mg xs a.la
    have l2 := len_mg ys a.lt
    have l3 := len_la a
    have l4 := len_lt a
    have l5 := len_lo r
    have l6 := len_mg (mg ys a.lt) r.lo
    have ia := come_eq f a S xs ys (by omega) (by omega) (by omega)
    have ir := come_row r S (.dct (nD (mg xs a.la))) (mg ys a.lt) (by omega)
    have ib := come_eq f b S (mg xs a.la) (mg (mg ys a.lt) r.lo) (by omega) (by omega) (by omega)
    rw [f_come_in]
    simp [b_come_in, Kd.den, Kd.la, Kd.lt, ia, ir, ib]
    simp [mg_assoc]
theorem keys_nDF : ∀ (xs : List Nat) (i : Nat), (nDF i xs).map (fun p => keyD p.1) = xs.map fun n => .int (n : Nat)
  | [], _ => rfl
  | x :: xs, i => by rw [nDF, List.map_cons, keys_nDF xs (i + 1), List.map_cons]; rfl
theorem ok_nDF : ∀ (xs : List Nat) (i : Nat), (nDF i xs).all (fun p => keyOk p.1) = true
  | [], _ => rfl
  | x :: xs, i => by rw [nDF, List.all_cons, ok_nDF xs (i + 1)]; rfl
theorem nD_nil : ([] : List (Key × T)) = nD [] := rfl
theorem loose_of_eq (k : Kd) (S : So) (h : k.dep < 12) (hz : k.sz ≤ 10000) : f_loose_of [.d k.den] S = some (.d (loD k.la k.lt), S) := by
  have c := come_eq 11 k S [] [] h (by simp; omega) (by simp; omega)
  rw [mg_nil_l, mg_nil_l] at c
  have k1 := keys_nDF k.la 0
  have k2 := keys_nDF k.lt 0
  have o1 := ok_nDF k.la 0
  have o2 := ok_nDF k.lt 0
  simp [f_loose_of, b_loose_of, nD_nil, c]
  simp [nD, o1, o2, k1, k2, loD, nums]
theorem loose_of_u_eq (k : Kd) (S : So) (h : k.dep < 12) (hz : k.sz ≤ 10000) : f_loose_of__u [.d k.den] S = some (.u [.r (S.length + 2), .r (S.length + 3)], S ++ [.dct (nD k.la), .dct (nD k.lt), .lst (k.la.map fun n => .int (n : Nat)), .lst (k.lt.map fun n => .int (n : Nat))]) := by
  have c := come_eq 11 k S [] [] h (by simp; omega) (by simp; omega)
  rw [mg_nil_l, mg_nil_l] at c
  have k1 := keys_nDF k.la 0
  have k2 := keys_nDF k.lt 0
  have o1 := ok_nDF k.la 0
  have o2 := ok_nDF k.lt 0
  simp [f_loose_of__u, b_loose_of__u, nD_nil, c]
  simp [nD, o1, o2, k1, k2, capsOf, capOf]
end Mn.k20

/-! Q5: named anew -/
namespace Mn.k20
open PySem PySem.Spec PyProof.Rows L2 Mn
def gDF (g : Nat → T) : Nat → List Nat → List (Key × T)
  | _, [] => []
  | i, n :: r => (.inl (n : Nat), g i) :: gDF g (i + 1) r
theorem putT_new {kts : List (Key × T)} {n : Nat} {v : T} (h : ∀ p ∈ kts, p.1 ≠ .inl (n : Nat)) : putT kts (.inl (n : Nat)) v = kts ++ [(.inl (n : Nat), v)] := by
  unfold putT
  rw [if_neg]
  intro q
  obtain ⟨p, hp, e⟩ := List.any_eq_true.mp q
  exact h p hp (of_decide_eq_true e)
theorem keyD_i (i : Int) : keyD (.inl i) = .int i := rfl
theorem dc_eq {mv : Sem} {n0 : Nat} {L : Lc} (g : Nat → T) (hk : ∀ t u, (((wipeL L [6, 7]).set 6 (some (.d t))).set 7 (some (.d u)))[6]? = some (some (.d t)))
    (hm : ∀ (n i : Nat) (S : So), mv (((wipeL L [6, 7]).set 6 (some (.d (.int (n : Nat))))).set 7 (some (.d (.int (i : Nat))))) S = some (.d (g i), S)) :
    ∀ (xs : List Nat) (i : Nat) (acc : List (Key × T)) (S : So), S[n0]? = some (.dct acc) → xs.Nodup → (∀ n ∈ xs, ∀ p ∈ acc, p.1 ≠ .inl ((n : Nat) : Int)) → acc.length + xs.length ≤ 100000 →
      dcN (fTup [6, 7]) [6, 7] (eLoc 6) mv n0 (itemsT (nDF i xs)) L S = some (S.set n0 (.dct (acc ++ gDF g i xs)))
  | [], i, acc, S, hS, _, _, _ => by
    simp only [nDF, itemsT, List.map_nil, dcN, gDF, List.append_nil]
    congr 1
    refine List.ext_getElem? fun j => ?_
    rw [List.getElem?_set]
    split
    · rename_i e
      subst e
      have hl := (List.getElem?_eq_some_iff.mp hS).1
      rw [if_pos hl, hS]
    · rfl
  | n :: xs, i, acc, S, hS, hd, hn, hl => by
    rw [List.length_cons] at hl
    have hd' := List.nodup_cons.mp hd
    have e1 := hk (.int (n : Nat)) (.int (i : Nat))
    have e2 := hm n i S
    have hp := putT_new (v := g i) (hn n (List.mem_cons_self ..))
    have hl0 := (List.getElem?_eq_some_iff.mp hS).1
    have ih := dc_eq g hk hm xs (i + 1) (acc ++ [(.inl (n : Nat), g i)]) (S.set n0 (.dct (acc ++ [(.inl (n : Nat), g i)]))) (by rw [List.getElem?_set_self hl0]) hd'.2 (fun m hmm p hp => by
      rcases List.mem_append.mp hp with z | z
      · exact hn m (List.mem_cons_of_mem _ hmm) p z
      · rw [List.mem_singleton] at z
        subst z
        intro q
        injection q with q
        have : n = m := by omega
        subst this
        exact hd'.1 hmm) (by simp; omega)
    have hla : acc.length < 100000 := by omega
    simp only [itemsT] at ih ⊢
    simp only [nDF, List.map_cons, keyD_i, dcN, fTup, List.length_cons, List.length_nil, if_true, fNames, ev_eLoc, e1, e2, key_int, hS, if_pos hla, hp, ih, List.set_set, gDF, List.append_assoc, List.cons_append, List.nil_append]
theorem nodup_mg {xs ys : List Nat} (h : xs.Nodup) (k : ys.Nodup) : (mg xs ys).Nodup := by
  unfold mg
  refine List.nodup_append.mpr ⟨h, k.filter _, fun a ha b hb e => ?_⟩
  subst e
  have := (List.mem_filter.mp hb).2
  simp [ha] at this
theorem nodup_la : ∀ k : Kd, k.la.Nodup
  | .int | .bool | .unit | .any _ => by simp [Kd.la]
  | .lst a => nodup_la a
  | .pair a b => nodup_mg (nodup_la a) (nodup_la b)
  | .fn a r b => nodup_mg (nodup_la a) (nodup_la b)
theorem nodup_lo (r : Rw) : r.lo.Nodup := by
  unfold Rw.lo
  cases r.tl <;> simp
theorem nodup_lt : ∀ k : Kd, k.lt.Nodup
  | .int | .bool | .unit | .any _ => by simp [Kd.lt]
  | .lst a => nodup_lt a
  | .pair a b => nodup_mg (nodup_lt a) (nodup_lt b)
  | .fn a r b => nodup_mg (nodup_mg (nodup_lt a) (nodup_lo r)) (nodup_lt b)
def anyF : Nat → List Nat → Ks
  | _, [] => []
  | i, n :: r => (n, .any i) :: anyF (i + 1) r
def rowF : Nat → List Nat → Rs
  | _, [] => []
  | i, n :: r => (n, ⟨[], some i⟩) :: rowF (i + 1) r
theorem any_look (n : Nat) : ∀ (xs : List Nat) (i : Nat), n ∈ xs → (anyF i xs).lookup n = some (.any (i + xs.idxOf n))
  | [], _, h => by simp at h
  | x :: xs, i, h => by
    rw [anyF, List.lookup_cons, List.idxOf_cons]
    by_cases e : n = x
    · subst e
      simp
    · have h1 : (n == x) = false := by simpa using e
      have h2 : (x == n) = false := by simpa using fun q => e q.symm
      have h3 : n ∈ xs := by
        rcases List.mem_cons.mp h with q | q
        · exact absurd q e
        · exact q
      rw [h1, h2, any_look n xs (i + 1) h3]
      simp
      omega
theorem row_look (n : Nat) : ∀ (xs : List Nat) (i : Nat), n ∈ xs → (rowF i xs).lookup n = some ⟨[], some (i + xs.idxOf n)⟩
  | [], _, h => by simp at h
  | x :: xs, i, h => by
    rw [rowF, List.lookup_cons, List.idxOf_cons]
    by_cases e : n = x
    · subst e
      simp
    · have h1 : (n == x) = false := by simpa using e
      have h2 : (x == n) = false := by simpa using fun q => e q.symm
      have h3 : n ∈ xs := by
        rcases List.mem_cons.mp h with q | q
        · exact absurd q e
        · exact q
      rw [h1, h2, row_look n xs (i + 1) h3]
      simp
      omega
theorem row_nil (n : Nat) (q : Rw) : ∀ (xs : List Nat) (i : Nat), (rowF i xs).lookup n = some q → q.ns = []
  | [], _, h => by simp [rowF] at h
  | x :: xs, i, h => by
    rw [rowF, List.lookup_cons] at h
    split at h
    · cases h; rfl
    · exact row_nil n q xs (i + 1) h
theorem g_any : ∀ (xs : List Nat) (i : Nat), gDF (fun i => .tuple [.str "any", .int (i : Nat)]) i xs = kD (anyF i xs)
  | [], _ => rfl
  | x :: xs, i => by rw [gDF, g_any xs (i + 1)]; rfl
theorem g_row : ∀ (xs : List Nat) (i : Nat), gDF (fun i => .tuple [.str "row", .tuple [], .int (i : Nat)]) i xs = rD (rowF i xs)
  | [], _ => rfl
  | x :: xs, i => by rw [gDF, g_row xs (i + 1)]; rfl
/-- names in rows are sorted, few -/
def Rw.ok (r : Rw) : Prop := r.ns.Pairwise leS ∧ r.ns.length ≤ 12
def Kd.ok (k : Kd) : Prop := k.All (fun _ => True) Rw.ok
theorem put_row_nw (r : Rw) (ts : List Nat) (h : ∀ n, r.tl = some n → n ∈ ts) (ok : r.ok) : r.put (rowF 0 ts) = r.nw ts := by
  obtain ⟨ns, tl⟩ := r
  cases tl with
  | none => rfl
  | some n =>
    have e := row_look n ts 0 (h n rfl)
    simp only [Rw.put, e, Rw.nw, List.append_nil, sortS_id ok.1, Option.map_some, Nat.zero_add]
theorem put_nw (as ts : List Nat) : ∀ k : Kd, (∀ n ∈ k.la, n ∈ as) → (∀ n ∈ k.lt, n ∈ ts) → k.ok → k.put (anyF 0 as) (rowF 0 ts) = k.nw as ts
  | .int, _, _, _ | .bool, _, _, _ | .unit, _, _, _ => rfl
  | .any n, h, _, _ => by
    have e := any_look n as 0 (h n (by simp [Kd.la]))
    simp only [Kd.put, e, Kd.nw, Kd.led, Nat.zero_add]
  | .lst a, h, g, o => by
    have e := put_nw as ts a h g o
    simp only [Kd.put, e, Kd.nw, Kd.led]
  | .pair a b, h, g, o => by
    have e := put_nw as ts a (fun n hn => h n (mem_mg.mpr (.inl hn))) (fun n hn => g n (mem_mg.mpr (.inl hn))) o.1
    have e2 := put_nw as ts b (fun n hn => h n (mem_mg.mpr (.inr hn))) (fun n hn => g n (mem_mg.mpr (.inr hn))) o.2
    simp only [Kd.put, e, e2, Kd.nw, Kd.led]
  | .fn a r b, h, g, o => by
    have e := put_nw as ts a (fun n hn => h n (mem_mg.mpr (.inl hn))) (fun n hn => g n (mem_mg.mpr (.inl (mem_mg.mpr (.inl hn))))) o.1
    have e2 := put_nw as ts b (fun n hn => h n (mem_mg.mpr (.inr hn))) (fun n hn => g n (mem_mg.mpr (.inr hn))) o.2.2
    have e3 := put_row_nw r ts (fun n hn => g n (mem_mg.mpr (.inl (mem_mg.mpr (.inr (by simp [Rw.lo, hn])))))) o.2.1
    simp only [Kd.put, e, e2, e3, Kd.nw, Kd.led]
end Mn.k20

/-! Q6: named anew, the program's and the law's -/
namespace Mn.k20
open PySem PySem.Spec PyProof.Rows L2 Mn
theorem set_self' {S : So} {n : Nat} {c : Cell} (h : S[n]? = some c) : S.set n c = S := by
  refine List.ext_getElem? fun j => ?_
  rw [List.getElem?_set]
  split
  · rename_i e
    subst e
    rw [if_pos (List.getElem?_eq_some_iff.mp h).1, h]
  · rfl
theorem dcI_eq {mv : Sem} {L : Lc} {S : So} {i n : Nat} {xs : List Nat} (g : Nat → T) (hL : L[i]? = some (some (.r n))) (hS : S[n]? = some (.dct (nD xs))) (hd : xs.Nodup) (hl : xs.length ≤ 100000)
    (hk : ∀ t u, (((wipeL L [6, 7]).set 6 (some (.d t))).set 7 (some (.d u)))[6]? = some (some (.d t)))
    (hm : ∀ (n i : Nat) (S : So), mv (((wipeL L [6, 7]).set 6 (some (.d (.int (n : Nat))))).set 7 (some (.d (.int (i : Nat))))) S = some (.d (g i), S)) :
    eDcI i (fTup [6, 7]) [6, 7] (eLoc 6) mv L S = some (.r S.length, S ++ [.dct (gDF g 0 xs)]) := by
  have hn := (List.getElem?_eq_some_iff.mp hS).1
  have e := dc_eq (n0 := S.length) g hk hm xs 0 [] (S.set n .lock ++ [.dct []]) (by
    have := st0 (S := S.set n .lock) (c := .dct []) (r := [])
    rwa [List.length_set] at this) hd (by simp) (by simpa using hl)
  have e2 : (S.set n .lock ++ [.dct []] : So).set S.length (.dct ([] ++ gDF g 0 xs)) = (S.set n .lock ++ [.dct (gDF g 0 xs)] : So) := by
    have := st0s (S := S.set n .lock) (c := .dct []) (c' := .dct (gDF g 0 xs)) (r := [])
    rw [List.length_set] at this
    simpa using this
  rw [e2] at e
  have e3 : (S.set n .lock ++ [.dct (gDF g 0 xs)] : So)[n]? = some .lock := by
    rw [List.getElem?_append_left (by rw [List.length_set]; exact hn), List.getElem?_set_self hn]
  have e4 : (S.set n .lock ++ [.dct (gDF g 0 xs)] : So)[S.length]? = some (.dct (gDF g 0 xs)) := by
    have := st0 (S := S.set n .lock) (c := .dct (gDF g 0 xs)) (r := [])
    rwa [List.length_set] at this
  have e5 : (S.set n .lock ++ [.dct (gDF g 0 xs)] : So).take S.length = S.set n .lock := List.take_left' (by simp)
  have e6 : (S.set n .lock).set n (.dct (nD xs)) = S := by rw [List.set_set, set_self' hS]
  unfold eDcI
  simp only [hL, hS, show (nD xs).all (fun p => keyOk p.1) = true from ok_nDF xs 0, if_true]
  simp only [nD] at e6 ⊢
  simp only [e, e3, e4, e5, e6]
theorem fits_rowF (ts : List Nat) : ∀ k : Kd, k.ok → k.fits (rowF 0 ts)
  | .int, _ | .bool, _ | .unit, _ | .any _, _ => trivial
  | .lst a, h => fits_rowF ts a h
  | .pair a b, h => ⟨fits_rowF ts a h.1, fits_rowF ts b h.2⟩
  | .fn a r b, h => ⟨fits_rowF ts a h.1, fun n q e => by have := h.2.1.2; rw [row_nil n q ts 0 e]; simp; omega, fits_rowF ts b h.2.2⟩
def anewD (k : Kd) (r : Rw) : T := .tuple [(k.nw k.la (mg k.lt r.lo)).den, (r.nw (mg k.lt r.lo)).den]
theorem named_eq (k : Kd) (r : Rw) (S : So) (h : k.dep < 12) (hz : k.sz ≤ 10000) (ok : k.ok) (rk : r.ok) : f_named_anew_of [.d k.den, .d r.den] S = some (.d (anewD k r), S) := by
  have c := come_eq 11 k S [] [] h (by simp; omega) (by simp; omega)
  rw [mg_nil_l, mg_nil_l] at c
  have l1 := len_la k
  have l2 := len_lt k
  have l3 := len_mg k.lt r.lo
  have l4 := len_lo r
  have cr := come_row r S (.dct (nD k.la)) k.lt (by omega)
  let S2 := S ++ [.dct (nD k.la), .dct (nD (mg k.lt r.lo))]
  let L2 : Lc := [some (.d k.den), some (.d r.den), some (.r S.length), some (.r (S.length + 1)), none, none, none, none]
  have d1 := dcI_eq (mv := eTup (aCons (eC k_ANY) (aCons (eLoc 7) aNil))) (L := L2) (S := S2) (i := 2) (n := S.length) (xs := k.la) (fun i => .tuple [.str "any", .int (i : Nat)]) rfl (by simp [S2]) (nodup_la k) (by omega) (fun t u => by simp [L2, wipeL]) (fun n i S => by simp [L2, wipeL])
  rw [g_any] at d1
  let S3 := S2 ++ [.dct (kD (anyF 0 k.la))]
  let L3 : Lc := [some (.d k.den), some (.d r.den), some (.r S.length), some (.r (S.length + 1)), some (.r S2.length), none, none, none]
  have d2 := dcI_eq (mv := eTup (aCons (eC k_ROW) (aCons (eTup aNil) (aCons (eLoc 7) aNil)))) (L := L3) (S := S3) (i := 3) (n := S.length + 1) (xs := mg k.lt r.lo) (fun i => .tuple [.str "row", .tuple [], .int (i : Nat)]) rfl (by simp [S3, S2]) (nodup_mg (nodup_lt k) (nodup_lo r)) (by omega) (fun t u => by simp [L3, wipeL]) (fun n i S => by simp [L3, wipeL])
  rw [g_row] at d2
  let S4 := S3 ++ [.dct (rD (rowF 0 (mg k.lt r.lo)))]
  have p1 := put_eq 11 k (anyF 0 k.la) (rowF 0 (mg k.lt r.lo)) S4 S2.length S3.length h (by simp [S4, S3, S2]) (by simp [S4, S3, S2]) (fits_rowF _ k ok)
  have p2 := put_row_eq r (rowF 0 (mg k.lt r.lo)) S4 S3.length (by simp [S4, S3, S2]) (fun n q e => by have := rk.2; rw [row_nil n q _ 0 e]; simp; omega)
  rw [put_nw k.la (mg k.lt r.lo) k (fun _ h => h) (fun n hn => mem_mg.mpr (.inl hn)) ok] at p1
  rw [put_row_nw r (mg k.lt r.lo) (fun n hn => mem_mg.mpr (.inr (by simp [Rw.lo, hn]))) rk] at p2
  simp [S4, S3, S2, L2, L3] at d1 d2 p1 p2
  simp [f_named_anew_of, b_named_anew_of, nD_nil, c, cr, d1, d2, p1, p2, anewD]
/-! the law's -/
theorem all_in (as ts : List Nat) : ∀ k : Kd, (∀ n ∈ k.la, n ∈ as) → (∀ n ∈ k.lt, n ∈ ts) → k.All (fun n => n ∈ as) (fun r => ∀ n, r.tl = some n → n ∈ ts)
  | .int, _, _ | .bool, _, _ | .unit, _, _ => trivial
  | .any n, h, _ => h n (by simp [Kd.la])
  | .lst a, h, g => all_in as ts a h g
  | .pair a b, h, g => ⟨all_in as ts a (fun n hn => h n (mem_mg.mpr (.inl hn))) (fun n hn => g n (mem_mg.mpr (.inl hn))), all_in as ts b (fun n hn => h n (mem_mg.mpr (.inr hn))) (fun n hn => g n (mem_mg.mpr (.inr hn)))⟩
  | .fn a r b, h, g => ⟨all_in as ts a (fun n hn => h n (mem_mg.mpr (.inl hn))) (fun n hn => g n (mem_mg.mpr (.inl (mem_mg.mpr (.inl hn))))),
      fun n hn => g n (mem_mg.mpr (.inl (mem_mg.mpr (.inr (by simp [Rw.lo, hn]))))), all_in as ts b (fun n hn => h n (mem_mg.mpr (.inr hn))) (fun n hn => g n (mem_mg.mpr (.inr hn)))⟩
theorem anew_eq (k : Kd) (r : Rw) (S : So) (h : k.dep < 12) (hz : k.sz ≤ 10000) : f__law_anew [.d k.den, .d r.den] S = some (.d (anewD k r), S) := by
  have lk := loose_eq 11 k S h hz
  have lr := loose_row 11 r S
  have l2 := len_lt k
  have l4 := len_lo r
  have hr : ∀ n, r.tl = some n → n ∈ mg k.lt r.lo := fun n hn => mem_mg.mpr (.inr (by simp [Rw.lo, hn]))
  have e := led_eq (fun n => .any (k.la.idxOf n)) (Rw.nw (mg k.lt r.lo)) (fun n => n ∈ k.la) (fun q => ∀ n, q.tl = some n → n ∈ mg k.lt r.lo) 0 1 [.d (nums k.la)] [.d (nums (mg k.lt r.lo))] (fun _ => True) (fun S r p => trivial)
    (fun S _ n hn => by simp [tabF, m_0, Cap.vl, Kd.den, nums, isIntT, idx_nums n k.la hn]) (fun S _ q hq => by
      have e := row_anew_eq q (mg k.lt r.lo) S hq
      simp [tabF, m_1, Cap.vl, e]) 11 k S h trivial (all_in k.la (mg k.lt r.lo) k (fun _ h => h) fun n hn => mem_mg.mpr (.inl hn))
  have e2 := row_anew_eq r (mg k.lt r.lo) S hr
  have c := comp_no (m := eBin fIdx (eCall (f__law_loose 12) (aCons (eLoc 1) aNil)) (eC (.int 1))) (i := 3) (j := 4) (L := [some (.d k.den), some (.d r.den), some (.d (nums k.la)), some (.d (nums k.lt)), none]) (S := S) (S1 := S) (xs := k.lt) (ys := r.lo) (by simp [lr, loD]) (fun t => by simp [wipeL]) (fun t => by simp [wipeL]) (by omega)
  have f1 := filt_le k.lt r.lo
  have a1 := nums_add k.lt (r.lo.filter fun n => !k.lt.contains n) (by omega)
  rw [show k.lt ++ r.lo.filter (fun n => !k.lt.contains n) = mg k.lt r.lo from rfl] at a1
  have cs : capsAt [some (.d k.den), some (.d r.den), some (.d (nums k.la)), some (.d (nums (mg k.lt r.lo))), none] [2] = some [.d (nums k.la)] := rfl
  have cs2 : capsAt [some (.d k.den), some (.d r.den), some (.d (nums k.la)), some (.d (nums (mg k.lt r.lo))), none] [3] = some [.d (nums (mg k.lt r.lo))] := rfl
  unfold f__law_anew b__law_anew
  simp only [ev_runT, ev_run, ev_startL, List.map_cons, List.map_nil, List.length_cons, List.length_nil, Nat.reduceAdd, if_true, Nat.reduceSub, List.replicate, List.cons_append, List.nil_append, ev_sSeq, ev_sAsg, ev_eCall, ev_aCons, ev_aNil, ev_eLoc, List.getElem?_cons_succ, List.getElem?_cons_zero, lk, loD, ev_tTuple, ev_tgCons, ev_tName, ev_tgNil, List.set_cons_succ, List.set_cons_zero, ev_sSet, ev_eBin, c, ev_de_d, a1]
  simp [cs, cs2, e, e2, anewD, Kd.nw]
end Mn.k20

/-! Q7: names, rows and kinds are such -/
namespace Mn.k20
open PySem PySem.Spec PyProof.Rows L2 Mn
@[simp] theorem isi_tt (ts : List T) : isiT "tuple" (.tuple ts) = true := rfl
@[simp] theorem isi_ss (x : Str) : isiT "str" (.str x) = true := rfl
@[simp] theorem isi_ii (i : Int) : isiT "int" (.int i) = true := rfl
@[simp] theorem isi_bi (i : Int) : isiT "bool" (.int i) = false := by show ("bool" == "int") = false; decide
@[simp] theorem isi_st (ts : List T) : isiT "str" (.tuple ts) = false := by show ("str" == "tuple") = false; decide
def NM : List Str := ["A", "B", "Get", "Zz"]
def ALL : Str := "abcdefghijklmnopqrstuvwxyzABCDEFGHIJKLMNOPQRSTUVWXYZ0123456789"
theorem bools_true : ∀ ts : List T, (∀ t ∈ ts, t = .bool true) → ∃ bs, boolsT ts = some bs ∧ bs.all id = true
  | [], _ => ⟨[], rfl, rfl⟩
  | t :: r, h => by
    obtain ⟨bs, e1, e2⟩ := bools_true r fun u hu => h u (List.mem_cons_of_mem _ hu)
    rw [h t (List.mem_cons_self ..)]
    exact ⟨true :: bs, by simp only [boolsT, e1], by simpa using e2⟩
theorem all_true (ts : List T) (h : ∀ t ∈ ts, t = .bool true) : bAll [.list ts] = some (.bool true) := by
  obtain ⟨bs, e1, e2⟩ := bools_true ts h
  simp only [bAll, e1, e2]
theorem all_map (ts : List T) : bAll [.list (ts.map fun _ => .bool true)] = some (.bool true) := all_true _ fun t h => by
  obtain ⟨_, _, e⟩ := List.mem_map.mp h
  exact e.symm
def SL (x : Str) : Lc := [some (.d (.str x)), some (.d k_GREAT), some (.d (.str ALL)), none]
theorem signs_of (x : Str) (ts : List T) (h0 : ∀ S, eOr (eNot (eIsi "str" (eLoc 0))) (eNot (eChain fLe fLe (eC (.int 1)) (eBlt bLen (aCons (eLoc 0) aNil)) (eC k_MOST_SIGNS))) (SL x) S = some (.d (.bool false), S)) (h1 : ∀ S, eBin fIn (eBin fIdx (eLoc 0) (eC (.int 0))) (eLoc 1) (SL x) S = some (.d (.bool true), S))
    (h2 : ∀ S, iStrM (eLoc 0) (SL x) S = some (ts, S)) (h3 : ∀ t ∈ ts, ∀ S, eBin fIn (eLoc 3) (eLoc 2) [some (.d (.str x)), some (.d k_GREAT), some (.d (.str ALL)), some (.d t)] S = some (.d (.bool true), S)) (h4 : ts.length ≤ 100000) (S : So) : f_has_signs [.d (.str x), .d k_GREAT, .d (.str ALL)] S = some (.d (.bool true), S) := by
  have c := comp_map (elt := eBin fIn (eLoc 3) (eLoc 2)) (f := fName 3) (vs := [3]) (fun _ => .bool true) (h2 S) (fun t ht => ⟨_, rfl, fun acc => h3 t ht _⟩) h4
  have a := all_map ts
  have h0' := h0 S
  have h1' := h1 S
  simp only [SL] at h0' h1' c
  unfold f_has_signs b_has_signs
  simp only [ev_runT, ev_run, ev_startL, List.map_cons, List.map_nil, List.length_cons, List.length_nil, Nat.reduceAdd, if_true, Nat.reduceSub, List.replicate, List.cons_append, List.nil_append, ev_sSeq, ev_sIf, h0', ev_sNil, ev_sRet, ev_eAnd, h1', ev_eBlt, ev_aCons, c, ev_aNil, ev_ds1, ev_ds0, ev_de_d, a, ev_fin_d, List.take_length]
theorem signs (x : Str) (hx : x ∈ NM) (S : So) : f_has_signs [.d (.str x), .d k_GREAT, .d (.str ALL)] S = some (.d (.bool true), S) := by
  simp only [NM, List.mem_cons, List.not_mem_nil, or_false] at hx
  rcases hx with rfl | rfl | rfl | rfl
  · exact signs_of _ [.str "A"] (fun S => by kernel_rfl) (fun S => by kernel_rfl) (fun S => by kernel_rfl) (fun t ht S => by simp only [List.mem_cons, List.not_mem_nil, or_false] at ht; subst ht; kernel_rfl) (by decide) S
  · exact signs_of _ [.str "B"] (fun S => by kernel_rfl) (fun S => by kernel_rfl) (fun S => by kernel_rfl) (fun t ht S => by simp only [List.mem_cons, List.not_mem_nil, or_false] at ht; subst ht; kernel_rfl) (by decide) S
  · exact signs_of _ [.str "G", .str "e", .str "t"] (fun S => by kernel_rfl) (fun S => by kernel_rfl) (fun S => by kernel_rfl) (fun t ht S => by simp only [List.mem_cons, List.not_mem_nil, or_false] at ht; rcases ht with rfl | rfl | rfl <;> kernel_rfl) (by decide) S
  · exact signs_of _ [.str "Z", .str "z"] (fun S => by kernel_rfl) (fun S => by kernel_rfl) (fun S => by kernel_rfl) (fun t ht S => by simp only [List.mem_cons, List.not_mem_nil, or_false] at ht; rcases ht with rfl | rfl <;> kernel_rfl) (by decide) S
theorem ask_name (x : Str) (hx : x ∈ NM) (S : So) : f_is_ask_name [.d (.str x)] S = some (.d (.bool true), S) := by
  have e : eBin fAdd (eBin fAdd (eC k_SMALL) (eC k_GREAT)) (eC k_FIGURES) [some (.d (.str x))] S = some (.d (.str ALL), S) := by kernel_rfl
  have s := signs x hx S
  unfold f_is_ask_name b_is_ask_name
  simp only [ev_runT, ev_run, ev_startL, List.map_cons, List.map_nil, List.length_cons, List.length_nil, Nat.reduceAdd, if_true, Nat.reduceSub, List.replicate, List.cons_append, List.nil_append, ev_sRet, ev_eCall, ev_aCons, ev_aNil, ev_eLoc, List.getElem?_cons_zero, ev_eC, e, s, ev_fin_d, List.take_length]
theorem eqvAll_strs : ∀ xs : List Str, PyData.eqvAll (xs.map .str) (xs.map .str) = true
  | [] => rfl
  | x :: r => by simp [PyData.eqvAll, PyData.eqv, eqvAll_strs r]
theorem depth_strs : ∀ xs : List Str, PyData.depthAll (xs.map .str) = 0
  | [] => rfl
  | x :: r => by simp [PyData.depthAll, PyData.depth, depth_strs r]
theorem names_eq (ns : List Str) (h1 : ns.Pairwise leS) (h2 : ns.length ≤ 12) (h3 : ∀ x ∈ ns, x ∈ NM) (S : So) : f_are_names [.d (.tuple (ns.map .str))] S = some (.d (.bool true), S) := by
  have c := comp_map (src := iTupM (eLoc 0)) (elt := eCall f_is_ask_name (aCons (eLoc 1) aNil)) (f := fName 1) (vs := [1]) (L := [some (.d (.tuple (ns.map .str))), none]) (S := S) (S1 := S) (ts := ns.map .str) (fun _ => .bool true) (by simp) (fun t ht => ⟨_, rfl, fun acc => by
    obtain ⟨x, hx, rfl⟩ := List.mem_map.mp ht
    simp [wipeL, ask_name x (h3 x hx)]⟩) (by simp; omega)
  have a := all_map (ns.map .str)
  rw [List.map_map] at c a
  have hl : ns.length < 64 := by omega
  have e : fEq (.list (ns.map .str)) (.list (ns.map .str)) = some (.bool true) := by simp [fEq, PyData.depth, depth_strs, PyData.eqv, eqvAll_strs]
  simp [f_are_names, b_are_names, c, a, hl, sortS_id h1, e]
/-- a row that is one -/
def Rw.good (r : Rw) : Prop := r.ok ∧ ∀ x ∈ r.ns, x ∈ NM
theorem count_eq (n : Nat) (S : So) : f_is_count [.d (.int (n : Nat))] S = some (.d (.bool true), S) := by simp [f_is_count, b_is_count, f_is_integer, b_is_integer]
theorem row_is (r : Rw) (h : r.good) (S : So) : f_is_row_of [.d r.den] S = some (.d (.bool true), S) := by
  obtain ⟨ns, tl⟩ := r
  have e := names_eq ns h.1.1 h.1.2 h.2 S
  cases tl with
  | none => simp [f_is_row_of, b_is_row_of, Rw.den, f_has_many, b_has_many, e]
  | some n => simp [f_is_row_of, b_is_row_of, Rw.den, f_has_many, b_has_many, e, count_eq]
end Mn.k20

/-! Q8: kinds are such -/
namespace Mn.k20
open PySem PySem.Spec PyProof.Rows L2 Mn
def KB : Sts := (sSeq (sSet 2 (ePop (eLoc 1))) (sSeq (sIf (eOr (eNot (eIsi "tuple" (eLoc 2))) (eOr (eBin fEq (eLoc 2) (eTup aNil)) (eNot (eIsi "str" (eBin fIdx (eLoc 2) (eC (.int 0))))))) (sRet (eC (.bool false))) sNil) (sSeq (sPar 3 4 (aCons (eBin fIdx (eLoc 2) (eC (.int 0))) (aCons (eBlt bLen (aCons (eLoc 2) aNil)) aNil))) (sIf (eAnd (eBin fEq (eLoc 3) (eC k_LIST)) (eBin fEq (eLoc 4) (eC (.int 2)))) (sDrop (eApp (eLoc 1) (eBin fIdx (eLoc 2) (eC (.int 1))))) (sIf (eAnd (eBin fEq (eLoc 3) (eC k_PAIR)) (eBin fEq (eLoc 4) (eC (.int 3)))) (sDrop (eExt (eLoc 1) (eSl (eLoc 2) (some (eC (.int 1))) none))) (sIf (eAnd (eBin fEq (eLoc 3) (eC k_FN)) (eAnd (eBin fEq (eLoc 4) (eC (.int 4))) (eCall f_is_row_of (aCons (eBin fIdx (eLoc 2) (eC (.int 2))) aNil)))) (sDrop (eExt (eLoc 1) (eLst (aCons (eBin fIdx (eLoc 2) (eC (.int 1))) (aCons (eBin fIdx (eLoc 2) (eC (.int 3))) aNil))))) (sIf (eNot (eOr (eAnd (eBin fIn (eLoc 3) (eC k_PLAIN)) (eBin fEq (eLoc 4) (eC (.int 1)))) (eAnd (eBin fEq (eLoc 3) (eC k_ANY)) (eAnd (eBin fEq (eLoc 4) (eC (.int 2))) (eCall f_is_count (aCons (eBin fIdx (eLoc 2) (eC (.int 1))) aNil)))))) (sRet (eC (.bool false))) sNil)))))))
theorem kind_body : b_is_kind_of = (sSeq (sSet 1 (eNew (aCons (eLoc 0) aNil))) (sSeq (sWhile (eBin fNe (eLoc 1) (eLst aNil)) KB) (sRet (eC (.bool true))))) := rfl
def Kd.kids : Kd → List Kd
  | .lst a => [a]
  | .pair a b => [a, b]
  | .fn a _ b => [a, b]
  | _ => []
/-- a kind that is one -/
def Kd.good (k : Kd) : Prop := k.All (fun n => n < 100) Rw.good
theorem ne_nil_t (t : T) (ts : List T) : fEq (.tuple (t :: ts)) (.tuple []) = some (.bool false) := by simp [fEq, PyData.depth, PyData.depthAll, PyData.eqv, PyData.eqvAll]
def KL (x0 x2 x3 x4 : Option Vl) (n : Nat) : Lc := [x0, some (.r n), x2, x3, x4]
theorem KB_eq (k : Kd) (h : k.good) (x0 x2 x3 x4 : Option Vl) (S : So) (ts : List T) (hl : ts.length ≤ 50000) :
    ∃ y2 y3 y4, KB (KL x0 x2 x3 x4 S.length) (S ++ [.lst (ts ++ [k.den])]) = some (.nx (KL x0 y2 y3 y4 S.length) (S ++ [.lst (ts ++ k.kids.map Kd.den)])) := by
  have h1 : ts.length < 100000 := by omega
  have h2 : ts.length + 2 ≤ 100000 := by omega
  cases k with
  | int => exact ⟨_, _, _, by simp [KB, KL, Kd.den, Kd.kids, ne_nil_t]; exact ⟨rfl, rfl, rfl⟩⟩
  | bool => exact ⟨_, _, _, by simp [KB, KL, Kd.den, Kd.kids, ne_nil_t]; exact ⟨rfl, rfl, rfl⟩⟩
  | unit => exact ⟨_, _, _, by simp [KB, KL, Kd.den, Kd.kids, ne_nil_t]; exact ⟨rfl, rfl, rfl⟩⟩
  | any n => exact ⟨_, _, _, by simp [KB, KL, Kd.den, Kd.kids, ne_nil_t, count_eq]; exact ⟨rfl, rfl, rfl⟩⟩
  | lst a => exact ⟨_, _, _, by simp [KB, KL, Kd.den, Kd.kids, ne_nil_t, h1]; exact ⟨rfl, rfl, rfl⟩⟩
  | pair a b => exact ⟨_, _, _, by simp [KB, KL, Kd.den, Kd.kids, ne_nil_t, h2]; exact ⟨rfl, rfl, rfl⟩⟩
  | fn a r b =>
    have e := fun S => row_is r h.2.1 S
    exact ⟨_, _, _, by simp [KB, KL, Kd.den, Kd.kids, ne_nil_t, h2, e]; exact ⟨rfl, rfl, rfl⟩⟩
def szs : List Kd → Nat
  | [] => 0
  | k :: r => k.sz + szs r
theorem szs_app : ∀ a b : List Kd, szs (a ++ b) = szs a + szs b
  | [], b => by simp [szs]
  | k :: a, b => by simp only [List.cons_append, szs, szs_app a b]; omega
theorem szs_len : ∀ a : List Kd, a.length ≤ szs a
  | [] => Nat.le_refl _
  | k :: a => by have := szs_len a; have := sz_pos k; simp only [List.length_cons, szs]; omega
theorem szs_kids (k : Kd) : szs k.kids + 1 = k.sz := by cases k <;> simp [Kd.kids, szs, Kd.sz]
theorem kids_good {k : Kd} (h : k.good) : ∀ a ∈ k.kids, a.good := by
  intro a ha
  cases k with
  | lst b => simp only [Kd.kids, List.mem_singleton] at ha; subst ha; exact h
  | pair b c => simp only [Kd.kids, List.mem_cons, List.not_mem_nil, or_false] at ha; rcases ha with rfl | rfl; exact h.1; exact h.2
  | fn b r c => simp only [Kd.kids, List.mem_cons, List.not_mem_nil, or_false] at ha; rcases ha with rfl | rfl; exact h.1; exact h.2.2
  | _ => simp [Kd.kids] at ha
theorem ne_cell (n : Nat) (S : So) (L : Lc) (ts : List T) (hL : L[1]? = some (some (.r S.length))) : eBin fNe (eLoc 1) (eLst aNil) L (S ++ [.lst ts]) = some (.d (.bool (!ts.isEmpty)), S ++ [.lst ts]) := by
  have h : fNe (.list ts) (.list []) = some (.bool (!ts.isEmpty)) := by cases ts <;> simp [fNe, PyData.depth, PyData.depthAll, PyData.eqv, PyData.eqvAll]
  simp only [ev_eBin, ev_eLoc, hL, ev_eLst, ev_aNil, ev_da0, List.length_nil, Nat.zero_le, if_true, ev_de_r, st0, ev_de_d, h]
theorem kind_loop (x0 : Option Vl) (S : So) : ∀ (n : Nat) (js : List Kd) (x2 x3 x4 : Option Vl), szs js < n → szs js ≤ 50000 → (∀ k ∈ js, k.good) →
    ∃ y2 y3 y4, whN (eBin fNe (eLoc 1) (eLst aNil)) KB n (KL x0 x2 x3 x4 S.length) (S ++ [.lst (js.map Kd.den)]) = some (.nx (KL x0 y2 y3 y4 S.length) (S ++ [.lst []]))
  | 0, js, x2, x3, x4, h, _, _ => absurd h (Nat.not_lt_zero _)
  | n + 1, js, x2, x3, x4, h, hz, hg => by
    have c := ne_cell n S (KL x0 x2 x3 x4 S.length) (js.map Kd.den) rfl
    rcases List.eq_nil_or_concat js with e | ⟨r, k, e⟩
    · subst e
      rw [List.map_nil] at c
      exact ⟨x2, x3, x4, by rw [List.map_nil]; simp only [whN, c, List.isEmpty_nil, Bool.not_true]⟩
    · rw [List.concat_eq_append] at e
      subst e
      have hk : k.good := hg k (by simp)
      have s1 : szs (r ++ [k]) = szs r + k.sz := by rw [szs_app]; simp [szs]
      have s2 := szs_kids k
      have s3 := szs_len r
      obtain ⟨y2, y3, y4, e⟩ := KB_eq k hk x0 x2 x3 x4 S (r.map Kd.den) (by simp; omega)
      obtain ⟨z2, z3, z4, e2⟩ := kind_loop x0 S n (r ++ k.kids) y2 y3 y4 (by rw [szs_app]; omega) (by rw [szs_app]; omega) (fun a ha => by
        rcases List.mem_append.mp ha with q | q
        · exact hg a (List.mem_append_left _ q)
        · exact kids_good hk a q)
      have ne : (!(List.map Kd.den (r ++ [k])).isEmpty) = true := by simp
      rw [ne] at c
      rw [List.map_append] at e2
      refine ⟨z2, z3, z4, ?_⟩
      simp only [whN, c]
      rw [List.map_append, List.map_cons, List.map_nil, e]
      exact e2
theorem kind_is (k : Kd) (h : k.good) (hz : k.sz ≤ 10000) (S : So) : f_is_kind_of [.d k.den] S = some (.d (.bool true), S) := by
  obtain ⟨y2, y3, y4, e⟩ := kind_loop (some (.d k.den)) S 1000000 [k] none none none (by simp only [szs]; omega) (by simp only [szs]; omega) (by simpa using h)
  have e' : sWhile (eBin fNe (eLoc 1) (eLst aNil)) KB [some (.d k.den), some (.r S.length), none, none, none] (S ++ [.lst [k.den]]) = some (.nx [some (.d k.den), some (.r S.length), y2, y3, y4] (S ++ [.lst []])) := e
  simp [f_is_kind_of, kind_body, e']
end Mn.k20

/-! Q9: puttings are such; the interface -/
namespace Mn.k20
open PySem PySem.Spec PyProof.Rows L2 Mn
theorem gt_kind : gtF "is_kind_of" = f_is_kind_of := by kernel_rfl
theorem gt_row : gtF "is_row_of" = f_is_row_of := by kernel_rfl
def enc (p : Nat × T) : T := .tuple [.int (p.1 : Nat), p.2]
theorem sl_tail (ts : List T) : fSl (.tuple ts) (some 1) none = some (.tuple ts.tail) := by
  cases ts with
  | nil => kernel_rfl
  | cons t r => exact sl1_
theorem zip_lt : ∀ ps : List (Nat × T), ps.Pairwise (fun p q => p.1 < q.1) → ∀ t ∈ zipT (ps.map enc) (ps.map enc).tail, ∃ p q, t = .tuple [enc p, enc q] ∧ p.1 < q.1
  | [], _, t, h => by simp [zipT] at h
  | [p], _, t, h => by simp [zipT] at h
  | p :: q :: r, hp, t, h => by
    have h1 := List.pairwise_cons.mp hp
    simp only [List.map_cons, List.tail_cons, zipT, List.mem_cons] at h
    rcases h with e | h
    · exact ⟨p, q, e, h1.1 q (by simp)⟩
    · exact zip_lt (q :: r) h1.2 t (by simpa using h)
theorem zip_le : ∀ ts us : List T, (zipT ts us).length ≤ ts.length
  | [], us => by simp [zipT]
  | t :: r, [] => by simp [zipT]
  | t :: r, u :: q => by have := zip_le r q; simp only [zipT, List.length_cons]; omega
@[simp] theorem tk1 (S : So) (a : Cell) : List.take (S.length + 1) (S ++ [a]) = S ++ [a] := List.take_of_length_le (by simp)
theorem put_by_eq (x : Str) (ps : List (Nat × T)) (hp : ps.Pairwise (fun p q => p.1 < q.1)) (hl : ps.length ≤ 100) (hx : ∀ p ∈ ps, ∀ S, gtF x [.d p.2] S = some (.d (.bool true), S)) (S : So) : f_are_put_by [.d (.tuple (ps.map enc)), .g x] S = some (.d (.bool true), S) := by
  have ll : (ps.map enc).length ≤ 100000 := by simp; omega
  have c1 := comp_map (src := iTupM (eLoc 0)) (elt := eCall f_has_many (aCons (eLoc 2) (aCons (eC (.int 2)) aNil))) (f := fName 2) (vs := [2]) (L := [some (.d (.tuple (ps.map enc))), some (.g x), none, none, none, none, none]) (S := S) (S1 := S) (ts := ps.map enc) (fun _ => .bool true) (by simp) (fun t ht => ⟨_, rfl, fun acc => by
    obtain ⟨p, hp, rfl⟩ := List.mem_map.mp ht
    simp [wipeL, f_has_many, b_has_many, enc]⟩) ll
  have c2 := comp_map (src := iTupM (eLoc 0)) (elt := eAnd (eCall f_is_count (aCons (eLoc 3) aNil)) (eCallV tabF gtF 1 (aCons (eLoc 4) aNil))) (f := fTup [3, 4]) (vs := [3, 4]) (L := [some (.d (.tuple (ps.map enc))), some (.g x), none, none, none, none, none]) (S := S) (S1 := S) (ts := ps.map enc) (fun _ => .bool true) (by simp) (fun t ht => by
    obtain ⟨p, hp, rfl⟩ := List.mem_map.mp ht
    exact ⟨_, rfl, fun acc => by simp [wipeL, fNames, count_eq, hx p hp]⟩) ll
  have c3 := comp_map (src := iZipM (aCons (eLoc 0) (aCons (eSl (eLoc 0) (some (eC (.int 1))) none) aNil))) (elt := eBin fLt (eBin fIdx (eLoc 5) (eC (.int 0))) (eBin fIdx (eLoc 6) (eC (.int 0)))) (f := fTup [5, 6]) (vs := [5, 6]) (L := [some (.d (.tuple (ps.map enc))), some (.g x), none, none, none, none, none]) (S := S) (S1 := S) (ts := zipT (ps.map enc) (ps.map enc).tail) (fun _ => .bool true) (by simp [sl_tail]) (fun t ht => by
    obtain ⟨p, q, rfl, h⟩ := zip_lt ps hp t ht
    exact ⟨_, rfl, fun acc => by simp [wipeL, fNames, enc, h]⟩) (by have := zip_le (ps.map enc) (ps.map enc).tail; omega)
  have a1 := all_map (ps.map enc)
  have a2 := all_map (zipT (ps.map enc) (ps.map enc).tail)
  unfold f_are_put_by b_are_put_by
  simp only [ev_runT, ev_run, ev_startL, List.map_cons, List.map_nil, List.length_cons, List.length_nil, Nat.reduceAdd, if_true, Nat.reduceSub, List.replicate, List.cons_append, List.nil_append, ev_sSeq, ev_sIf, ev_sNil, ev_sRet, ev_eOr, ev_eNot, ev_eIsi, ev_eLoc, List.getElem?_cons_zero, isi_tt, Bool.not_true, ev_eBlt, ev_aCons, c1, c2, c3, ev_aNil, ev_ds1, ev_ds0, ev_de_d, a1, a2, ev_fin_d, List.take_length]
def kEnc (ks : Ks) : List (Nat × T) := ks.map fun p => (p.1, p.2.den)
def rEnc (rs : Rs) : List (Nat × T) := rs.map fun p => (p.1, p.2.den)
def pTs (ks : Ks) (rs : Rs) : List (List T) := [(kEnc ks).map enc, (rEnc rs).map enc]
structure PutOk (ks : Ks) (rs : Rs) : Prop where
  kup : ks.Pairwise fun p q => p.1 < q.1
  rup : rs.Pairwise fun p q => p.1 < q.1
  kl : ks.length ≤ 100
  rl : rs.length ≤ 100
  kg : ∀ p ∈ ks, p.2.good ∧ p.2.sz ≤ 1000
  rg : ∀ p ∈ rs, p.2.good
theorem putting_is (ks : Ks) (rs : Rs) (h : PutOk ks rs) (S : So) : f_is_putting_of [.d (.tuple ((pTs ks rs).map .tuple))] S = some (.d (.bool true), S) := by
  have e1 := put_by_eq "is_kind_of" (kEnc ks) (by unfold kEnc; rw [List.pairwise_map]; exact h.kup) (by unfold kEnc; rw [List.length_map]; exact h.kl) (fun p hp S => by
    obtain ⟨q, hq, rfl⟩ := List.mem_map.mp hp
    rw [gt_kind]
    exact kind_is q.2 (h.kg q hq).1 (by have := (h.kg q hq).2; omega) S) S
  have e2 := put_by_eq "is_row_of" (rEnc rs) (by unfold rEnc; rw [List.pairwise_map]; exact h.rup) (by unfold rEnc; rw [List.length_map]; exact h.rl) (fun p hp S => by
    obtain ⟨q, hq, rfl⟩ := List.mem_map.mp hp
    rw [gt_row]
    exact row_is q.2 (h.rg q hq) S) S
  simp only [pTs, List.map_cons, List.map_nil]
  simp [f_is_putting_of, b_is_putting_of, f_has_many, b_has_many, -List.map_map, e1, e2]
end Mn.k20

/-! Q10: the interface's functions -/
namespace Mn.k20
open PySem PySem.Spec PyProof.Rows L2 Mn
theorem pairs_enc : ∀ ps : List (Nat × T), pairsKv (ps.map enc) = some (ps.map fun p => (.inl (p.1 : Nat), p.2))
  | [] => rfl
  | p :: r => by
    rw [List.map_cons]
    simp only [enc, pairsKv, key_int]
    rw [pairs_enc r]
    rfl
theorem merge_app : ∀ (ps : List (Nat × T)) (acc : List (Key × T)), ps.Pairwise (fun p q => p.1 < q.1) → (∀ p ∈ ps, ∀ q ∈ acc, q.1 ≠ .inl ((p.1 : Nat) : Int)) → mergeT acc (ps.map fun p => (.inl (p.1 : Nat), p.2)) = acc ++ ps.map fun p => (.inl (p.1 : Nat), p.2)
  | [], acc, _, _ => by simp [mergeT]
  | p :: r, acc, hp, ha => by
    have h1 := List.pairwise_cons.mp hp
    rw [List.map_cons, mergeT, putT_new (ha p (List.mem_cons_self ..)), merge_app r _ h1.2 fun q hq c hc => by
      rcases List.mem_append.mp hc with z | z
      · exact ha q (List.mem_cons_of_mem _ hq) c z
      · rw [List.mem_singleton] at z
        subst z
        intro e
        injection e with e
        have := h1.1 q hq
        omega]
    rw [List.append_assoc]
    rfl
theorem merge_nil (ps : List (Nat × T)) (h : ps.Pairwise (fun p q => p.1 < q.1)) : mergeT [] (ps.map fun p => (.inl (p.1 : Nat), p.2)) = ps.map fun p => (.inl (p.1 : Nat), p.2) := by
  rw [merge_app ps [] h (by simp), List.nil_append]
theorem kD_enc (ks : Ks) : (kEnc ks).map (fun p => ((.inl (p.1 : Nat), p.2) : Key × T)) = kD ks := by unfold kEnc kD; rw [List.map_map]; rfl
theorem rD_enc (rs : Rs) : (rEnc rs).map (fun p => ((.inl (p.1 : Nat), p.2) : Key × T)) = rD rs := by unfold rEnc rD; rw [List.map_map]; rfl
section
variable {ks : Ks} {rs : Rs}
theorem k_merge (h : PutOk ks rs) : mergeT [] (kD ks) = kD ks := by rw [← kD_enc, merge_nil _ (by unfold kEnc; rw [List.pairwise_map]; exact h.kup)]
theorem r_merge (h : PutOk ks rs) : mergeT [] (rD rs) = rD rs := by rw [← rD_enc, merge_nil _ (by unfold rEnc; rw [List.pairwise_map]; exact h.rup)]
theorem at0 : L2.atI (pTs ks rs) 0 = some ((kEnc ks).map enc) := by simp [L2.atI, L2.ixN, pTs]
theorem at1 : L2.atI (pTs ks rs) 1 = some ((rEnc rs).map enc) := by simp [L2.atI, L2.ixN, pTs]
end
/-- a kind of the law -/
structure KOk (k : Kd) : Prop where
  good : k.good
  dep : k.dep < 12
  sz : k.sz ≤ 10000
theorem want_kind_eq {k : Kd} (h : KOk k) (S : So) : f_want_kind [.d k.den] S = some (.d k.den, S) := by
  have e := kind_is k h.good h.sz S
  simp [f_want_kind, b_want_kind, e]
theorem want_row_eq {r : Rw} (h : r.good) (S : So) : f_want_row [.d r.den] S = some (.d r.den, S) := by
  have e := row_is r h S
  simp [f_want_row, b_want_row, e]
theorem want_put_eq {ks : Ks} {rs : Rs} (h : PutOk ks rs) (S : So) : f_want_putting [.d (.tuple ((pTs ks rs).map .tuple))] S = some (.d (.tuple ((pTs ks rs).map .tuple)), S) := by
  have e := putting_is ks rs h S
  simp [f_want_putting, b_want_putting, -List.map_map, e]
theorem is_kind_eq {k : Kd} (h : KOk k) (S : So) : f_is_kind [.d k.den] S = some (.d (.bool true), S) := by
  have e := kind_is k h.good h.sz S
  simp [f_is_kind, b_is_kind, e]
theorem is_row_eq {r : Rw} (h : r.good) (S : So) : f_is_row [.d r.den] S = some (.d (.bool true), S) := by
  have e := row_is r h S
  simp [f_is_row, b_is_row, e]
theorem is_putting_eq {ks : Ks} {rs : Rs} (h : PutOk ks rs) (S : So) : f_is_putting [.d (.tuple ((pTs ks rs).map .tuple))] S = some (.d (.bool true), S) := by
  have e := putting_is ks rs h S
  simp [f_is_putting, b_is_putting, -List.map_map, e]
theorem loose_f_eq {k : Kd} (h : KOk k) (S : So) : f_loose [.d k.den] S = some (.d (loD k.la k.lt), S) := by
  have e := want_kind_eq h S
  have e2 := loose_of_eq k S h.dep h.sz
  simp [f_loose, b_loose, e, e2]
theorem loose_u_eq {k : Kd} (h : KOk k) (S : So) : f_loose__u [.d k.den] S = some (.u [.r (S.length + 2), .r (S.length + 3)], S ++ [.dct (nD k.la), .dct (nD k.lt), .lst (k.la.map fun n => .int (n : Nat)), .lst (k.lt.map fun n => .int (n : Nat))]) := by
  have e := want_kind_eq h S
  have e2 := loose_of_u_eq k S h.dep h.sz
  simp [f_loose__u, b_loose__u, e, e2]
def nmD (ns : List Str) : T := .tuple (ns.map .str)
theorem row_more_eq {r : Rw} (h : r.good) (ns : List Str) (h1 : ns.Pairwise leS) (h2 : ns.length ≤ 12) (h3 : ∀ x ∈ ns, x ∈ NM) (S : So) : f_row_more [.d r.den, .d (nmD ns)] S = some (.d (Rw.den ⟨sortS (r.ns ++ ns), r.tl⟩), S) := by
  have e := want_row_eq h S
  have e2 := names_eq ns h1 h2 h3 S
  have e3 := more_eq r ns S (by have := h.1.2; omega)
  simp [f_row_more, b_row_more, nmD, e, e2, e3]
theorem kind_put_f_eq {k : Kd} (h : KOk k) {ks : Ks} {rs : Rs} (p : PutOk ks rs) (ft : k.fits rs) (S : So) : f_kind_put [.d k.den, .q (pTs ks rs)] S = some (.d (k.put ks rs).den, S) := by
  have e := want_kind_eq h S
  have e2 := want_put_eq p S
  have e3 := put_eq 11 k ks rs (S ++ [.dct (kD ks), .dct (rD rs)]) S.length (S.length + 1) h.dep (by simp) (by simp) ft
  have p1 := pairs_enc (kEnc ks)
  have p2 := pairs_enc (rEnc rs)
  rw [kD_enc] at p1
  rw [rD_enc] at p2
  simp [f_kind_put, b_kind_put, -List.map_map, e, e2, at0, at1, p1, p2, k_merge p, r_merge p, e3]
theorem row_put_f_eq {r : Rw} (h : r.good) {ks : Ks} {rs : Rs} (p : PutOk ks rs) (S : So) : f_row_put [.d r.den, .q (pTs ks rs)] S = some (.d (r.put rs).den, S) := by
  have e := want_row_eq h S
  have e2 := want_put_eq p S
  have hrg := p.rg
  have e3 := put_row_eq r rs (S ++ [.dct (rD rs)]) S.length (by simp) (fun n q hq => by
    clear e e2 p
    have hm : (n, q) ∈ rs := by
      clear hrg
      induction rs with
      | nil => simp at hq
      | cons x l ih =>
        rw [List.lookup_cons] at hq
        split at hq
        · rename_i z
          cases hq
          rw [beq_iff_eq.mp z]
          exact List.mem_cons_self ..
        · exact List.mem_cons_of_mem _ (ih hq)
    have h5 : q.ns.length ≤ 12 := (hrg _ hm).1.2
    have := h.1.2
    omega)
  have p2 := pairs_enc (rEnc rs)
  rw [rD_enc] at p2
  simp [f_row_put, b_row_put, -List.map_map, e, e2, at1, p2, r_merge p, e3]
theorem ok_of_good : ∀ k : Kd, k.good → k.ok
  | .int, _ | .bool, _ | .unit, _ | .any _, _ => trivial
  | .lst a, h => ok_of_good a h
  | .pair a b, h => ⟨ok_of_good a h.1, ok_of_good b h.2⟩
  | .fn a r b, h => ⟨ok_of_good a h.1, h.2.1.1, ok_of_good b h.2.2⟩
theorem named_f_eq {k : Kd} (h : KOk k) {r : Rw} (hr : r.good) (S : So) : f_named_anew [.d k.den, .d r.den] S = some (.d (anewD k r), S) := by
  have e := want_kind_eq h S
  have e2 := want_row_eq hr S
  have e3 := named_eq k r S h.dep h.sz (ok_of_good k h.good) hr.1
  simp [f_named_anew, b_named_anew, e, e2, e3]
def bare : Rw := ⟨[], none⟩
theorem bare_good : bare.good := ⟨⟨.nil, by decide⟩, fun x hx => by cases hx⟩
theorem bare_den : k_NOTHING = bare.den := rfl
theorem alike_eq {k k' : Kd} (h : KOk k) (h' : KOk k') (S : So) (so : Bool) (hq : fEq (anewD k bare) (anewD k' bare) = some (.bool so)) : f_are_alike_kinds [.d k.den, .d k'.den] S = some (.d (.bool so), S) := by
  have e := want_kind_eq h S
  have e' := want_kind_eq h' S
  have e2 := named_eq k bare S h.dep h.sz (ok_of_good k h.good) bare_good.1
  have e3 := named_eq k' bare S h'.dep h'.sz (ok_of_good k' h'.good) bare_good.1
  simp [f_are_alike_kinds, b_are_alike_kinds, bare_den, e, e', e2, e3, hq]
end Mn.k20

/-! Q11: what is shown is short; _law_twice -/
namespace Mn.k20
open PySem PySem.Spec PyProof.Rows L2 Mn
structure Fit (w : Nat) (t : T) : Prop where
  show_ : t.showable = true
  short : t.leavesShort 8 = true
  dep : t.depth ≤ 40
  wt : t.weight ≤ w
structure Fits (w : Nat) (ts : List T) : Prop where
  show_ : PyData.showableAll ts = true
  short : PyData.leavesShortAll 8 ts = true
  dep : PyData.depthAll ts ≤ 39
  wt : PyData.weightAll ts ≤ w
theorem fits_nil : Fits 0 [] := ⟨rfl, rfl, by decide, by decide⟩
theorem fits_cons {t : T} {ts : List T} {w v : Nat} (h : Fit w t) (hd : t.depth ≤ 39) (k : Fits v ts) : Fits (w + 1 + v) (t :: ts) :=
  ⟨by simp [PyData.showableAll, h.show_, k.show_], by simp [PyData.leavesShortAll, h.short, k.short], by have := k.dep; simp only [PyData.depthAll]; omega, by have := k.wt; have := h.wt; simp only [PyData.weightAll]; omega⟩
theorem fit_tup {ts : List T} {w : Nat} (h : Fits w ts) : Fit w (.tuple ts) := ⟨h.show_, h.short, by have := h.dep; simp only [PyData.depth]; omega, h.wt⟩
theorem fit_lst {ts : List T} {w : Nat} (h : Fits w ts) : Fit w (.list ts) := ⟨h.show_, h.short, by have := h.dep; simp only [PyData.depth]; omega, h.wt⟩
theorem Fit.mono {w v : Nat} {t : T} (h : Fit w t) (k : w ≤ v) : Fit v t := ⟨h.show_, h.short, h.dep, Nat.le_trans h.wt k⟩
theorem Fits.mono {w v : Nat} {t : List T} (h : Fits w t) (k : w ≤ v) : Fits v t := ⟨h.show_, h.short, h.dep, Nat.le_trans h.wt k⟩
theorem fit_non : Fit 0 .none := ⟨rfl, rfl, by decide, by decide⟩
theorem fit_bool (b : Bool) : Fit 0 (.bool b) := ⟨rfl, rfl, by simp [PyData.depth], by simp [PyData.weight]⟩
theorem ints100 : ((List.range 100).all fun n => (PyData.int (n : Nat)).showable && (PyData.int (n : Nat)).leavesShort 8 && decide ((PyData.int (n : Nat)).weight ≤ 7)) = true := by kernel_rfl
theorem fit_int (n : Nat) (h : n < 100) : Fit 7 (.int (n : Nat)) := by
  have q := List.all_eq_true.mp ints100 n (List.mem_range.mpr h)
  simp only [Bool.and_eq_true, decide_eq_true_eq] at q
  exact ⟨q.1.1, q.1.2, by simp [PyData.depth], q.2⟩
theorem strs_NM : (NM.all fun x => (PyData.str x).showable && (PyData.str x).leavesShort 8 && decide ((PyData.str x).weight ≤ 3)) = true := by kernel_rfl
theorem fit_name (x : Str) (h : x ∈ NM) : Fit 3 (.str x) := by
  have q := List.all_eq_true.mp strs_NM x h
  simp only [Bool.and_eq_true, decide_eq_true_eq] at q
  exact ⟨q.1.1, q.1.2, by simp [PyData.depth], q.2⟩
def WD : List Str := ["int", "bool", "unit", "any", "list", "pair", "fn", "row"]
theorem strs_WD : (WD.all fun x => (PyData.str x).showable && (PyData.str x).leavesShort 8 && decide ((PyData.str x).weight ≤ 4)) = true := by kernel_rfl
theorem fit_word (x : Str) (h : x ∈ WD) : Fit 4 (.str x) := by
  have q := List.all_eq_true.mp strs_WD x h
  simp only [Bool.and_eq_true, decide_eq_true_eq] at q
  exact ⟨q.1.1, q.1.2, by simp [PyData.depth], q.2⟩
theorem d_str (x : Str) : (PyData.str x).depth ≤ 39 := by simp [PyData.depth]
theorem d_int (x : Int) : (PyData.int x).depth ≤ 39 := by simp [PyData.depth]
theorem fits_names : ∀ ns : List Str, (∀ x ∈ ns, x ∈ NM) → Fits (4 * ns.length) (ns.map .str)
  | [], _ => fits_nil
  | x :: r, h => (fits_cons (fit_name x (h x (List.mem_cons_self ..))) (d_str x) (fits_names r fun y hy => h y (List.mem_cons_of_mem _ hy))).mono (by rw [List.length_cons]; omega)
theorem fits_nums : ∀ ns : List Nat, (∀ x ∈ ns, x < 100) → Fits (8 * ns.length) (ns.map fun n => .int (n : Nat))
  | [], _ => fits_nil
  | x :: r, h => (fits_cons (fit_int x (h x (List.mem_cons_self ..))) (d_int x) (fits_nums r fun y hy => h y (List.mem_cons_of_mem _ hy))).mono (by rw [List.length_cons]; omega)
/-- rows whose text is short -/
def Rw.tiny (r : Rw) : Prop := r.good ∧ r.ns.length ≤ 6 ∧ ∀ n, r.tl = some n → n < 100
theorem depth_names (ns : List Str) : (PyData.tuple (ns.map .str)).depth ≤ 1 := by simp [PyData.depth, depth_strs]
theorem row_depth (r : Rw) : r.den.depth ≤ 2 := by
  have := depth_strs r.ns
  cases h : r.tl <;> simp [Rw.den, PyData.depth, PyData.depthAll, this, h]
theorem fit_row {r : Rw} (h : r.tiny) : Fit 38 r.den := by
  have n := fit_tup (fits_names r.ns h.1.2)
  have hl := h.2.1
  have hd := depth_names r.ns
  have t : Fit 7 (tlT r.tl) := by
    cases e : r.tl with
    | none => exact fit_non.mono (by decide)
    | some n => exact fit_int n (h.2.2 n e)
  have td : (tlT r.tl).depth ≤ 39 := by cases r.tl <;> simp [PyData.depth]
  exact (fit_tup (fits_cons (fit_word "row" (by simp [WD])) (d_str _) (fits_cons n (by omega) (fits_cons t td fits_nil)))).mono (by omega)
def Kd.tiny (k : Kd) : Prop := k.All (fun n => n < 100) Rw.tiny
/-- how much text; c: what a leaf has -/
def Kd.wt (c : Nat) : Kd → Nat
  | .lst a => a.wt c + 6
  | .pair a b => a.wt c + b.wt c + 7
  | .fn a _ b => a.wt c + b.wt c + 47
  | _ => c
theorem kd_depth : ∀ k : Kd, k.den.depth ≤ k.dep + 2
  | .int | .bool | .unit | .any _ => by simp [Kd.den, PyData.depth, PyData.depthAll, Kd.dep]
  | .lst a => by have := kd_depth a; simp only [Kd.den, PyData.depth, PyData.depthAll, Kd.dep]; omega
  | .pair a b => by have := kd_depth a; have := kd_depth b; simp only [Kd.den, PyData.depth, PyData.depthAll, Kd.dep]; omega
  | .fn a r b => by have := kd_depth a; have := kd_depth b; have := row_depth r; simp only [Kd.den, PyData.depth, PyData.depthAll, Kd.dep]; omega
theorem fit_kd : ∀ k : Kd, k.tiny → k.dep ≤ 12 → Fit (k.wt 13) k.den
  | .int, _, _ => (fit_tup (fits_cons (fit_word "int" (by simp [WD])) (d_str _) fits_nil)).mono (by simp [Kd.wt])
  | .bool, _, _ => (fit_tup (fits_cons (fit_word "bool" (by simp [WD])) (d_str _) fits_nil)).mono (by simp [Kd.wt])
  | .unit, _, _ => (fit_tup (fits_cons (fit_word "unit" (by simp [WD])) (d_str _) fits_nil)).mono (by simp [Kd.wt])
  | .any n, h, _ => (fit_tup (fits_cons (fit_word "any" (by simp [WD])) (d_str _) (fits_cons (fit_int n h) (d_int _) fits_nil))).mono (by simp [Kd.wt])
  | .lst a, h, d => by
    have e := fit_kd a h (by simp only [Kd.dep] at d; omega)
    have z := kd_depth a
    exact (fit_tup (fits_cons (fit_word "list" (by simp [WD])) (d_str _) (fits_cons e (by simp only [Kd.dep] at d; omega) fits_nil))).mono (by simp only [Kd.wt]; omega)
  | .pair a b, h, d => by
    simp only [Kd.dep] at d
    have e := fit_kd a h.1 (by omega)
    have z := kd_depth a
    have e2 := fit_kd b h.2 (by omega)
    have z2 := kd_depth b
    exact (fit_tup (fits_cons (fit_word "pair" (by simp [WD])) (d_str _) (fits_cons e (by omega) (fits_cons e2 (by omega) fits_nil)))).mono (by simp only [Kd.wt]; omega)
  | .fn a r b, h, d => by
    simp only [Kd.dep] at d
    have e := fit_kd a h.1 (by omega)
    have z := kd_depth a
    have e2 := fit_kd b h.2.2 (by omega)
    have z2 := kd_depth b
    have z3 := row_depth r
    exact (fit_tup (fits_cons (fit_word "fn" (by simp [WD])) (d_str _) (fits_cons e (by omega) (fits_cons (fit_row h.2.1) (by omega) (fits_cons e2 (by omega) fits_nil))))).mono (by simp only [Kd.wt]; omega)
theorem shown_ok {t : T} {w : Nat} (h : Fit w t) (hw : w ≤ 9999) : t.showable = true ∧ t.depth ≤ 190 ∧ t.shown.length ≤ 100000 := by
  have q := PyData.shown_le 8 (by decide) t h.short
  have := h.dep
  have := h.wt
  exact ⟨h.show_, by omega, by omega⟩
theorem repr_eq {m : Sem} {L : Lc} {S S1 : So} {t : T} {w : Nat} (hm : m L S = some (.d t, S1)) (hs : seqT t = true) (h : Fit w t) (hw : w ≤ 9999) : eRepr m L S = some (.t t.shown, S1) := by
  obtain ⟨a, b, c⟩ := shown_ok h hw
  simp only [ev_eRepr, hm, ev_de_d]
  rw [if_pos ⟨hs, a, b, c⟩]
theorem fit_two {t : T} {w : Nat} (h : Fit w t) (hd : t.depth ≤ 39) : Fit (2 * w + 2) (.list [t, t]) := (fit_lst (fits_cons h hd (fits_cons h hd fits_nil))).mono (by omega)
theorem twice_eq {t : T} {w : Nat} (h : Fit w t) (hw : w ≤ 4990) (hd : t.depth ≤ 39) (S : So) : f__law_twice [.d (.list [t, t]), .d t] S = some (.d (.bool true), S) := by
  have f := fit_two h hd
  have e1 := repr_eq (m := eLoc 0) (L := [some (.d (.list [t, t])), some (.d t)]) (S := S) (S1 := S) (t := .list [t, t]) (by simp) rfl f (by omega)
  have e2 := repr_eq (m := eLst (aCons (eLoc 1) (aCons (eLoc 1) aNil))) (L := [some (.d (.list [t, t])), some (.d t)]) (S := S) (S1 := S) (t := .list [t, t]) (by simp) rfl f (by omega)
  unfold f__law_twice b__law_twice
  simp only [ev_runT, ev_run, ev_startL, List.map_cons, List.map_nil, List.length_cons, List.length_nil, Nat.reduceAdd, if_true, Nat.reduceSub, List.replicate, List.cons_append, List.nil_append, List.append_nil, ev_sRet, ev_eEqT, e1, e2, ev_fin_d, List.take_length]
end Mn.k20

/-! Q12: draws -/
namespace Mn.k20
open PySem PySem.Spec PyProof.Rows L2 Mn
theorem mul_l {i j : Int} (h : -(2 ^ 64) < i ∧ i < 2 ^ 64) : fMul (.int i) (.int j) = some (.int (i * j)) := if_pos (.inl h)
theorem mul_r {i j : Int} (h : -(2 ^ 64) < j ∧ j < 2 ^ 64) : fMul (.int i) (.int j) = some (.int (i * j)) := if_pos (.inr h)
theorem mod_ok {i j : Int} (h : 0 < j) : fMod (.int i) (.int j) = some (.int (i % j)) := if_pos h
theorem div_ok {i j : Int} (h : 0 < j ∧ j < 1073741824) : fFdiv (.int i) (.int j) = some (.int (i / j)) := if_pos h
@[simp] theorem int_i (i : Int) : bInt [.int i] = some (.int i) := rfl
def pot (a b : Int) : Cell := .lst [.int a, .int b]
def Pot (p : Nat) (S : So) : Prop := ∃ a b, S[p]? = some (pot a b)
def Dr (p : Nat) (S S' : So) : Prop := ∃ a b, S' = S.set p (pot a b)
section
variable {p : Nat} {S S1 S2 r : So}
theorem Pot.lt (h : Pot p S) : p < S.length := by obtain ⟨a, b, e⟩ := h; exact (List.getElem?_eq_some_iff.mp e).1
theorem Dr.refl (h : Pot p S) : Dr p S S := by obtain ⟨a, b, e⟩ := h; exact ⟨a, b, (set_self' e).symm⟩
theorem Dr.trans (h : Dr p S S1) (k : Dr p S1 S2) : Dr p S S2 := by
  obtain ⟨a, b, rfl⟩ := h
  obtain ⟨c, d, rfl⟩ := k
  exact ⟨c, d, by rw [List.set_set]⟩
theorem Dr.len (h : Dr p S S1) : S1.length = S.length := by obtain ⟨a, b, rfl⟩ := h; simp
theorem Dr.pot (h : Pot p S) (k : Dr p S S1) : Pot p S1 := by
  have l := h.lt
  obtain ⟨a, b, rfl⟩ := k
  exact ⟨a, b, by rw [List.getElem?_set_self l]⟩
theorem Pot.app (h : Pot p S) : Pot p (S ++ r) := by obtain ⟨a, b, e⟩ := h; exact ⟨a, b, st_in e⟩
theorem Dr.app (h : Pot p S) (k : Dr p (S ++ r) S1) : ∃ S2, Dr p S S2 ∧ S1 = S2 ++ r := by
  obtain ⟨a, b, rfl⟩ := k
  exact ⟨S.set p (Mn.k20.pot a b), ⟨a, b, rfl⟩, by rw [List.set_append_left _ _ h.lt]⟩
theorem Dr.get (h : Dr p S S1) {n : Nat} (ne : n ≠ p) : S1[n]? = S[n]? := by
  obtain ⟨a, b, rfl⟩ := h
  rw [List.getElem?_set_ne (fun e => ne e.symm)]
theorem Dr.take (h : Dr p S S1) : S1.take S.length = S1 := List.take_of_length_le (by rw [h.len]; exact Nat.le_refl _)
end
theorem draw_eq {p : Nat} {S : So} (h : Pot p S) (many : Int) (h1 : 0 < many) (h2 : many < 1073741824) : ∃ d S', f__law_draw [.r p, .d (.int many)] S = some (.d (.int d), S') ∧ Dr p S S' ∧ 0 ≤ d ∧ d < many := by
  have hlt := h.lt
  obtain ⟨a, b, hS⟩ := h
  unfold pot at hS
  have tk : ∀ c, List.take S.length (S.set p c) = S.set p c := fun c => List.take_of_length_le (by simp)
  by_cases ha : 0 < a
  · refine ⟨a % many, S.set p (pot (a / many) b), ?_, ⟨_, _, rfl⟩, Int.emod_nonneg _ (by omega), Int.emod_lt_of_pos _ h1⟩
    have dv : bDivmod [.int a, .int many] = some (.tuple [.int (a / many), .int (a % many)]) := if_pos ⟨h1, h2⟩
    simp [f__law_draw, b__law_draw, hS, ha, dv, L2.ixN, tk, pot]
  · let b' := (b * 48271 + 8039) % 2147483587
    have q1 : 0 ≤ b' := Int.emod_nonneg _ (by decide)
    have q2 : b' < 2147483587 := Int.emod_lt_of_pos _ (by decide)
    refine ⟨b' * b' % 2147483549 / 17 % many, S.set p (pot a b'), ?_, ⟨_, _, rfl⟩, Int.emod_nonneg _ (by omega), Int.emod_lt_of_pos _ h1⟩
    have m1 : fMul (.int b) (.int 48271) = some (.int (b * 48271)) := mul_r (by decide)
    have m2 : fMod (.int (b * 48271 + 8039)) (.int 2147483587) = some (.int b') := mod_ok (by decide)
    have m3 : fMul (.int b') (.int b') = some (.int (b' * b')) := mul_l (by omega)
    have m4 : fMod (.int (b' * b')) (.int 2147483549) = some (.int (b' * b' % 2147483549)) := mod_ok (by decide)
    have m5 : fFdiv (.int (b' * b' % 2147483549)) (.int 17) = some (.int (b' * b' % 2147483549 / 17)) := div_ok (by decide)
    have m6 : fMod (.int (b' * b' % 2147483549 / 17)) (.int many) = some (.int (b' * b' % 2147483549 / 17 % many)) := mod_ok h1
    have gs : ∀ c : Cell, (S.set p c)[p]? = some c := fun c => List.getElem?_set_self hlt
    generalize b' = b' at *
    clear hlt
    simp [f__law_draw, b__law_draw, hS, ha, m1, m2, m3, m4, m5, m6, L2.ixN, tk, pot, gs]
/-- a call that draws -/
def FD (p : Nat) (F : Fn) (xs : List Vl) (P : T → Prop) : Prop := ∀ S, Pot p S → ∃ t S', F xs S = some (.d t, S') ∧ Dr p S S' ∧ P t
theorem pick_eq (p : Nat) (ts : List T) (h1 : ts ≠ []) (h2 : ts.length < 1000000) : FD p f__law_pick [.r p, .d (.list ts)] (· ∈ ts) := fun S h => by
  have hl : 0 < ts.length := List.length_pos_iff.mpr h1
  obtain ⟨d, S', e, hd, d0, d1⟩ := draw_eq h (ts.length : Nat) (by omega) (by omega)
  have hd2 : d.toNat < ts.length := by omega
  have hix : fIdx (.list ts) (.int d) = some ts[d.toNat] := by
    have e1 : d = ((d.toNat : Nat) : Int) := by omega
    have q := L2.atI_nat (xs := ts) (j := d.toNat) (List.getElem?_eq_getElem hd2)
    rw [← e1] at q
    exact q
  refine ⟨ts[d.toNat], S', ?_, hd, List.getElem_mem hd2⟩
  simp [f__law_pick, b__law_pick, e, hix, hd.take]
/-- a comprehension over range whose elements are drawn -/
theorem cmp_draw {p : Nat} {f : TgF} {vs : List Nat} {elt : Sem} {L : Lc} (P : T → Prop) : ∀ (ts : List T) (acc : List T) (S : So), Pot p S → (∀ t ∈ ts, ∃ L1, f t (wipeL L vs) = some L1 ∧ ∀ S, Pot p S → ∃ u S', elt L1 S = some (.d u, S') ∧ Dr p S S' ∧ P u) → acc.length + ts.length ≤ 100000 →
    ∃ us S', cmpN f vs eYes elt S.length ts L (S ++ [.lst acc]) = some (S' ++ [.lst (acc ++ us)]) ∧ Dr p S S' ∧ us.length = ts.length ∧ ∀ u ∈ us, P u
  | [], acc, S, hp, _, _ => ⟨[], S, by simp [cmpN], Dr.refl hp, rfl, by simp⟩
  | t :: r, acc, S, hp, h, hl => by
    rw [List.length_cons] at hl
    obtain ⟨L1, e1, e2⟩ := h t (List.mem_cons_self ..)
    obtain ⟨u, S1, e3, d1, pu⟩ := e2 (S ++ [.lst acc]) hp.app
    obtain ⟨S2, d2, rfl⟩ := Dr.app hp d1
    have hla : acc.length < 100000 := by omega
    have ln := d2.len
    obtain ⟨us, S3, e4, d3, hu, pus⟩ := cmp_draw P r (acc ++ [u]) S2 (d2.pot hp) (fun v hv => h v (List.mem_cons_of_mem _ hv)) (by simp; omega)
    rw [ln] at e4
    refine ⟨u :: us, S3, ?_, d2.trans d3, by simp [hu], fun v hv => ?_⟩
    · unfold cmpN
      have y : eYes L1 (S ++ [.lst acc]) = some (.d (.bool true), S ++ [.lst acc]) := rfl
      have g1 : (S2 ++ [.lst acc] : So)[S.length]? = some (.lst acc) := by rw [← ln]; exact st0
      have g2 : (S2 ++ [.lst acc] : So).set S.length (.lst (acc ++ [u])) = S2 ++ [.lst (acc ++ [u])] := by rw [← ln]; exact st0s
      simp only [e1, y, e3, g1, if_pos hla, g2, e4, List.append_assoc, List.cons_append, List.nil_append]
    · rcases List.mem_cons.mp hv with z | z
      · rw [z]; exact pu
      · exact pus v z
theorem comp_draw {p n : Nat} {src : SemI} {f : TgF} {vs : List Nat} {elt : Sem} {L : Lc} {S : So} (P : T → Prop) {ts : List T} (hp : Pot p S) (hs : ∃ S1, src L S = some (ts, S1) ∧ Dr p S S1) (h : ∀ t ∈ ts, ∃ L1, f t (wipeL L vs) = some L1 ∧ ∀ S, Pot p S → ∃ u S', elt L1 S = some (.d u, S') ∧ Dr p S S' ∧ P u) (hl : ts.length ≤ n) (hn : n ≤ 1000) :
    ∃ us S', eComp src f vs eYes elt L S = some (.d (.list us), S') ∧ Dr p S S' ∧ us.length ≤ n ∧ ∀ u ∈ us, P u := by
  obtain ⟨S1, e1, d1⟩ := hs
  obtain ⟨us, S2, e2, d2, hu, pu⟩ := cmp_draw P ts [] S1 (d1.pot hp) h (by simp; omega)
  refine ⟨us, S2, ?_, d1.trans d2, by omega, pu⟩
  have g1 : (S2 ++ [.lst us] : So)[S1.length]? = some (.lst us) := by rw [← d2.len]; exact st0
  have g2 : (S2 ++ [.lst us] : So).take S1.length = S2 := List.take_left' d2.len
  unfold eComp
  rw [List.nil_append] at e2
  simp only [e1, e2, g1, g2]
end Mn.k20

/-! Q13: rows and kinds are drawn -/
namespace Mn.k20
open PySem PySem.Spec PyProof.Rows L2 Mn
structure RD (r : Rw) : Prop where
  up : r.ns.Pairwise leS
  few : r.ns.length ≤ 3
  nm : ∀ x ∈ r.ns, x ∈ NM
  tl : ∀ n, r.tl = some n → n < 3
theorem strs_of : ∀ us : List T, (∀ u ∈ us, ∃ x, u = .str x ∧ x ∈ NM) → ∃ xs : List Str, us = xs.map .str ∧ ∀ x ∈ xs, x ∈ NM
  | [], _ => ⟨[], rfl, by simp⟩
  | u :: r, h => by
    obtain ⟨x, e, hx⟩ := h u (List.mem_cons_self ..)
    obtain ⟨xs, e2, h2⟩ := strs_of r fun v hv => h v (List.mem_cons_of_mem _ hv)
    refine ⟨x :: xs, by rw [e, e2]; rfl, fun y hy => ?_⟩
    rcases List.mem_cons.mp hy with z | z
    · rw [z]; exact hx
    · exact h2 y z
theorem sort_facts (xs : List Str) (h : ∀ x ∈ xs, x ∈ NM) : (sortS xs).Pairwise leS ∧ (sortS xs).length = xs.length ∧ ∀ x ∈ sortS xs, x ∈ NM :=
  ⟨sortS_pw xs, (sortS_perm xs).length_eq, fun x hx => h x ((sortS_perm xs).mem_iff.mp hx)⟩
theorem ints_len (n : Nat) : (intsT n).length = n := by simp [intsT]
/-- range(n), n drawn or told -/
theorem rng_draw {p : Nat} {m : Sem} {L : Lc} {S : So} {n : Nat} {S1 : So} (h : m L S = some (.d (.int (n : Nat)), S1)) (hn : n ≤ 1000) : iRngM (aCons m aNil) L S = some (intsT n, S1) := by
  simp only [ev_iRngM, ev_aCons, h, ev_aNil]
  rw [if_pos (by omega)]
  simp
/-- texts drawn, as often as is drawn -/
theorem row_drawn (p : Nat) : FD p f__law_row [.r p] (fun t => ∃ r : Rw, t = r.den ∧ RD r) := fun S h => by
  obtain ⟨tn, S1, e1, d1, m1⟩ := pick_eq p [.int 0, .int 0, .int 1, .int 1, .int 2, .int 3] (by simp) (by decide) S h
  obtain ⟨n, rfl, hn⟩ : ∃ n : Nat, tn = .int (n : Nat) ∧ n ≤ 3 := by
    simp only [List.mem_cons, List.not_mem_nil, or_false] at m1
    rcases m1 with e | e | e | e | e | e
    · exact ⟨0, e, by decide⟩
    · exact ⟨0, e, by decide⟩
    · exact ⟨1, e, by decide⟩
    · exact ⟨1, e, by decide⟩
    · exact ⟨2, e, by decide⟩
    · exact ⟨3, e, by decide⟩
  have hr := rng_draw (p := p) (m := eCall f__law_pick (aCons (eLoc 0) (aCons (eLst (aCons (eC (.int 0)) (aCons (eC (.int 0)) (aCons (eC (.int 1)) (aCons (eC (.int 1)) (aCons (eC (.int 2)) (aCons (eC (.int 3)) aNil))))))) aNil))) (L := [some (.r p), none, none]) (S := S) (n := n) (S1 := S1) (by simp [e1]) (by omega)
  obtain ⟨us, S2, c, d2, hu, pu⟩ := comp_draw (n := 3) (f := fName 2) (vs := [2]) (elt := eCall f__law_pick (aCons (eLoc 0) (aCons (eLst (aCons (eC (.str "A")) (aCons (eC (.str "B")) (aCons (eC (.str "Get")) aNil)))) aNil))) (fun t => ∃ x, t = .str x ∧ x ∈ NM) h ⟨S1, hr, d1⟩ (fun t ht => ⟨_, rfl, fun S hS => by
    obtain ⟨u, S', e, d, m⟩ := pick_eq p [.str "A", .str "B", .str "Get"] (by simp) (by decide) S hS
    refine ⟨u, S', by simp [wipeL, e], d, ?_⟩
    simp only [List.mem_cons, List.not_mem_nil, or_false] at m
    rcases m with e | e | e
    · exact ⟨_, e, by simp [NM]⟩
    · exact ⟨_, e, by simp [NM]⟩
    · exact ⟨_, e, by simp [NM]⟩⟩) (by rw [ints_len]; exact hn) (by decide)
  obtain ⟨xs, rfl, hx⟩ := strs_of us pu
  rw [List.length_map] at hu
  obtain ⟨tt, S3, e3, d3, m3⟩ := pick_eq p [.none, .int 0, .int 1, .int 1, .int 2] (by simp) (by decide) S2 (d2.pot h)
  obtain ⟨tl, rfl, ht⟩ : ∃ tl : Option Nat, tt = tlT tl ∧ ∀ n, tl = some n → n < 3 := by
    simp only [List.mem_cons, List.not_mem_nil, or_false] at m3
    rcases m3 with e | e | e | e | e
    · exact ⟨none, e, by simp⟩
    · exact ⟨some 0, e, by simp⟩
    · exact ⟨some 1, e, by simp⟩
    · exact ⟨some 1, e, by simp⟩
    · exact ⟨some 2, e, by simp⟩
  obtain ⟨f1, f2, f3⟩ := sort_facts xs hx
  refine ⟨Rw.den ⟨sortS xs, tl⟩, S3, ?_, d2.trans d3, ⟨sortS xs, tl⟩, rfl, f1, by rw [f2]; exact hu, f3, ht⟩
  have hl : xs.length < 64 := by omega
  have tk := (d2.trans d3).take
  unfold f__law_row b__law_row
  simp only [ev_runT, ev_run, ev_startL, List.map_cons, List.map_nil, List.length_cons, List.length_nil, Nat.reduceAdd, if_true, Nat.reduceSub, List.replicate, List.cons_append, List.nil_append, ev_sSeq, ev_sSet, c]
  simp [hl, e3, tk, Rw.den]
end Mn.k20

/-! Q14: kinds are drawn -/
namespace Mn.k20
open PySem PySem.Spec PyProof.Rows L2 Mn
def wB (c : Nat) : Nat → Nat
  | 0 => c
  | d + 1 => 2 * wB c d + 47
theorem wB_le (c d : Nat) : c ≤ wB c d := by
  induction d with
  | zero => exact Nat.le_refl _
  | succ d ih => simp only [wB]; omega
structure KD (d : Nat) (k : Kd) : Prop where
  all : k.All (fun n => n < 3) RD
  dep : k.dep ≤ d + 1
  wt : ∀ c, k.wt c ≤ wB c d
@[simp] theorem five2 (a b c d e : T) : fIdx (.list [a, b, c, d, e]) (.int 2) = some c := by kernel_rfl
@[simp] theorem five3 (a b c d e : T) : fIdx (.list [a, b, c, d, e]) (.int 3) = some d := by kernel_rfl
@[simp] theorem five4 (a b c d e : T) : fIdx (.list [a, b, c, d, e]) (.int 4) = some e := by kernel_rfl
def dwn (d : Nat) : Int := if d = 0 then 5 else 9
theorem kind_drawn (p : Nat) : ∀ (f d : Nat), d ≤ f → FD p (f__law_kind (f + 1)) [.r p, .d (.int (d : Nat))] (fun t => ∃ k : Kd, t = k.den ∧ KD d k)
  | f, d, hf => fun S h => by
    have ite : ∀ S, eIte (eBin fGt (eLoc 1) (eC (.int 0))) (eC (.int 9)) (eC (.int 5)) [some (.r p), some (.d (.int (d : Nat))), none] S = some (.d (.int (dwn d)), S) := fun S => by
      by_cases e : d = 0
      · subst e; simp [dwn]
      · have h : 0 < d := by omega
        simp [dwn, e, h]
    obtain ⟨way, S1, e1, d1, l1, l2⟩ := draw_eq h (dwn d) (by unfold dwn; split <;> decide) (by unfold dwn; split <;> decide)
    have hw : way < 9 := by unfold dwn at l2; split at l2 <;> omega
    have c0 : sSet 2 (eCall f__law_draw (aCons (eLoc 0) (aCons (eIte (eBin fGt (eLoc 1) (eC (.int 0))) (eC (.int 9)) (eC (.int 5))) aNil))) [some (.r p), some (.d (.int (d : Nat))), none] S = some (.nx [some (.r p), some (.d (.int (d : Nat))), some (.d (.int way))] S1) := by
      rw [ev_sSet, ev_eCall, ev_aCons, ev_eLoc]
      simp only [List.getElem?_cons_zero, ev_aCons, ite, ev_aNil, e1, List.set_cons_succ, List.set_cons_zero]
    have h1 := d1.pot h
    have tk1 := d1.take
    by_cases w5 : way < 5
    · obtain ⟨x, S2, e2, d2, x1, x2⟩ := draw_eq h1 3 (by decide) (by decide)
      have h2 := d2.pot h1
      obtain ⟨y, S3, e3, d3, y1, y2⟩ := draw_eq h2 3 (by decide) (by decide)
      have tk3 := ((d1.trans d2).trans d3).take
      obtain ⟨m, rfl⟩ : ∃ m : Nat, x = (m : Nat) := ⟨x.toNat, by omega⟩
      obtain ⟨n, rfl⟩ : ∃ n : Nat, y = (n : Nat) := ⟨y.toNat, by omega⟩
      have wl := fun c => wB_le c d
      have fin : ∀ k : Kd, (∀ c, k.wt c = c) → k.dep = 1 → k.All (fun n => n < 3) RD → fIdx (.list [Kd.int.den, Kd.bool.den, Kd.unit.den, (Kd.any m).den, (Kd.any n).den]) (.int way) = some k.den → ∃ t S', f__law_kind (f + 1) [.r p, .d (.int (d : Nat))] S = some (.d t, S') ∧ Dr p S S' ∧ ∃ k : Kd, t = k.den ∧ KD d k := fun k hk hd ha hi => by
        refine ⟨k.den, S3, ?_, (d1.trans d2).trans d3, k, rfl, ha, by omega, fun c => by rw [hk c]; exact wl c⟩
        rw [f__law_kind]
        unfold b__law_kind
        simp only [ev_runT, ev_run, ev_startL, List.map_cons, List.map_nil, List.length_cons, List.length_nil, Nat.reduceAdd, if_true, Nat.reduceSub, List.replicate, List.cons_append, List.nil_append, ev_sSeq, c0]
        simp only [Kd.den] at hi
        simp [w5, e2, e3, hi, tk3, Kd.den]
      have cs : way = 0 ∨ way = 1 ∨ way = 2 ∨ way = 3 ∨ way = 4 := by omega
      rcases cs with rfl | rfl | rfl | rfl | rfl
      · exact fin .int (fun _ => rfl) rfl trivial (by simp)
      · exact fin .bool (fun _ => rfl) rfl trivial (by simp)
      · exact fin .unit (fun _ => rfl) rfl trivial (by simp)
      · exact fin (.any m) (fun _ => rfl) rfl (by show m < 3; omega) (by simp)
      · exact fin (.any n) (fun _ => rfl) rfl (by show n < 3; omega) (by simp)
    · have hd : d ≠ 0 := fun e => by unfold dwn at l2; rw [if_pos e] at l2; omega
      obtain ⟨d', rfl⟩ : ∃ d', d = d' + 1 := ⟨d - 1, by omega⟩
      obtain ⟨f', rfl⟩ : ∃ f', f = f' + 1 := ⟨f - 1, by omega⟩
      have em : (((d' + 1 : Nat) : Nat) : Int) - 1 = ((d' : Nat) : Int) := by omega
      have ih := kind_drawn p f' d' (by omega)
      obtain ⟨_, S2, e2, d2, a, rfl, ka⟩ := ih S1 h1
      have h2 := d2.pot h1
      have tk2 := (d1.trans d2).take
      have t5 : ¬ way < 5 := w5
      by_cases w5' : way = 5
      · subst w5'
        refine ⟨(Kd.lst a).den, S2, ?_, d1.trans d2, .lst a, rfl, ka.all, by have := ka.dep; simp only [Kd.dep]; omega, fun c => by have := ka.wt c; simp only [Kd.wt, wB]; omega⟩
        rw [f__law_kind]
        unfold b__law_kind
        simp only [ev_runT, ev_run, ev_startL, List.map_cons, List.map_nil, List.length_cons, List.length_nil, Nat.reduceAdd, if_true, Nat.reduceSub, List.replicate, List.cons_append, List.nil_append, ev_sSeq, c0]
        simp [e2, tk2, Kd.den]
      · by_cases w6 : way = 6
        · subst w6
          obtain ⟨_, S3, e3, d3, b, rfl, kb⟩ := ih S2 h2
          have tk3 := ((d1.trans d2).trans d3).take
          refine ⟨(Kd.pair a b).den, S3, ?_, (d1.trans d2).trans d3, .pair a b, rfl, ⟨ka.all, kb.all⟩, by have := ka.dep; have := kb.dep; simp only [Kd.dep]; omega, fun c => by have := ka.wt c; have := kb.wt c; simp only [Kd.wt, wB]; omega⟩
          rw [f__law_kind]
          unfold b__law_kind
          simp only [ev_runT, ev_run, ev_startL, List.map_cons, List.map_nil, List.length_cons, List.length_nil, Nat.reduceAdd, if_true, Nat.reduceSub, List.replicate, List.cons_append, List.nil_append, ev_sSeq, c0]
          simp [e2, e3, tk3, Kd.den]
        · obtain ⟨_, S3, e3, d3, r, rfl, kr⟩ := row_drawn p S2 h2
          have h3 := d3.pot h2
          obtain ⟨_, S4, e4, d4, b, rfl, kb⟩ := ih S3 h3
          have tk4 := (((d1.trans d2).trans d3).trans d4).take
          refine ⟨(Kd.fn a r b).den, S4, ?_, ((d1.trans d2).trans d3).trans d4, .fn a r b, rfl, ⟨ka.all, kr, kb.all⟩, by have := ka.dep; have := kb.dep; simp only [Kd.dep]; omega, fun c => by have := ka.wt c; have := kb.wt c; simp only [Kd.wt, wB]; omega⟩
          rw [f__law_kind]
          unfold b__law_kind
          simp only [ev_runT, ev_run, ev_startL, List.map_cons, List.map_nil, List.length_cons, List.length_nil, Nat.reduceAdd, if_true, Nat.reduceSub, List.replicate, List.cons_append, List.nil_append, ev_sSeq, c0]
          have b5 : (way == 5) = false := by simpa using w5'
          have b6 : (way == 6) = false := by simpa using w6
          simp [e2, e3, e4, tk4, Kd.den, t5, b5, b6]
end Mn.k20

/-! Q15: puttings are drawn -/
namespace Mn.k20
open PySem PySem.Spec PyProof.Rows L2 Mn
theorem cmp_pairs {p : Nat} {f : TgF} {vs : List Nat} {tt elt : Sem} {L : Lc} (P : T → Prop) (L1 : Nat → Lc) (hf : ∀ i : Nat, f (.int (i : Nat)) (wipeL L vs) = some (L1 i)) (ht : ∀ (i : Nat) (S : So), Pot p S → ∃ b S', tt (L1 i) S = some (.d (.bool b), S') ∧ Dr p S S')
    (he : ∀ (i : Nat) (S : So), Pot p S → ∃ v S', elt (L1 i) S = some (.d (enc (i, v)), S') ∧ Dr p S S' ∧ P v) : ∀ (n i0 : Nat) (acc : List T) (S : So), Pot p S → acc.length + n ≤ 1000 →
    ∃ (qs : List (Nat × T)) (S' : So), cmpN f vs tt elt S.length ((List.range' i0 n).map fun i => .int (i : Nat)) L (S ++ [.lst acc]) = some (S' ++ [.lst (acc ++ qs.map enc)]) ∧ Dr p S S' ∧ qs.Pairwise (fun a b => a.1 < b.1) ∧ (∀ q ∈ qs, i0 ≤ q.1 ∧ P q.2) ∧ qs.length ≤ n
  | 0, i0, acc, S, hp, _ => ⟨[], S, by simp [cmpN], Dr.refl hp, .nil, by simp, by simp⟩
  | n + 1, i0, acc, S, hp, hl => by
    obtain ⟨b, S1, e1, d1⟩ := ht i0 (S ++ [.lst acc]) hp.app
    obtain ⟨S2, d2, rfl⟩ := Dr.app hp d1
    have h2 := d2.pot hp
    have l2 := d2.len
    have hrec : (List.range' i0 (n + 1)).map (fun i => PyData.int (i : Nat)) = .int (i0 : Nat) :: (List.range' (i0 + 1) n).map fun i => .int (i : Nat) := by rw [List.range'_succ]; rfl
    have up : ∀ qs : List (Nat × T), (∀ q ∈ qs, i0 + 1 ≤ q.1 ∧ P q.2) → ∀ q ∈ qs, i0 ≤ q.1 ∧ P q.2 := fun qs h q hq => ⟨by have := (h q hq).1; omega, (h q hq).2⟩
    cases b with
    | false =>
      obtain ⟨qs, S3, e3, d3, a1, a2, a3⟩ := cmp_pairs P L1 hf ht he n (i0 + 1) acc S2 h2 (by omega)
      rw [l2] at e3
      refine ⟨qs, S3, ?_, d2.trans d3, a1, up qs a2, by omega⟩
      rw [hrec]
      unfold cmpN
      simp only [hf, e1, e3]
    | true =>
      obtain ⟨v, S4, e4, d4, pv⟩ := he i0 (S2 ++ [.lst acc]) h2.app
      obtain ⟨S5, d5, rfl⟩ := Dr.app h2 d4
      have h5 := d5.pot h2
      have l5 := d5.len
      obtain ⟨qs, S3, e3, d3, a1, a2, a3⟩ := cmp_pairs P L1 hf ht he n (i0 + 1) (acc ++ [enc (i0, v)]) S5 h5 (by simp; omega)
      rw [l5, l2] at e3
      have hla : acc.length < 100000 := by omega
      have g1 : (S5 ++ [.lst acc] : So)[S.length]? = some (.lst acc) := by rw [← l2, ← l5]; exact st0
      have g2 : (S5 ++ [.lst acc] : So).set S.length (.lst (acc ++ [enc (i0, v)])) = S5 ++ [.lst (acc ++ [enc (i0, v)])] := by rw [← l2, ← l5]; exact st0s
      refine ⟨(i0, v) :: qs, S3, ?_, (d2.trans d5).trans d3, List.pairwise_cons.mpr ⟨fun q hq => (a2 q hq).1, a1⟩, fun q hq => ?_, by rw [List.length_cons]; omega⟩
      · rw [hrec]
        unfold cmpN
        simp only [hf, e1, e4, g1, if_pos hla, g2, e3, List.append_assoc, List.cons_append, List.nil_append, List.map_cons]
      · rcases List.mem_cons.mp hq with z | z
        · rw [z]; exact ⟨Nat.le_refl _, pv⟩
        · exact up qs a2 q z
theorem comp_pairs {p : Nat} {f : TgF} {vs : List Nat} {tt elt : Sem} {L : Lc} {S : So} (P : T → Prop) (L1 : Nat → Lc) (hp : Pot p S) (hf : ∀ i : Nat, f (.int (i : Nat)) (wipeL L vs) = some (L1 i)) (ht : ∀ (i : Nat) (S : So), Pot p S → ∃ b S', tt (L1 i) S = some (.d (.bool b), S') ∧ Dr p S S')
    (he : ∀ (i : Nat) (S : So), Pot p S → ∃ v S', elt (L1 i) S = some (.d (enc (i, v)), S') ∧ Dr p S S' ∧ P v) :
    ∃ (qs : List (Nat × T)) (S' : So), eComp (iRngM (aCons (eC (.int 3)) aNil)) f vs tt elt L S = some (.d (.list (qs.map enc)), S') ∧ Dr p S S' ∧ qs.Pairwise (fun a b => a.1 < b.1) ∧ (∀ q ∈ qs, P q.2) ∧ qs.length ≤ 3 := by
  obtain ⟨qs, S2, e2, d2, a1, a2, a3⟩ := cmp_pairs P L1 hf ht he 3 0 [] S hp (by decide)
  refine ⟨qs, S2, ?_, d2, a1, fun q hq => (a2 q hq).2, a3⟩
  have g1 : (S2 ++ [.lst (qs.map enc)] : So)[S.length]? = some (.lst (qs.map enc)) := by rw [← d2.len]; exact st0
  have g2 : (S2 ++ [.lst (qs.map enc)] : So).take S.length = S2 := List.take_left' d2.len
  have hs : iRngM (aCons (eC (.int 3)) aNil) L S = some ((List.range' 0 3).map fun i => .int (i : Nat), S) := by kernel_rfl
  rw [List.nil_append] at e2
  unfold eComp
  simp only [hs, e2, g1, g2]
theorem look_of {α : Type} : ∀ {qs : List (Nat × α)}, qs.Pairwise (fun a b => a.1 < b.1) → ∀ q ∈ qs, qs.lookup q.1 = some q.2
  | [], _, q, h => by simp at h
  | x :: r, hp, q, h => by
    have h1 := List.pairwise_cons.mp hp
    rw [List.lookup_cons]
    rcases List.mem_cons.mp h with z | z
    · rw [z]; simp
    · have := h1.1 q z
      have e : (q.1 == x.1) = false := by simp; omega
      rw [e]
      exact look_of h1.2 q z
def qD (qs : List (Nat × T)) : List (Key × T) := qs.map fun p => (.inl (p.1 : Nat), p.2)
theorem keys_qD : ∀ qs : List (Nat × T), keysI (qD qs) = some (qs.map fun p => ((p.1 : Nat) : Int))
  | [] => rfl
  | q :: r => by
    have := keys_qD r
    simp only [qD] at this ⊢
    simp only [List.map_cons, keysI, this]
theorem val_qD (qs : List (Nat × T)) (n : Nat) : valT (qD qs) (.inl (n : Nat)) = qs.lookup n := by
  have := val_map (fun t : T => t) n qs
  rw [Option.map_id'] at this
  exact this
/-- [(at, d[at]) for at in sorted(d)] -/
theorem back_pairs {L : Lc} {S : So} {i n : Nat} {qs : List (Nat × T)} (hL : L[i]? = some (some (.r n))) (hS : S[n]? = some (.dct (qD qs))) (hq : qs.Pairwise (fun a b => a.1 < b.1)) (hl : qs.length ≤ 3) (h3 : ∀ t, ((wipeL L [3]).set 3 (some (.d t)))[3]? = some (some (.d t))) (hi : ∀ t, ((wipeL L [3]).set 3 (some (.d t)))[i]? = some (some (.r n))) :
    eComp (iLstM (eSortDI (eLoc i))) (fName 3) [3] eYes (eTup (aCons (eLoc 3) (aCons (eDSub (eLoc i) (eLoc 3)) aNil))) L S = some (.d (.list (qs.map enc)), S) := by
  have hs : sortI (qs.map fun p => ((p.1 : Nat) : Int)) = qs.map fun p => ((p.1 : Nat) : Int) := (sortI_eq (List.Perm.refl _) (by
    rw [List.pairwise_map]
    exact hq.imp fun {a b} h => by omega)).symm
  have c := comp_map (src := iLstM (eSortDI (eLoc i))) (f := fName 3) (vs := [3]) (elt := eTup (aCons (eLoc 3) (aCons (eDSub (eLoc i) (eLoc 3)) aNil))) (L := L) (S := S) (S1 := S) (ts := (qs.map fun p => ((p.1 : Nat) : Int)).map .int) (fun t => .tuple [t, ((match t with | .int k => qs.lookup k.toNat | _ => none) : Option T).getD .none]) (by
      have hl2 : qs.length < 64 := by omega
      simp [hL, hS, keys_qD, hs, hl2]) (fun t ht => by
    rw [List.map_map] at ht
    obtain ⟨q, hm, rfl⟩ := List.mem_map.mp ht
    refine ⟨_, rfl, fun acc => ?_⟩
    have a1 := h3 (.int (q.1 : Nat))
    have a2 := hi (.int (q.1 : Nat))
    have a3 := st_in (r := [.lst acc]) hS
    have a4 := val_qD qs q.1
    have a5 := look_of hq q hm
    simp only [Function.comp, ev_eTup, ev_aCons, ev_eLoc, a1, ev_eDSub, a2, key_int, a3, a4, a5, ev_aNil, ev_da1, ev_da0, Int.toNat_natCast, Option.getD_some]
    rfl) (by simp; omega)
  rw [c, List.map_map, List.map_map]
  congr 4
  refine List.map_congr_left fun q hm => ?_
  simp only [Function.comp, Int.toNat_natCast, look_of hq q hm, Option.getD_some, enc]
structure PD (ks : Ks) (rs : Rs) : Prop where
  kup : ks.Pairwise fun p q => p.1 < q.1
  rup : rs.Pairwise fun p q => p.1 < q.1
  kl : ks.length ≤ 3
  rl : rs.length ≤ 3
  kg : ∀ p ∈ ks, KD 2 p.2
  rg : ∀ p ∈ rs, RD p.2
theorem un_enc {α : Type} (g : α → T) (P : α → Prop) : ∀ qs : List (Nat × T), (∀ q ∈ qs, ∃ a, q.2 = g a ∧ P a) → ∃ ks : List (Nat × α), qs = ks.map (fun p => (p.1, g p.2)) ∧ ∀ p ∈ ks, P p.2
  | [], _ => ⟨[], rfl, by simp⟩
  | (n, t) :: r, h => by
    obtain ⟨a, e, pa⟩ := h (n, t) (List.mem_cons_self ..)
    obtain ⟨ks, e2, h2⟩ := un_enc g P r fun q hq => h q (List.mem_cons_of_mem _ hq)
    simp only at e
    refine ⟨(n, a) :: ks, by rw [e, e2]; rfl, fun p hp => ?_⟩
    rcases List.mem_cons.mp hp with z | z
    · rw [z]; exact pa
    · exact h2 p z
theorem dictP_eq {m : Sem} {L : Lc} {S S1 : So} {qs : List (Nat × T)} (h : m L S = some (.d (.list (qs.map enc)), S1)) (hq : qs.Pairwise (fun a b => a.1 < b.1)) : eDictP m L S = some (.r S1.length, S1 ++ [.dct (qD qs)]) := by
  have p1 := pairs_enc qs
  have p2 := merge_nil qs hq
  simp only [ev_eDictP, h, p1, p2]
  rfl
theorem putting_drawn (p : Nat) (S : So) (h : Pot p S) : ∃ ks rs S', f__law_putting [.r p] S = some (.u [.r S.length, .r (S.length + 1), .q (pTs ks rs)], S' ++ [.dct (kD ks), .dct (rD rs)]) ∧ Dr p S S' ∧ PD ks rs := by
  have test : ∀ (L : Lc) (S : So), L[0]? = some (some (.r p)) → Pot p S → ∃ b S', eBin fGt (eCall f__law_draw (aCons (eLoc 0) (aCons (eC (.int 3)) aNil))) (eC (.int 0)) L S = some (.d (.bool b), S') ∧ Dr p S S' := fun L S hL hS => by
    obtain ⟨d, S', e, dr, _, _⟩ := draw_eq hS 3 (by decide) (by decide)
    exact ⟨decide (d > 0), S', by simp [hL, e], dr⟩
  obtain ⟨qs1, S1, c1, d1, u1, g1, l1⟩ := comp_pairs (f := fName 3) (vs := [3]) (tt := eBin fGt (eCall f__law_draw (aCons (eLoc 0) (aCons (eC (.int 3)) aNil))) (eC (.int 0))) (elt := eTup (aCons (eLoc 3) (aCons (eCall (f__law_kind 6) (aCons (eLoc 0) (aCons (eC (.int 2)) aNil))) aNil))) (L := [some (.r p), none, none, none]) (fun t => ∃ k : Kd, t = k.den ∧ KD 2 k) (fun i => [some (.r p), none, none, some (.d (.int (i : Nat)))]) h (fun i => rfl) (fun i S hS => test _ S rfl hS) (fun i S hS => by
    obtain ⟨t, S', e, d, k, rfl, kd⟩ := kind_drawn p 5 2 (by decide) S hS
    have e' : f__law_kind 6 [.r p, .d (.int 2)] S = some (.d k.den, S') := e
    exact ⟨k.den, S', by simp [e', enc], d, k, rfl, kd⟩)
  obtain ⟨ks, rfl, hk⟩ := un_enc Kd.den (KD 2) qs1 g1
  have h1 := d1.pot h
  have e1 := dictP_eq c1 u1
  have ek : qD (ks.map fun p => (p.1, p.2.den)) = kD ks := by unfold qD kD; rw [List.map_map]; rfl
  rw [ek] at e1
  have n1 := d1.len
  obtain ⟨qs2, S2', c2, d2', u2, g2, l2⟩ := comp_pairs (f := fName 3) (vs := [3]) (tt := eBin fGt (eCall f__law_draw (aCons (eLoc 0) (aCons (eC (.int 3)) aNil))) (eC (.int 0))) (elt := eTup (aCons (eLoc 3) (aCons (eCall f__law_row (aCons (eLoc 0) aNil)) aNil))) (L := [some (.r p), some (.r S1.length), none, none]) (S := S1 ++ [.dct (kD ks)]) (fun t => ∃ r : Rw, t = r.den ∧ RD r) (fun i => [some (.r p), some (.r S1.length), none, some (.d (.int (i : Nat)))]) h1.app (fun i => rfl) (fun i S hS => test _ S rfl hS) (fun i S hS => by
    obtain ⟨t, S', e, d, r, rfl, rd⟩ := row_drawn p S hS
    exact ⟨r.den, S', by simp [e, enc], d, r, rfl, rd⟩)
  obtain ⟨S2, d2, rfl⟩ := Dr.app h1 d2'
  obtain ⟨rs, rfl, hr⟩ := un_enc Rw.den RD qs2 g2
  have e2 := dictP_eq c2 u2
  have er : qD (rs.map fun p => (p.1, p.2.den)) = rD rs := by unfold qD rD; rw [List.map_map]; rfl
  rw [er] at e2
  have n2 := d2.len
  have b1 := back_pairs (L := [some (.r p), some (.r S1.length), some (.r (S2 ++ [Cell.dct (kD ks)]).length), none]) (S := S2 ++ [.dct (kD ks), .dct (rD rs)]) (i := 1) (n := S1.length) (qs := ks.map fun p => (p.1, p.2.den)) rfl (by rw [ek, ← n2]; exact st0) u1 l1 (fun t => by simp [wipeL]) (fun t => by simp [wipeL])
  have b2 := back_pairs (L := [some (.r p), some (.r S1.length), some (.r (S2 ++ [Cell.dct (kD ks)]).length), none]) (S := S2 ++ [.dct (kD ks), .dct (rD rs)]) (i := 2) (n := (S2 ++ [Cell.dct (kD ks)]).length) (qs := rs.map fun p => (p.1, p.2.den)) rfl (by rw [er]; simp) u2 l2 (fun t => by simp [wipeL]) (fun t => by simp [wipeL])
  have ass : (S2 ++ [Cell.dct (kD ks)]) ++ [Cell.dct (rD rs)] = S2 ++ [.dct (kD ks), .dct (rD rs)] := by simp
  rw [ass] at e2
  have nn : (S2 ++ [Cell.dct (kD ks)]).length = S.length + 1 := by simp; omega
  refine ⟨ks, rs, S2, ?_, d1.trans d2, ⟨by rw [List.pairwise_map] at u1; exact u1, by rw [List.pairwise_map] at u2; exact u2, by simpa using l1, by simpa using l2, hk, hr⟩⟩
  unfold f__law_putting b__law_putting
  simp only [ev_run, ev_startL, List.map_cons, List.map_nil, List.length_cons, List.length_nil, Nat.reduceAdd, if_true, Nat.reduceSub, List.replicate, List.cons_append, List.nil_append, ev_sSeq, ev_sSet, e1, e2, List.set_cons_succ, List.set_cons_zero, ev_sRet, ev_eTupU, ev_aCons, ev_eLoc, List.getElem?_cons_succ, List.getElem?_cons_zero, ev_eTupQ, ev_eTupP, b1, b2, ev_aNil]
  rw [nn, n1]
  rfl
end Mn.k20

/-! Q16: some of things, without repeating -/
namespace Mn.k20
open PySem PySem.Spec PyProof.Rows L2 Mn
def inu (xs : List Nat) : List T := xs.map fun n => .int (n : Nat)
theorem erase_inu : ∀ (xs : List Nat) (j : Nat), (inu xs).eraseIdx j = inu (xs.eraseIdx j)
  | [], _ => rfl
  | x :: r, 0 => rfl
  | x :: r, j + 1 => congrArg (PyData.int (x : Nat) :: ·) (erase_inu r j)
theorem perm_erase : ∀ (xs : List Nat) (j : Nat) (h : j < xs.length), (xs[j] :: xs.eraseIdx j).Perm xs
  | [], _, h => absurd h (Nat.not_lt_zero _)
  | x :: r, 0, _ => List.Perm.refl _
  | x :: r, j + 1, h => (List.Perm.swap x _ _).trans (List.Perm.cons x (perm_erase r j (by simpa using h)))
def SB : Sts := (sDrop (eApp (eLoc 4) (ePopAt (eLoc 3) (eCall f__law_draw (aCons (eLoc 0) (aCons (eBlt bLen (aCons (eLoc 3) aNil)) aNil))))))
theorem SB_eq (p : Nat) (S : So) (h : Pot p S) (left found : List Nat) (hl : 0 < left.length) (hl2 : left.length ≤ 1000) (hf : found.length ≤ 1000) (x1 x2 x5 : Option Vl) :
    ∃ (j : Nat) (hj : j < left.length) (S' : So), SB [some (.r p), x1, x2, some (.r S.length), some (.r (S.length + 1)), x5] (S ++ [.lst (inu left), .lst (inu found)]) = some (.nx [some (.r p), x1, x2, some (.r S.length), some (.r (S.length + 1)), x5] (S' ++ [.lst (inu (left.eraseIdx j)), .lst (inu (found ++ [left[j]]))])) ∧ Dr p S S' := by
  obtain ⟨d, S1, e, d1, l1, l2⟩ := draw_eq (h.app (r := [.lst (inu left), .lst (inu found)])) (left.length : Nat) (by omega) (by omega)
  obtain ⟨S2, d2, rfl⟩ := Dr.app h d1
  obtain ⟨j, rfl⟩ : ∃ j : Nat, d = (j : Nat) := ⟨d.toNat, by omega⟩
  have hj : j < left.length := by omega
  have n2 := d2.len
  refine ⟨j, hj, S2, ?_, d2⟩
  have a1 : (S2 ++ [.lst (inu left), .lst (inu found)] : So)[S.length]? = some (.lst (inu left)) := by rw [← n2]; exact st0
  have a2 : ∀ c : Cell, (S2 ++ [.lst (inu left), .lst (inu found)] : So).set S.length c = S2 ++ [c, .lst (inu found)] := fun c => by rw [← n2]; exact st0s
  have a3 : (S2 ++ [.lst (inu (left.eraseIdx j)), .lst (inu found)] : So)[S.length + 1]? = some (.lst (inu found)) := by rw [← n2]; exact st1
  have a4 : ∀ c : Cell, (S2 ++ [.lst (inu (left.eraseIdx j)), .lst (inu found)] : So).set (S.length + 1) c = S2 ++ [.lst (inu (left.eraseIdx j)), c] := fun c => by rw [← n2]; exact st1s
  have a5 : (inu left)[j]? = some (.int (left[j] : Nat)) := by simp [inu, hj]
  have a6 : (inu left).eraseIdx j = inu (left.eraseIdx j) := erase_inu left j
  have a7 : (inu found).length < 100000 := by simp [inu]; omega
  have a8 : (inu left).length = left.length := by simp [inu]
  have a9 : inu (found ++ [left[j]]) = inu found ++ [.int (left[j] : Nat)] := by simp [inu]
  have a10 : (0 : Int) ≤ (j : Nat) ∧ ((j : Nat) : Int) < 4294967296 := by omega
  rw [a9]
  unfold SB
  simp only [ev_sDrop, ev_eApp, ev_eCell, ev_eLoc, List.getElem?_cons_succ, List.getElem?_cons_zero, st1, ev_ePopAt, st0, ev_eCall, ev_aCons, ev_aNil, ev_eBlt, ev_ds1, ev_ds0, ev_de_r, bLen_l, a8, e, a1, if_pos a10, Int.toNat_natCast, a5, a6, a2, a3, if_pos a7, a4]
theorem some_drawn (p : Nat) (S : So) (h : Pot p S) : ∃ late S', f__law_some [.r p, .d (nums (List.range 20)), .d (.int 6)] S = some (.d (nums late), S') ∧ Dr p S S' ∧ late.length = 6 ∧ late.Nodup ∧ ∀ n ∈ late, n < 20 := by
  let x1 : Option Vl := some (.d (nums (List.range 20)))
  let x2 : Option Vl := some (.d (.int 6))
  have loop := for_inv (g := tName 5) (b := SB) (I := fun i L S' => ∃ S1 left found x5, L = [some (.r p), x1, x2, some (.r S.length), some (.r (S.length + 1)), x5] ∧ S' = S1 ++ [.lst (inu left), .lst (inu found)] ∧ Dr p S S1 ∧ left.length + i = 20 ∧ found.length = i ∧ (found ++ left).Nodup ∧ ∀ n ∈ found ++ left, n < 20)
    (intsT 6) 0 [some (.r p), x1, x2, some (.r S.length), some (.r (S.length + 1)), none] (S ++ [.lst (inu (List.range 20)), .lst (inu [])]) ⟨S, List.range 20, [], none, rfl, rfl, Dr.refl h, by simp, rfl, by simpa using List.nodup_range, by simp⟩ ?_
  · obtain ⟨L', S', e, S1, left, found, x5, rfl, rfl, d1, q1, q2, q3, q4⟩ := loop
    rw [ints_len] at q1 q2
    have hn := d1.len
    have e' : sFor (iRngM (aCons (eLoc 2) aNil)) (tName 5) SB [some (.r p), x1, x2, some (.r S.length), some (.r (S.length + 1)), none] (S ++ [.lst (inu (List.range 20)), .lst []]) = some (.nx [some (.r p), x1, x2, some (.r S.length), some (.r (S.length + 1)), x5] (S1 ++ [.lst (inu left), .lst (inu found)])) := by
      unfold sFor
      rw [rng_draw (p := p) (n := 6) (S1 := S ++ [.lst (inu (List.range 20)), .lst []]) rfl (by decide)]
      exact e
    refine ⟨found, S1, ?_, d1, q2, (List.nodup_append.mp q3).1, fun n hn => q4 n (List.mem_append_left _ hn)⟩
    have hb : b__law_some = sSeq (sPar 3 4 (aCons (eListN (eLoc 1)) (aCons (eNew aNil) aNil))) (sSeq (sFor (iRngM (aCons (eLoc 2) aNil)) (tName 5) SB) (sRet (eLoc 4))) := rfl
    have a1 : (S1 ++ [.lst (inu left), .lst (inu found)] : So)[S.length + 1]? = some (.lst (inu found)) := by rw [← hn]; exact st1
    have a2 : (S1 ++ [.lst (inu left), .lst (inu found)] : So).take S.length = S1 := List.take_left' hn
    have en : nums (List.range 20) = .list (inu (List.range 20)) := rfl
    simp only [x1, x2, en] at e'
    unfold f__law_some
    rw [en, hb]
    simp [e', a1, a2]
    rw [if_neg (by omega)]
    rfl
  · rintro i t L S' ht ⟨S1, left, found, x5, rfl, rfl, d1, q1, q2, q3, q4⟩
    have hi : i < 6 := by
      have := (List.getElem?_eq_some_iff.mp ht).1
      rwa [ints_len] at this
    obtain ⟨j, hj, S2, e, d2⟩ := SB_eq p S1 (d1.pot h) left found (by omega) (by omega) (by omega) x1 x2 (some (.d t))
    rw [d1.len] at e
    have pm : (found ++ [left[j]] ++ left.eraseIdx j).Perm (found ++ left) := by
      rw [List.append_assoc]
      exact List.Perm.append_left found (perm_erase left j hj)
    refine ⟨_, _, _, rfl, e, S2, _, _, _, rfl, rfl, d1.trans d2, ?_, by simp; omega, pm.nodup_iff.mpr q3, fun n hn => q4 n (pm.mem_iff.mp hn)⟩
    rw [List.length_eraseIdx_of_lt hj]
    omega
end Mn.k20

/-! Q17: what is drawn is small; what is put; loose ones called otherwise -/
namespace Mn.k20
open PySem PySem.Spec PyProof.Rows L2 Mn
theorem All.imp {A A' : Nat → Prop} {B B' : Rw → Prop} (ha : ∀ n, A n → A' n) (hb : ∀ r, B r → B' r) : ∀ k : Kd, k.All A B → k.All A' B'
  | .int, _ | .bool, _ | .unit, _ => trivial
  | .any n, h => ha n h
  | .lst a, h => All.imp ha hb a h
  | .pair a b, h => ⟨All.imp ha hb a h.1, All.imp ha hb b h.2⟩
  | .fn a r b, h => ⟨All.imp ha hb a h.1, hb r h.2.1, All.imp ha hb b h.2.2⟩
theorem RD.good {r : Rw} (h : RD r) : r.good := ⟨⟨h.up, by have := h.few; omega⟩, h.nm⟩
theorem RD.tiny {r : Rw} (h : RD r) : r.tiny := ⟨h.good, by have := h.few; omega, fun n e => by have := h.tl n e; omega⟩
theorem sz_wt : ∀ k : Kd, k.sz ≤ k.wt 13
  | .int | .bool | .unit | .any _ => by simp [Kd.sz, Kd.wt]
  | .lst a => by have := sz_wt a; simp only [Kd.sz, Kd.wt]; omega
  | .pair a b => by have := sz_wt a; have := sz_wt b; simp only [Kd.sz, Kd.wt]; omega
  | .fn a r b => by have := sz_wt a; have := sz_wt b; simp only [Kd.sz, Kd.wt]; omega
theorem wB_mono (c : Nat) : ∀ d e : Nat, d ≤ e → wB c d ≤ wB c e
  | d, 0, h => by have : d = 0 := by omega
                  subst this; exact Nat.le_refl _
  | d, e + 1, h => by
    by_cases z : d = e + 1
    · rw [z]; exact Nat.le_refl _
    · have := wB_mono c d e (by omega)
      simp only [wB]
      omega
theorem tiny_good : ∀ k : Kd, k.tiny → k.good := fun k h => All.imp (fun _ h => h) (fun r h => h.1) k h
/-- a kind of the law, whose text is short -/
structure Kt (k : Kd) : Prop where
  tiny : k.tiny
  dep : k.dep ≤ 10
  wt : k.wt 13 ≤ 4000
theorem Kt.kok {k : Kd} (h : Kt k) : KOk k := ⟨tiny_good k h.tiny, by have := h.dep; omega, by have := sz_wt k; have := h.wt; omega⟩
theorem Kt.fit {k : Kd} (h : Kt k) : Fit 4000 k.den := (fit_kd k h.tiny (by have := h.dep; omega)).mono h.wt
theorem Kt.depth {k : Kd} (h : Kt k) : k.den.depth ≤ 12 := by have := kd_depth k; have := h.dep; omega
theorem KD.kt {d : Nat} {k : Kd} (h : KD d k) (hd : d ≤ 4) : Kt k :=
  ⟨All.imp (fun n h => by omega) (fun r h => RD.tiny h) k h.all, by have := h.dep; omega, by
    have h1 := h.wt 13
    have h2 := wB_mono 13 d 4 hd
    have h3 : wB 13 4 = 913 := by decide
    omega⟩
theorem PD.ok {ks : Ks} {rs : Rs} (h : PD ks rs) : PutOk ks rs :=
  ⟨h.kup, h.rup, by have := h.kl; omega, by have := h.rl; omega, fun p hp => by
    have kt := (h.kg p hp).kt (by decide)
    have h1 := (h.kg p hp).wt 13
    have h2 : wB 13 2 = 193 := by decide
    have h3 := sz_wt p.2
    exact ⟨kt.kok.good, by omega⟩, fun p hp => (h.rg p hp).good⟩
theorem look_mem {α : Type} {n : Nat} {q : α} : ∀ {l : List (Nat × α)}, l.lookup n = some q → (n, q) ∈ l
  | [], h => by simp at h
  | x :: l, h => by
    rw [List.lookup_cons] at h
    split at h
    · rename_i z
      cases h
      rw [beq_iff_eq.mp z]
      exact List.mem_cons_self ..
    · exact List.mem_cons_of_mem _ (look_mem h)
/-- rows that are put: few names -/
structure RsOk (rs : Rs) : Prop where
  rg : ∀ p ∈ rs, p.2.ns.Pairwise leS ∧ p.2.ns.length ≤ 3 ∧ (∀ x ∈ p.2.ns, x ∈ NM) ∧ ∀ n, p.2.tl = some n → n < 100
theorem fits_of {rs : Rs} (h : RsOk rs) : ∀ k : Kd, k.All (fun _ => True) RD → k.fits rs
  | .int, _ | .bool, _ | .unit, _ | .any _, _ => trivial
  | .lst a, q => fits_of h a q
  | .pair a b, q => ⟨fits_of h a q.1, fits_of h b q.2⟩
  | .fn a r b, q => ⟨fits_of h a q.1, fun n z e => by have := (h.rg _ (look_mem e)).2.1; have := q.2.1.few; simp only at *; omega, fits_of h b q.2.2⟩
theorem put_row_tiny {rs : Rs} (h : RsOk rs) {r : Rw} (hr : RD r) : (r.put rs).tiny := by
  unfold Rw.put
  split
  · exact hr.tiny
  · rename_i n e
    split
    · exact hr.tiny
    · rename_i q e2
      obtain ⟨a, b, c, d⟩ := h.rg _ (look_mem e2)
      obtain ⟨s1, s2, s3⟩ := sort_facts (r.ns ++ q.ns) (fun x hx => (List.mem_append.mp hx).elim (hr.nm x) (c x))
      have := hr.few
      simp only at b
      rw [List.length_append] at s2
      exact ⟨⟨⟨s1, by simp only; omega⟩, s3⟩, by simp only; omega, d⟩
/-- kinds that are put: small -/
structure KsOk (c e : Nat) (ks : Ks) : Prop where
  kg : ∀ p ∈ ks, p.2.tiny ∧ p.2.dep ≤ e + 1 ∧ p.2.wt 13 ≤ c
theorem put_kt {ks : Ks} {rs : Rs} {c e : Nat} (hc : 13 ≤ c) (hk : KsOk c e ks) (hr : RsOk rs) : ∀ k : Kd, k.All (fun n => n < 3) RD → (k.put ks rs).tiny ∧ (k.put ks rs).dep ≤ k.dep + e ∧ (k.put ks rs).wt 13 ≤ k.wt c
  | .int, _ | .bool, _ | .unit, _ => ⟨trivial, by simp [Kd.put, Kd.dep], by simpa [Kd.put, Kd.wt] using hc⟩
  | .any n, h => by
    unfold Kd.put
    split
    · rename_i k e1
      obtain ⟨a, b, d⟩ := hk.kg _ (look_mem e1)
      have b' : k.dep ≤ e + 1 := b
      exact ⟨a, by simp only [Kd.dep]; omega, by simp only [Kd.wt]; exact d⟩
    · exact ⟨by show n < 100; have : n < 3 := h; omega, by simp [Kd.dep], by simpa [Kd.wt] using hc⟩
  | .lst a, h => by
    obtain ⟨x, y, z⟩ := put_kt hc hk hr a h
    exact ⟨x, by simp only [Kd.put, Kd.dep]; omega, by simp only [Kd.put, Kd.wt]; omega⟩
  | .pair a b, h => by
    obtain ⟨x, y, z⟩ := put_kt hc hk hr a h.1
    obtain ⟨x2, y2, z2⟩ := put_kt hc hk hr b h.2
    exact ⟨⟨x, x2⟩, by simp only [Kd.put, Kd.dep]; omega, by simp only [Kd.put, Kd.wt]; omega⟩
  | .fn a r b, h => by
    obtain ⟨x, y, z⟩ := put_kt hc hk hr a h.1
    obtain ⟨x2, y2, z2⟩ := put_kt hc hk hr b h.2.2
    exact ⟨⟨x, put_row_tiny hr h.2.1, x2⟩, by simp only [Kd.put, Kd.dep]; omega, by simp only [Kd.put, Kd.wt]; omega⟩
theorem PD.ks {ks : Ks} {rs : Rs} (h : PD ks rs) : KsOk 193 2 ks := by
  refine ⟨fun p hp => ⟨((h.kg p hp).kt (by decide)).tiny, (h.kg p hp).dep, ?_⟩⟩
  have h1 := (h.kg p hp).wt 13
  have h2 : wB 13 2 = 193 := by decide
  omega
theorem PD.rs {ks : Ks} {rs : Rs} (h : PD ks rs) : RsOk rs := ⟨fun p hp => ⟨(h.rg p hp).up, (h.rg p hp).few, (h.rg p hp).nm, fun n e => by have := (h.rg p hp).tl n e; omega⟩⟩
/-- a drawn kind with such put for its loose ones -/
theorem put_ok {ks : Ks} {rs : Rs} {c e : Nat} (hc : 13 ≤ c) (hc2 : c ≤ 193) (he : e ≤ 2) (hk : KsOk c e ks) (hr : RsOk rs) {k : Kd} (h : KD 4 k) : Kt (k.put ks rs) := by
  obtain ⟨a, b, d⟩ := put_kt hc hk hr k h.all
  have h1 := h.wt c
  have h2 : wB c 4 ≤ 3793 := by simp only [wB]; omega
  have h3 := h.dep
  exact ⟨a, by omega, by omega⟩
/-! loose ones called otherwise -/
def Inj3 (f : Nat → Nat) : Prop := ∀ m n, m < 3 → n < 3 → f m = f n → m = n
theorem mem_map3 {f : Nat → Nat} (hf : Inj3 f) {n : Nat} {xs : List Nat} (hn : n < 3) (hx : ∀ m ∈ xs, m < 3) : f n ∈ xs.map f ↔ n ∈ xs := by
  constructor
  · intro h
    obtain ⟨m, hm, e⟩ := List.mem_map.mp h
    rw [← hf m n (hx m hm) hn e]
    exact hm
  · exact fun h => List.mem_map.mpr ⟨n, h, rfl⟩
theorem mg_map {f : Nat → Nat} (hf : Inj3 f) {xs ys : List Nat} (hx : ∀ m ∈ xs, m < 3) (hy : ∀ m ∈ ys, m < 3) : mg (xs.map f) (ys.map f) = (mg xs ys).map f := by
  unfold mg
  rw [List.map_append, List.filter_map]
  congr 2
  refine List.filter_congr fun n hn => ?_
  have := mem_map3 hf (hy n hn) hx
  simp only [Function.comp, List.contains_eq_mem]
  congr 1
  exact decide_eq_decide.mpr this
theorem idx_map {f : Nat → Nat} (hf : Inj3 f) {n : Nat} (hn : n < 3) : ∀ {xs : List Nat}, (∀ m ∈ xs, m < 3) → (xs.map f).idxOf (f n) = xs.idxOf n
  | [], _ => rfl
  | x :: r, h => by
    have ih := idx_map hf hn (xs := r) fun m hm => h m (List.mem_cons_of_mem _ hm)
    rw [List.map_cons, List.idxOf_cons, List.idxOf_cons, ih]
    by_cases e : x = n
    · subst e; simp
    · have e1 : (x == n) = false := by simpa using e
      have e2 : (f x == f n) = false := by simpa using fun z => e (hf x n (h x (List.mem_cons_self ..)) hn z)
      rw [e1, e2]
def Rw.rn (g : Nat → Nat) (r : Rw) : Rw := ⟨r.ns, r.tl.map g⟩
def Kd.rn (f g : Nat → Nat) (k : Kd) : Kd := k.led (fun n => .any (f n)) (Rw.rn g)
def Kd.lo3 (k : Kd) : Prop := k.All (fun n => n < 3) (fun r => ∀ n, r.tl = some n → n < 3)
theorem la3 : ∀ k : Kd, k.lo3 → ∀ m ∈ k.la, m < 3
  | .int, _, m, h | .bool, _, m, h | .unit, _, m, h => by simp [Kd.la] at h
  | .any n, q, m, h => by simp only [Kd.la, List.mem_singleton] at h; rw [h]; exact q
  | .lst a, q, m, h => la3 a q m h
  | .pair a b, q, m, h => (mem_mg.mp h).elim (la3 a q.1 m) (la3 b q.2 m)
  | .fn a r b, q, m, h => (mem_mg.mp h).elim (la3 a q.1 m) (la3 b q.2.2 m)
theorem lor3 {r : Rw} (h : ∀ n, r.tl = some n → n < 3) : ∀ m ∈ r.lo, m < 3 := fun m hm => by
  unfold Rw.lo at hm
  cases e : r.tl with
  | none => rw [e] at hm; simp at hm
  | some n => rw [e] at hm; simp at hm; rw [hm]; exact h n e
theorem lt3 : ∀ k : Kd, k.lo3 → ∀ m ∈ k.lt, m < 3
  | .int, _, m, h | .bool, _, m, h | .unit, _, m, h | .any _, _, m, h => by simp [Kd.lt] at h
  | .lst a, q, m, h => lt3 a q m h
  | .pair a b, q, m, h => (mem_mg.mp h).elim (lt3 a q.1 m) (lt3 b q.2 m)
  | .fn a r b, q, m, h => (mem_mg.mp h).elim (fun h => (mem_mg.mp h).elim (lt3 a q.1 m) (lor3 q.2.1 m)) (lt3 b q.2.2 m)
theorem la_rn {f g : Nat → Nat} (hf : Inj3 f) : ∀ k : Kd, k.lo3 → (k.rn f g).la = k.la.map f
  | .int, _ | .bool, _ | .unit, _ | .any _, _ => rfl
  | .lst a, q => la_rn hf a q
  | .pair a b, q => by
    have e1 := la_rn (g := g) hf a q.1
    have e2 := la_rn (g := g) hf b q.2
    show mg (a.rn f g).la (b.rn f g).la = _
    rw [e1, e2, mg_map hf (la3 a q.1) (la3 b q.2)]
    rfl
  | .fn a r b, q => by
    have e1 := la_rn (g := g) hf a q.1
    have e2 := la_rn (g := g) hf b q.2.2
    show mg (a.rn f g).la (b.rn f g).la = _
    rw [e1, e2, mg_map hf (la3 a q.1) (la3 b q.2.2)]
    rfl
theorem lo_rn (g : Nat → Nat) (r : Rw) : (r.rn g).lo = r.lo.map g := by
  unfold Rw.lo Rw.rn
  cases r.tl <;> rfl
theorem lt_rn {f g : Nat → Nat} (hg : Inj3 g) : ∀ k : Kd, k.lo3 → (k.rn f g).lt = k.lt.map g
  | .int, _ | .bool, _ | .unit, _ | .any _, _ => rfl
  | .lst a, q => lt_rn hg a q
  | .pair a b, q => by
    have e1 := lt_rn (f := f) hg a q.1
    have e2 := lt_rn (f := f) hg b q.2
    show mg (a.rn f g).lt (b.rn f g).lt = _
    rw [e1, e2, mg_map hg (lt3 a q.1) (lt3 b q.2)]
    rfl
  | .fn a r b, q => by
    have e1 := lt_rn (f := f) hg a q.1
    have e2 := lt_rn (f := f) hg b q.2.2
    have l1 := lt3 a q.1
    have l2 := lor3 q.2.1
    show mg (mg (a.rn f g).lt (r.rn g).lo) (b.rn f g).lt = _
    rw [e1, e2, lo_rn, mg_map hg l1 l2, mg_map hg (fun m hm => (mem_mg.mp hm).elim (l1 m) (l2 m)) (lt3 b q.2.2)]
    rfl
theorem nw_rn {f g : Nat → Nat} (hf : Inj3 f) (hg : Inj3 g) {as ts : List Nat} (ha : ∀ m ∈ as, m < 3) (ht : ∀ m ∈ ts, m < 3) : ∀ k : Kd, k.lo3 → (k.rn f g).nw (as.map f) (ts.map g) = k.nw as ts
  | .int, _ | .bool, _ | .unit, _ => rfl
  | .any n, q => by
    show Kd.any ((as.map f).idxOf (f n)) = _
    rw [idx_map hf q ha]
    rfl
  | .lst a, q => congrArg Kd.lst (nw_rn hf hg ha ht a q)
  | .pair a b, q => by
    show Kd.pair ((a.rn f g).nw (as.map f) (ts.map g)) ((b.rn f g).nw (as.map f) (ts.map g)) = _
    rw [nw_rn hf hg ha ht a q.1, nw_rn hf hg ha ht b q.2]
    rfl
  | .fn a r b, q => by
    show Kd.fn ((a.rn f g).nw (as.map f) (ts.map g)) ((r.rn g).nw (ts.map g)) ((b.rn f g).nw (as.map f) (ts.map g)) = _
    rw [nw_rn hf hg ha ht a q.1, nw_rn hf hg ha ht b q.2.2]
    have e : (r.rn g).nw (ts.map g) = r.nw ts := by
      unfold Rw.nw Rw.rn
      cases z : r.tl with
      | none => rfl
      | some n => simp only [Option.map_some]; rw [idx_map hg (q.2.1 n z) ht]
    rw [e]
    rfl
theorem anew_rn {f g : Nat → Nat} (hf : Inj3 f) (hg : Inj3 g) (k : Kd) (h : k.lo3) : anewD (k.rn f g) bare = anewD k bare := by
  have e : ∀ xs : List Nat, mg xs bare.lo = xs := fun xs => mg_nil_r xs
  unfold anewD
  rw [e, e, la_rn hf k h, lt_rn hg k h, nw_rn hf hg (la3 k h) (lt3 k h) k h]
  rfl
end Mn.k20

/-! Q18: named anew: how much text; alike -/
namespace Mn.k20
open PySem PySem.Spec PyProof.Rows L2 Mn
theorem la_wt : ∀ k : Kd, 13 * k.la.length ≤ k.wt 13
  | .int | .bool | .unit | .any _ => by simp [Kd.la, Kd.wt]
  | .lst a => by have := la_wt a; simp only [Kd.la, Kd.wt]; omega
  | .pair a b => by have := la_wt a; have := la_wt b; have := len_mg a.la b.la; simp only [Kd.la, Kd.wt]; omega
  | .fn a r b => by have := la_wt a; have := la_wt b; have := len_mg a.la b.la; simp only [Kd.la, Kd.wt]; omega
theorem lt_wt : ∀ k : Kd, 13 * k.lt.length ≤ k.wt 13
  | .int | .bool | .unit | .any _ => by simp [Kd.lt, Kd.wt]
  | .lst a => by have := lt_wt a; simp only [Kd.lt, Kd.wt]; omega
  | .pair a b => by have := lt_wt a; have := lt_wt b; have := len_mg a.lt b.lt; simp only [Kd.lt, Kd.wt]; omega
  | .fn a r b => by have := lt_wt a; have := lt_wt b; have := len_mg a.lt r.lo; have := len_lo r; have := len_mg (mg a.lt r.lo) b.lt; simp only [Kd.lt, Kd.wt]; omega
theorem nw_dep (as ts : List Nat) : ∀ k : Kd, (k.nw as ts).dep = k.dep
  | .int | .bool | .unit | .any _ => rfl
  | .lst a => congrArg (· + 1) (nw_dep as ts a)
  | .pair a b => by show max (a.nw as ts).dep (b.nw as ts).dep + 1 = _; rw [nw_dep as ts a, nw_dep as ts b]; rfl
  | .fn a r b => by show max (a.nw as ts).dep (b.nw as ts).dep + 1 = _; rw [nw_dep as ts a, nw_dep as ts b]; rfl
theorem nw_wt (as ts : List Nat) (c : Nat) : ∀ k : Kd, (k.nw as ts).wt c = k.wt c
  | .int | .bool | .unit | .any _ => rfl
  | .lst a => congrArg (· + 6) (nw_wt as ts c a)
  | .pair a b => by show (a.nw as ts).wt c + (b.nw as ts).wt c + 7 = _; rw [nw_wt as ts c a, nw_wt as ts c b]; rfl
  | .fn a r b => by show (a.nw as ts).wt c + (b.nw as ts).wt c + 47 = _; rw [nw_wt as ts c a, nw_wt as ts c b]; rfl
theorem nw_row_tiny {ts : List Nat} (h : ts.length < 100) {r : Rw} (hr : r.tiny) : (r.nw ts).tiny := ⟨hr.1, hr.2.1, fun n e => by
  unfold Rw.nw at e
  cases z : r.tl with
  | none => rw [z] at e; cases e
  | some m =>
    rw [z] at e
    simp only [Option.map_some, Option.some.injEq] at e
    have := List.idxOf_le_length (a := m) (l := ts)
    omega⟩
theorem nw_tiny {as ts : List Nat} (ha : as.length < 100) (h : ts.length < 100) : ∀ k : Kd, k.tiny → (k.nw as ts).tiny
  | .int, _ | .bool, _ | .unit, _ => trivial
  | .any n, _ => by
    show as.idxOf n < 100
    have := List.idxOf_le_length (a := n) (l := as)
    omega
  | .lst a, q => nw_tiny ha h a q
  | .pair a b, q => ⟨nw_tiny ha h a q.1, nw_tiny ha h b q.2⟩
  | .fn a r b, q => ⟨nw_tiny ha h a q.1, nw_row_tiny h q.2.1, nw_tiny ha h b q.2.2⟩
theorem anew_fit {k : Kd} (h : KD 4 k) {r : Rw} (hr : RD r) : Fit 2000 (anewD k r) ∧ (anewD k r).depth ≤ 39 := by
  have kt := h.kt (by decide)
  have w1 := h.wt 13
  have w2 : wB 13 4 = 913 := by decide
  have a1 := la_wt k
  have a2 := lt_wt k
  have a3 := len_mg k.lt r.lo
  have a4 := len_lo r
  have t1 := nw_tiny (as := k.la) (ts := mg k.lt r.lo) (by omega) (by omega) k kt.tiny
  have t2 := nw_row_tiny (ts := mg k.lt r.lo) (by omega) hr.tiny
  have f1 := fit_kd _ t1 (by rw [nw_dep]; have := h.dep; omega)
  have f2 := fit_row t2
  rw [nw_wt] at f1
  have d1 := kd_depth (k.nw k.la (mg k.lt r.lo))
  rw [nw_dep] at d1
  have d2 := row_depth (r.nw (mg k.lt r.lo))
  have hd := h.dep
  refine ⟨(fit_tup (fits_cons f1 (by omega) (fits_cons f2 (by omega) fits_nil))).mono (by omega), ?_⟩
  simp only [anewD, PyData.depth, PyData.depthAll]
  omega
theorem anew_depth (k : Kd) (r : Rw) : (anewD k r).depth ≤ k.dep + 4 := by
  have d1 := kd_depth (k.nw k.la (mg k.lt r.lo))
  rw [nw_dep] at d1
  have d2 := row_depth (r.nw (mg k.lt r.lo))
  have := dep_pos k
  simp only [anewD, PyData.depth, PyData.depthAll]
  omega
theorem eq_anew (k k' : Kd) (h : k'.dep ≤ 100) : fEq (anewD k bare) (anewD k' bare) = some (.bool (PyData.eqv (anewD k bare) (anewD k' bare))) := by
  have := anew_depth k' bare
  unfold fEq
  rw [if_pos (by rw [decide_eq_true (show (anewD k' bare).depth ≤ 190 by omega)]; rfl)]
theorem row_refl (r : Rw) : PyData.eqv r.den r.den = true := by
  have := eqvAll_strs r.ns
  cases z : r.tl <;> simp [Rw.den, PyData.eqv, PyData.eqvAll, this, z]
theorem kd_refl : ∀ k : Kd, PyData.eqv k.den k.den = true
  | .int | .bool | .unit | .any _ => by simp [Kd.den, PyData.eqv, PyData.eqvAll]
  | .lst a => by simp [Kd.den, PyData.eqv, PyData.eqvAll, kd_refl a]
  | .pair a b => by simp [Kd.den, PyData.eqv, PyData.eqvAll, kd_refl a, kd_refl b]
  | .fn a r b => by simp [Kd.den, PyData.eqv, PyData.eqvAll, kd_refl a, kd_refl b, row_refl r]
theorem anew_refl (k : Kd) (r : Rw) : PyData.eqv (anewD k r) (anewD k r) = true := by simp [anewD, PyData.eqv, PyData.eqvAll, kd_refl, row_refl]
/-! the ones that are called otherwise -/
structure Six (l : List Nat) : Prop where
  len : l.length = 6
  nd : l.Nodup
  lt : ∀ n ∈ l, n < 20
def lf (l : List Nat) (n : Nat) : Nat := l.getD n 0
def lg (l : List Nat) (n : Nat) : Nat := l.getD (3 + n) 0
def ks6 (l : List Nat) : Ks := [(0, .any (lf l 0)), (1, .any (lf l 1)), (2, .any (lf l 2))]
def rs6 (l : List Nat) : Rs := [(0, ⟨[], some (lg l 0)⟩), (1, ⟨[], some (lg l 1)⟩), (2, ⟨[], some (lg l 2)⟩)]
theorem getD_el {l : List Nat} {i : Nat} (h : i < l.length) : l.getD i 0 = l[i] := by simp [h]
theorem getD_inj {l : List Nat} (h : l.Nodup) {i j : Nat} (hi : i < l.length) (hj : j < l.length) (e : l.getD i 0 = l.getD j 0) : i = j := by
  rw [getD_el hi, getD_el hj] at e
  exact (List.getElem_inj h).mp e
theorem Six.f {l : List Nat} (h : Six l) : Inj3 (lf l) := fun m n hm hn e => getD_inj h.nd (by rw [h.len]; omega) (by rw [h.len]; omega) e
theorem Six.g {l : List Nat} (h : Six l) : Inj3 (lg l) := fun m n hm hn e => by
  have := getD_inj h.nd (by rw [h.len]; omega) (by rw [h.len]; omega) e
  omega
theorem Six.at_ {l : List Nat} (h : Six l) {i : Nat} (hi : i < 6) : l.getD i 0 < 20 := by
  rw [getD_el (by rw [h.len]; exact hi)]
  exact h.lt _ (List.getElem_mem _)
theorem ks6_look (l : List Nat) (n : Nat) (h : n < 3) : (ks6 l).lookup n = some (.any (lf l n)) := by
  have : n = 0 ∨ n = 1 ∨ n = 2 := by omega
  rcases this with rfl | rfl | rfl <;> rfl
theorem rs6_look (l : List Nat) (n : Nat) (h : n < 3) : (rs6 l).lookup n = some ⟨[], some (lg l n)⟩ := by
  have : n = 0 ∨ n = 1 ∨ n = 2 := by omega
  rcases this with rfl | rfl | rfl <;> rfl
theorem lo3_of {k : Kd} (h : k.All (fun n => n < 3) RD) : k.lo3 := All.imp (fun _ h => h) (fun r h => h.tl) k h
theorem put_six (l : List Nat) : ∀ k : Kd, k.All (fun n => n < 3) RD → k.put (ks6 l) (rs6 l) = k.rn (lf l) (lg l)
  | .int, _ | .bool, _ | .unit, _ => rfl
  | .any n, h => by
    have e := ks6_look l n h
    simp only [Kd.put, e, Kd.rn, Kd.led]
  | .lst a, h => congrArg Kd.lst (put_six l a h)
  | .pair a b, h => by
    show Kd.pair (a.put (ks6 l) (rs6 l)) (b.put (ks6 l) (rs6 l)) = _
    rw [put_six l a h.1, put_six l b h.2]
    rfl
  | .fn a r b, h => by
    show Kd.fn (a.put (ks6 l) (rs6 l)) (r.put (rs6 l)) (b.put (ks6 l) (rs6 l)) = _
    rw [put_six l a h.1, put_six l b h.2.2]
    have e : r.put (rs6 l) = r.rn (lg l) := by
      unfold Rw.put Rw.rn
      cases z : r.tl with
      | none => obtain ⟨ns, tl⟩ := r; simp only at z; subst z; rfl
      | some n => simp only [rs6_look l n (h.2.1.tl n z), List.append_nil, sortS_id h.2.1.up, Option.map_some]
    rw [e]
    rfl
theorem ks6_ok {l : List Nat} (h : Six l) : KsOk 13 0 (ks6 l) := ⟨fun p hp => by
  simp only [ks6, List.mem_cons, List.not_mem_nil, or_false] at hp
  rcases hp with rfl | rfl | rfl
  · exact ⟨by show lf l 0 < 100; have := h.at_ (i := 0) (by decide); unfold lf; omega, by simp [Kd.dep], by simp [Kd.wt]⟩
  · exact ⟨by show lf l 1 < 100; have := h.at_ (i := 1) (by decide); unfold lf; omega, by simp [Kd.dep], by simp [Kd.wt]⟩
  · exact ⟨by show lf l 2 < 100; have := h.at_ (i := 2) (by decide); unfold lf; omega, by simp [Kd.dep], by simp [Kd.wt]⟩⟩
theorem rs6_ok {l : List Nat} (h : Six l) : RsOk (rs6 l) := ⟨fun p hp => by
  simp only [rs6, List.mem_cons, List.not_mem_nil, or_false] at hp
  rcases hp with rfl | rfl | rfl
  · exact ⟨.nil, by simp, by simp, fun n e => by cases e; have q := h.at_ (i := 3) (by decide); have z : lg l 0 = l.getD 3 0 := rfl; rw [z]; omega⟩
  · exact ⟨.nil, by simp, by simp, fun n e => by cases e; have q := h.at_ (i := 4) (by decide); have z : lg l 1 = l.getD 4 0 := rfl; rw [z]; omega⟩
  · exact ⟨.nil, by simp, by simp, fun n e => by cases e; have q := h.at_ (i := 5) (by decide); have z : lg l 2 = l.getD 5 0 := rfl; rw [z]; omega⟩⟩
end Mn.k20

/-! Q19: the rows of _law_right -/
namespace Mn.k20
open PySem PySem.Spec PyProof.Rows L2 Mn
def R0 : Sts := (sPar 2 3 (aCons (eCall (f__law_kind 6) (aCons (eLoc 0) (aCons (eC (.int 4)) aNil))) (aCons (eCall f__law_row (aCons (eLoc 0) aNil)) aNil)))
def R1 : Sts := (sSet 4 (eRepr (eLst (aCons (eLoc 2) (aCons (eLoc 3) aNil)))))
def R2 : Sts := (sAsg (eCall (f__law_loose 12) (aCons (eLoc 2) aNil)) (tTuple 2 (tgCons (tName 5) (tgCons (tName 6) tgNil))))
def R3 : Sts := (sIf (eOr (eNot (eCall f__law_twice (aCons (eLst (aCons (eCall f_loose (aCons (eLoc 2) aNil)) (aCons (eCallK0 f_loose [0] (aCons (eLoc 2) aNil)) aNil))) (aCons (eTup (aCons (eLoc 5) (aCons (eLoc 6) aNil))) aNil)))) (eOr (eBin fNotB (eCall f_is_kind (aCons (eLoc 2) aNil)) (eC (.bool true))) (eBin fNotB (eCall f_is_row (aCons (eLoc 3) aNil)) (eC (.bool true))))) (sRet (eC (.bool false))) sNil)
def R4 : Sts := (sDropCut (eApp (eIxU (eCall f_loose__u (aCons (eLoc 2) aNil)) (eC (.int 0))) (eC (.int 99))))
def R5 : Sts := (sSet 7 (eBlt bTuple (aCons (eSortT (eComp (iRngM (aCons (eCall f__law_draw (aCons (eLoc 0) (aCons (eC (.int 4)) aNil))) aNil)) (fName 12) [12] eYes (eCall f__law_pick (aCons (eLoc 0) (aCons (eLst (aCons (eC (.str "A")) (aCons (eC (.str "B")) (aCons (eC (.str "Get")) (aCons (eC (.str "Zz")) aNil))))) aNil))))) aNil)))
def R6 : Sts := (sIf (eNot (eCall f__law_twice (aCons (eLst (aCons (eCall f_row_more (aCons (eLoc 3) (aCons (eLoc 7) aNil))) (aCons (eCallK0 f_row_more [1, 0] (aCons (eLoc 7) (aCons (eLoc 3) aNil))) aNil))) (aCons (eTup (aCons (eC (.str "row")) (aCons (eBlt bTuple (aCons (eSortT (eBin fAdd (eBin fIdx (eLoc 3) (eC (.int 1))) (eLoc 7))) aNil)) (aCons (eBin fIdx (eLoc 3) (eC (.int 2))) aNil)))) aNil)))) (sRet (eC (.bool false))) sNil)
def R7 : Sts := (sAsg (eCall f__law_putting (aCons (eLoc 0) aNil)) (tgU [8, 9, 10]))
def R8 : Sts := (sIf (eOr (eBin fNotB (eCall f_is_putting (aCons (eTree (eLoc 10)) aNil)) (eC (.bool true))) (eNot (eCall f__law_twice (aCons (eLst (aCons (eCall f_kind_put (aCons (eLoc 2) (aCons (eLoc 10) aNil))) (aCons (eCallK0 f_kind_put [1, 0] (aCons (eLoc 10) (aCons (eLoc 2) aNil))) aNil))) (aCons (eCall f__law_kind_put (aCons (eLoc 2) (aCons (eLoc 8) (aCons (eLoc 9) aNil)))) aNil))))) (sRet (eC (.bool false))) sNil)
def R9 : Sts := (sIf (eNot (eCall f__law_twice (aCons (eLst (aCons (eCall f_row_put (aCons (eLoc 3) (aCons (eLoc 10) aNil))) (aCons (eCallK0 f_row_put [1, 0] (aCons (eLoc 10) (aCons (eLoc 3) aNil))) aNil))) (aCons (eCall f__law_row_put (aCons (eLoc 3) (aCons (eLoc 9) aNil))) aNil)))) (sRet (eC (.bool false))) sNil)
def R10 : Sts := (sSet 11 (eCall f__law_anew (aCons (eLoc 2) (aCons (eLoc 3) aNil))))
def R11 : Sts := (sIf (eNot (eCall f__law_twice (aCons (eLst (aCons (eCall f_named_anew (aCons (eLoc 2) (aCons (eLoc 3) aNil))) (aCons (eCallK0 f_named_anew [1, 0] (aCons (eLoc 3) (aCons (eLoc 2) aNil))) aNil))) (aCons (eLoc 11) aNil)))) (sRet (eC (.bool false))) sNil)
def R12 : Sts := (sSet 12 (eCall f__law_some (aCons (eLoc 0) (aCons (eListRng (eC (.int 20))) (aCons (eC (.int 6)) aNil)))))
def R13 : Sts := (sSet 13 (eCall f__law_kind_put (aCons (eLoc 2) (aCons (eDictP (eComp (iRngM (aCons (eC (.int 3)) aNil)) (fName 17) [17] eYes (eTup (aCons (eLoc 17) (aCons (eTup (aCons (eC (.str "any")) (aCons (eBin fIdx (eLoc 12) (eLoc 17)) aNil))) aNil))))) (aCons (eDictP (eComp (iRngM (aCons (eC (.int 3)) aNil)) (fName 17) [17] eYes (eTup (aCons (eLoc 17) (aCons (eTup (aCons (eC (.str "row")) (aCons (eTup aNil) (aCons (eBin fIdx (eLoc 12) (eBin fAdd (eC (.int 3)) (eLoc 17))) aNil)))) aNil))))) aNil)))))
def R14 : Sts := (sSet 14 (eTup (aCons (eC (.str "row")) (aCons (eTup aNil) (aCons (eC .none) aNil)))))
def I0 : Sts := (sSet 16 (eBin fEq (eCall f__law_anew (aCons (eLoc 15) (aCons (eLoc 14) aNil))) (eCall f__law_anew (aCons (eLoc 2) (aCons (eLoc 14) aNil)))))
def I1 : Sts := (sIf (eNot (eCall f__law_twice (aCons (eLst (aCons (eCall f_are_alike_kinds (aCons (eLoc 2) (aCons (eLoc 15) aNil))) (aCons (eCallK0 f_are_alike_kinds [1, 0] (aCons (eLoc 2) (aCons (eLoc 15) aNil))) aNil))) (aCons (eLoc 16) aNil)))) (sRet (eC (.bool false))) sNil)
def I_src : SemI := (iTupM (eTup (aCons (eLoc 13) (aCons (eCall (f__law_kind 6) (aCons (eLoc 0) (aCons (eC (.int 3)) aNil))) (aCons (eCall f__law_kind_put (aCons (eLoc 2) (aCons (eDisp1 (eC (.int 0)) (eTup (aCons (eC (.str "any")) (aCons (eC (.int 1)) aNil)))) (aCons eNewD aNil)))) (aCons (eCall f__law_kind_put (aCons (eLoc 2) (aCons eNewD (aCons (eDisp1 (eC (.int 1)) (eTup (aCons (eC (.str "row")) (aCons (eTup aNil) (aCons (eC (.int 0)) aNil))))) aNil)))) (aCons (eCall f__law_kind_put (aCons (eLoc 2) (aCons (eLoc 8) (aCons (eLoc 9) aNil)))) aNil)))))))
def R15 : Sts := (sFor I_src (tName 15) (sScope (sSeq I0 I1)))
def R16 : Sts := (sIf (eOr (eNot (eCall f_are_alike_kinds (aCons (eLoc 2) (aCons (eLoc 13) aNil)))) (eEqT false (eRepr (eLst (aCons (eLoc 2) (aCons (eLoc 3) aNil)))) (eLoc 4))) (sRet (eC (.bool false))) sNil)
def RB : Sts := (sSeq R0 (sSeq R1 (sSeq R2 (sSeq R3 (sSeq R4 (sSeq R5 (sSeq R6 (sSeq R7 (sSeq R8 (sSeq R9 (sSeq R10 (sSeq R11 (sSeq R12 (sSeq R13 (sSeq R14 (sSeq R15 R16))))))))))))))))
theorem right_body : b__law_right = (sSeq (sFor (iRngM (aCons (eC (.int 8)) aNil)) (tName 1) (sScope RB)) (sRet (eC (.bool true)))) := rfl
def RL (p : Nat) (x1 x2 x3 x4 x5 x6 x7 x8 x9 x10 x11 x12 x13 x14 x15 x16 x17 : Option Vl) : Lc := [some (.r p), x1, x2, x3, x4, x5, x6, x7, x8, x9, x10, x11, x12, x13, x14, x15, x16, x17]
section
variable {p : Nat} {x1 x2 x3 x4 x5 x6 x7 x8 x9 x10 x11 x12 x13 x14 x15 x16 x17 : Option Vl} {S : So} {k : Kd} {r : Rw}
abbrev sd (t : T) : Option Vl := some (.d t)
theorem r0 (h : Pot p S) : ∃ k r S', R0 (RL p x1 x2 x3 x4 x5 x6 x7 x8 x9 x10 x11 x12 x13 x14 x15 x16 x17) S = some (.nx (RL p x1 (sd (Kd.den k)) (sd (Rw.den r)) x4 x5 x6 x7 x8 x9 x10 x11 x12 x13 x14 x15 x16 x17) S') ∧ Dr p S S' ∧ KD 4 k ∧ RD r := by
  obtain ⟨_, S1, e1, d1, k, rfl, hk⟩ := kind_drawn p 5 4 (by decide) S h
  obtain ⟨_, S2, e2, d2, r, rfl, hr⟩ := row_drawn p S1 (d1.pot h)
  have e1' : f__law_kind 6 [.r p, .d (.int 4)] S = some (.d k.den, S1) := e1
  exact ⟨k, r, S2, by simp [R0, RL, e1', e2, sd], d1.trans d2, hk, hr⟩
def shD (k : Kd) (r : Rw) : T := .list [k.den, r.den]
theorem sh_fit (hk : Kt k) (hr : RD r) : Fit 5000 (shD k r) := by
  have d1 := hk.depth
  have d2 := row_depth r
  exact (fit_lst (fits_cons hk.fit (by omega) (fits_cons (fit_row hr.tiny) (by omega) fits_nil))).mono (by omega)
theorem r1 (hk : Kt k) (hr : RD r) : R1 (RL p x1 (sd k.den) (sd r.den) x4 x5 x6 x7 x8 x9 x10 x11 x12 x13 x14 x15 x16 x17) S = some (.nx (RL p x1 (sd k.den) (sd r.den) (some (.t (shD k r).shown)) x5 x6 x7 x8 x9 x10 x11 x12 x13 x14 x15 x16 x17) S) := by
  have e := repr_eq (m := eLst (aCons (eLoc 2) (aCons (eLoc 3) aNil))) (L := RL p x1 (sd k.den) (sd r.den) x4 x5 x6 x7 x8 x9 x10 x11 x12 x13 x14 x15 x16 x17) (S := S) (S1 := S) (t := shD k r) (by simp [RL, sd, shD]) rfl (sh_fit hk hr) (by decide)
  unfold R1
  rw [ev_sSet, e]
  rfl
theorem r2 (hk : Kt k) : R2 (RL p x1 (sd k.den) x3 x4 x5 x6 x7 x8 x9 x10 x11 x12 x13 x14 x15 x16 x17) S = some (.nx (RL p x1 (sd k.den) x3 x4 (sd (nums k.la)) (sd (nums k.lt)) x7 x8 x9 x10 x11 x12 x13 x14 x15 x16 x17) S) := by
  have e := loose_eq 11 k S (by have := hk.dep; omega) hk.kok.sz
  simp [R2, RL, sd, e, loD]
theorem nums_fit {xs : List Nat} (h : ∀ x ∈ xs, x < 100) : Fit (8 * xs.length) (nums xs) := fit_lst (fits_nums xs h)
theorem nums_depth (xs : List Nat) : (nums xs).depth ≤ 1 := by
  have : PyData.depthAll (xs.map fun n => (PyData.int (n : Nat))) = 0 := by
    induction xs with
    | nil => rfl
    | cons x r ih => rw [List.map_cons, PyData.depthAll, ih]; rfl
  simp [nums, PyData.depth, this]
theorem loD_fit (hk : KD 4 k) : Fit 2000 (loD k.la k.lt) ∧ (loD k.la k.lt).depth ≤ 39 := by
  have w1 := hk.wt 13
  have w2 : wB 13 4 = 913 := by decide
  have a1 := la_wt k
  have a2 := lt_wt k
  have l3 := lo3_of hk.all
  have f1 := nums_fit (xs := k.la) (fun x hx => by have := la3 k l3 x hx; omega)
  have f2 := nums_fit (xs := k.lt) (fun x hx => by have := lt3 k l3 x hx; omega)
  have d1 := nums_depth k.la
  have d2 := nums_depth k.lt
  refine ⟨(fit_tup (fits_cons f1 (by omega) (fits_cons f2 (by omega) fits_nil))).mono (by omega), ?_⟩
  simp only [loD, PyData.depth, PyData.depthAll]
  omega
theorem r3 (hk : KD 4 k) (hr : RD r) : R3 (RL p x1 (sd k.den) (sd r.den) x4 (sd (nums k.la)) (sd (nums k.lt)) x7 x8 x9 x10 x11 x12 x13 x14 x15 x16 x17) S = some (.nx (RL p x1 (sd k.den) (sd r.den) x4 (sd (nums k.la)) (sd (nums k.lt)) x7 x8 x9 x10 x11 x12 x13 x14 x15 x16 x17) S) := by
  have kt := hk.kt (by decide)
  have e1 := loose_f_eq kt.kok S
  have e2 := is_kind_eq kt.kok S
  have e3 := is_row_eq hr.good S
  have e4 := twice_eq (loD_fit hk).1 (by decide) (loD_fit hk).2 S
  simp only [loD] at e1 e4
  simp [R3, RL, sd, e1, e2, e3, e4]
theorem r4 (hk : Kt k) : R4 (RL p x1 (sd k.den) x3 x4 x5 x6 x7 x8 x9 x10 x11 x12 x13 x14 x15 x16 x17) S = some (.nx (RL p x1 (sd k.den) x3 x4 x5 x6 x7 x8 x9 x10 x11 x12 x13 x14 x15 x16 x17) S) := by
  have e := loose_u_eq hk.kok S
  have a : L2.atI [Cap.r (S.length + 2), Cap.r (S.length + 3)] 0 = some (Cap.r (S.length + 2)) := by simp [L2.atI, L2.ixN]
  have hl : k.la.length < 100000 := by have := len_la k; have := hk.kok.sz; omega
  simp [R4, RL, sd, e, a, Cap.vl, hl]
end
end Mn.k20

/-! Q20: the rows of _law_right, ctd -/
namespace Mn.k20
open PySem PySem.Spec PyProof.Rows L2 Mn
section
variable {p : Nat} {x1 x2 x3 x4 x5 x6 x7 x8 x9 x10 x11 x12 x13 x14 x15 x16 x17 : Option Vl} {S : So} {k : Kd} {r : Rw}
structure ND (ns : List Str) : Prop where
  up : ns.Pairwise leS
  few : ns.length ≤ 3
  nm : ∀ x ∈ ns, x ∈ NM
theorem r5 (h : Pot p S) : ∃ ns S', R5 (RL p x1 x2 x3 x4 x5 x6 x7 x8 x9 x10 x11 x12 x13 x14 x15 x16 x17) S = some (.nx (RL p x1 x2 x3 x4 x5 x6 (sd (nmD ns)) x8 x9 x10 x11 x12 x13 x14 x15 x16 x17) S') ∧ Dr p S S' ∧ ND ns := by
  obtain ⟨d, S1, e1, d1, l1, l2⟩ := draw_eq h 4 (by decide) (by decide)
  obtain ⟨n, rfl⟩ : ∃ n : Nat, d = (n : Nat) := ⟨d.toNat, by omega⟩
  have hr := rng_draw (p := p) (m := eCall f__law_draw (aCons (eLoc 0) (aCons (eC (.int 4)) aNil))) (L := RL p x1 x2 x3 x4 x5 x6 x7 x8 x9 x10 x11 x12 x13 x14 x15 x16 x17) (S := S) (n := n) (S1 := S1) (by simp [RL, e1]) (by omega)
  obtain ⟨us, S2, c, d2, hu, pu⟩ := comp_draw (n := 3) (f := fName 12) (vs := [12]) (elt := eCall f__law_pick (aCons (eLoc 0) (aCons (eLst (aCons (eC (.str "A")) (aCons (eC (.str "B")) (aCons (eC (.str "Get")) (aCons (eC (.str "Zz")) aNil))))) aNil))) (fun t => ∃ x, t = .str x ∧ x ∈ NM) h ⟨S1, hr, d1⟩ (fun t ht => ⟨_, rfl, fun S hS => by
    obtain ⟨u, S', e, d, m⟩ := pick_eq p [.str "A", .str "B", .str "Get", .str "Zz"] (by simp) (by decide) S hS
    refine ⟨u, S', by simp [wipeL, RL, e], d, ?_⟩
    simp only [List.mem_cons, List.not_mem_nil, or_false] at m
    rcases m with e | e | e | e
    · exact ⟨_, e, by simp [NM]⟩
    · exact ⟨_, e, by simp [NM]⟩
    · exact ⟨_, e, by simp [NM]⟩
    · exact ⟨_, e, by simp [NM]⟩⟩) (by rw [ints_len]; omega) (by decide)
  obtain ⟨xs, rfl, hx⟩ := strs_of us pu
  rw [List.length_map] at hu
  obtain ⟨f1, f2, f3⟩ := sort_facts xs hx
  have hl : xs.length < 64 := by omega
  refine ⟨sortS xs, S2, ?_, d2, f1, by rw [f2]; exact hu, f3⟩
  unfold R5
  simp only [ev_sSet, ev_eBlt, ev_aCons, ev_eSortT, c, strs_map, if_pos hl, ev_aNil, ev_ds1, ev_ds0, ev_de_d, bTuple_l]
  rfl
theorem r6 (hr : RD r) {ns : List Str} (hn : ND ns) : R6 (RL p x1 x2 (sd r.den) x4 x5 x6 (sd (nmD ns)) x8 x9 x10 x11 x12 x13 x14 x15 x16 x17) S = some (.nx (RL p x1 x2 (sd r.den) x4 x5 x6 (sd (nmD ns)) x8 x9 x10 x11 x12 x13 x14 x15 x16 x17) S) := by
  have e1 := row_more_eq hr.good ns hn.up (by have := hn.few; omega) hn.nm S
  obtain ⟨f1, f2, f3⟩ := sort_facts (r.ns ++ ns) (fun x hx => (List.mem_append.mp hx).elim (hr.nm x) (hn.nm x))
  rw [List.length_append] at f2
  have h1 := hr.few
  have h2 := hn.few
  have ht : Rw.tiny ⟨sortS (r.ns ++ ns), r.tl⟩ := ⟨⟨⟨f1, by simp only; omega⟩, f3⟩, by simp only; omega, fun n e => by have := hr.tl n e; omega⟩
  have e2 := twice_eq (fit_row ht) (by decide) (by have := row_depth ⟨sortS (r.ns ++ ns), r.tl⟩; omega) S
  have h3 : r.ns.length + ns.length < 64 := by omega
  have h4 : r.ns.length + ns.length ≤ 100000 := by omega
  simp only [nmD, Rw.den] at e1 e2
  simp [R6, RL, sd, nmD, Rw.den, e1, e2, h3, h4]
theorem r7 (h : Pot p S) : ∃ ks rs S', R7 (RL p x1 x2 x3 x4 x5 x6 x7 x8 x9 x10 x11 x12 x13 x14 x15 x16 x17) S = some (.nx (RL p x1 x2 x3 x4 x5 x6 x7 (some (.r S'.length)) (some (.r (S'.length + 1))) (some (.q (pTs ks rs))) x11 x12 x13 x14 x15 x16 x17) (S' ++ [.dct (kD ks), .dct (rD rs)])) ∧ Dr p S S' ∧ PD ks rs := by
  obtain ⟨ks, rs, S', e, d, hp⟩ := putting_drawn p S h
  refine ⟨ks, rs, S', ?_, d, hp⟩
  rw [d.len]
  simp [R7, RL, e, setU, Cap.vl]
theorem r8 (hk : KD 4 k) {ks : Ks} {rs : Rs} (hp : PD ks rs) : R8 (RL p x1 (sd k.den) x3 x4 x5 x6 x7 (some (.r S.length)) (some (.r (S.length + 1))) (some (.q (pTs ks rs))) x11 x12 x13 x14 x15 x16 x17) (S ++ [.dct (kD ks), .dct (rD rs)]) = some (.nx (RL p x1 (sd k.den) x3 x4 x5 x6 x7 (some (.r S.length)) (some (.r (S.length + 1))) (some (.q (pTs ks rs))) x11 x12 x13 x14 x15 x16 x17) (S ++ [.dct (kD ks), .dct (rD rs)])) := by
  have kt := hk.kt (by decide)
  have ft := fits_of hp.rs k (All.imp (fun _ _ => trivial) (fun _ h => h) k hk.all)
  have e1 := is_putting_eq hp.ok (S ++ [.dct (kD ks), .dct (rD rs)])
  have e2 := kind_put_f_eq kt.kok hp.ok ft (S ++ [.dct (kD ks), .dct (rD rs)])
  have e3 := kind_put_eq k ks rs (S ++ [.dct (kD ks), .dct (rD rs)]) S.length (S.length + 1) (by have := kt.dep; omega) (by simp) (by simp) ft
  have kp := put_ok (by decide) (by decide) (by decide) hp.ks hp.rs hk
  have e4 := twice_eq kp.fit (by decide) (by have := kp.depth; omega) (S ++ [.dct (kD ks), .dct (rD rs)])
  simp [R8, RL, sd, -List.map_map, e1, e2, e3, e4]
theorem r9 (hr : RD r) {ks : Ks} {rs : Rs} (hp : PD ks rs) : R9 (RL p x1 x2 (sd r.den) x4 x5 x6 x7 (some (.r S.length)) (some (.r (S.length + 1))) (some (.q (pTs ks rs))) x11 x12 x13 x14 x15 x16 x17) (S ++ [.dct (kD ks), .dct (rD rs)]) = some (.nx (RL p x1 x2 (sd r.den) x4 x5 x6 x7 (some (.r S.length)) (some (.r (S.length + 1))) (some (.q (pTs ks rs))) x11 x12 x13 x14 x15 x16 x17) (S ++ [.dct (kD ks), .dct (rD rs)])) := by
  have e2 := row_put_f_eq hr.good hp.ok (S ++ [.dct (kD ks), .dct (rD rs)])
  have e3 := row_put_eq r rs (S ++ [.dct (kD ks), .dct (rD rs)]) (S.length + 1) (by simp) (fun n q e => by have h1 := (hp.rs.rg _ (look_mem e)).2.1; have h2 := hr.few; simp only at h1; omega)
  have tn := put_row_tiny hp.rs hr
  have e4 := twice_eq (fit_row tn) (by decide) (by have := row_depth (r.put rs); omega) (S ++ [.dct (kD ks), .dct (rD rs)])
  simp [R9, RL, sd, e2, e3, e4]
theorem r10 (hk : KD 4 k) : R10 (RL p x1 (sd k.den) (sd r.den) x4 x5 x6 x7 x8 x9 x10 x11 x12 x13 x14 x15 x16 x17) S = some (.nx (RL p x1 (sd k.den) (sd r.den) x4 x5 x6 x7 x8 x9 x10 (sd (anewD k r)) x12 x13 x14 x15 x16 x17) S) := by
  have kt := hk.kt (by decide)
  have e := anew_eq k r S (by have := kt.dep; omega) kt.kok.sz
  simp [R10, RL, sd, e]
theorem r11 (hk : KD 4 k) (hr : RD r) : R11 (RL p x1 (sd k.den) (sd r.den) x4 x5 x6 x7 x8 x9 x10 (sd (anewD k r)) x12 x13 x14 x15 x16 x17) S = some (.nx (RL p x1 (sd k.den) (sd r.den) x4 x5 x6 x7 x8 x9 x10 (sd (anewD k r)) x12 x13 x14 x15 x16 x17) S) := by
  have kt := hk.kt (by decide)
  have e := named_f_eq kt.kok hr.good S
  have e4 := twice_eq (anew_fit hk hr).1 (by decide) (anew_fit hk hr).2 S
  simp [R11, RL, sd, e, e4]
theorem r12 (h : Pot p S) : ∃ late S', R12 (RL p x1 x2 x3 x4 x5 x6 x7 x8 x9 x10 x11 x12 x13 x14 x15 x16 x17) S = some (.nx (RL p x1 x2 x3 x4 x5 x6 x7 x8 x9 x10 x11 (sd (nums late)) x13 x14 x15 x16 x17) S') ∧ Dr p S S' ∧ Six late := by
  obtain ⟨late, S', e, d, h1, h2, h3⟩ := some_drawn p S h
  have en : PyData.list (intsT 20) = nums (List.range 20) := rfl
  refine ⟨late, S', ?_, d, h1, h2, h3⟩
  simp [R12, RL, sd, en, e]
end
end Mn.k20

/-! Q21: the rows of _law_right, the end -/
namespace Mn.k20
open PySem PySem.Spec PyProof.Rows L2 Mn
section
variable {p : Nat} {x1 x2 x3 x4 x5 x6 x7 x8 x9 x10 x11 x12 x13 x14 x15 x16 x17 : Option Vl} {S : So} {k : Kd} {r : Rw}
theorem ix_late {l : List Nat} (h : Six l) {i : Nat} (hi : i < 6) : fIdx (nums l) (.int (i : Nat)) = some (.int (l.getD i 0 : Nat)) := by
  have hl : i < (l.map fun n => (PyData.int (n : Nat))).length := by rw [List.length_map, h.len]; exact hi
  have q := L2.atI_nat (xs := l.map fun n => (PyData.int (n : Nat))) (j := i) (List.getElem?_eq_getElem hl)
  show L2.atI _ _ = _
  rw [q, List.getElem_map, getD_el (by rw [h.len]; exact hi)]
def gAny (l : List Nat) : T → T
  | .int i => enc (i.toNat, (Kd.any (lf l i.toNat)).den)
  | _ => .none
def gRow (l : List Nat) : T → T
  | .int i => enc (i.toNat, Rw.den ⟨[], some (lg l i.toNat)⟩)
  | _ => .none
theorem r13 (hk : KD 4 k) {l : List Nat} (hl : Six l) : R13 (RL p x1 (sd k.den) x3 x4 x5 x6 x7 x8 x9 x10 x11 (sd (nums l)) x13 x14 x15 x16 x17) S = some (.nx (RL p x1 (sd k.den) x3 x4 x5 x6 x7 x8 x9 x10 x11 (sd (nums l)) (sd (k.rn (lf l) (lg l)).den) x14 x15 x16 x17) (S ++ [.dct (kD (ks6 l)), .dct (rD (rs6 l))])) := by
  have kt := hk.kt (by decide)
  have lt3 : ∀ t ∈ intsT 3, ∃ i : Nat, t = .int (i : Nat) ∧ i < 3 := fun t ht => by
    simp only [intsT, List.mem_map, List.mem_range] at ht
    obtain ⟨i, hi, rfl⟩ := ht
    exact ⟨i, rfl, hi⟩
  have c1 := comp_map (src := iRngM (aCons (eC (.int 3)) aNil)) (f := fName 17) (vs := [17]) (elt := eTup (aCons (eLoc 17) (aCons (eTup (aCons (eC (.str "any")) (aCons (eBin fIdx (eLoc 12) (eLoc 17)) aNil))) aNil))) (L := RL p x1 (sd k.den) x3 x4 x5 x6 x7 x8 x9 x10 x11 (sd (nums l)) x13 x14 x15 x16 x17) (S := S) (S1 := S) (ts := intsT 3) (gAny l) (by kernel_rfl) (fun t ht => by
    obtain ⟨i, rfl, hi⟩ := lt3 t ht
    have e := ix_late hl (i := i) (by omega)
    exact ⟨_, rfl, fun acc => by simp [wipeL, RL, sd, e, gAny, enc, Kd.den, lf]⟩) (by rw [ints_len]; decide)
  have c2 := comp_map (src := iRngM (aCons (eC (.int 3)) aNil)) (f := fName 17) (vs := [17]) (elt := eTup (aCons (eLoc 17) (aCons (eTup (aCons (eC (.str "row")) (aCons (eTup aNil) (aCons (eBin fIdx (eLoc 12) (eBin fAdd (eC (.int 3)) (eLoc 17))) aNil)))) aNil))) (L := RL p x1 (sd k.den) x3 x4 x5 x6 x7 x8 x9 x10 x11 (sd (nums l)) x13 x14 x15 x16 x17) (S := S ++ [.dct (kD (ks6 l))]) (S1 := S ++ [.dct (kD (ks6 l))]) (ts := intsT 3) (gRow l) (by kernel_rfl) (fun t ht => by
    obtain ⟨i, rfl, hi⟩ := lt3 t ht
    have e := ix_late hl (i := 3 + i) (by omega)
    rw [Int.natCast_add] at e
    have e' : fIdx (nums l) (.int (3 + (i : Nat))) = some (.int (lg l i : Nat)) := e
    exact ⟨_, rfl, fun acc => by simp [wipeL, RL, sd, e', gRow, enc, Rw.den]⟩) (by rw [ints_len]; decide)
  have g1 : (intsT 3).map (gAny l) = (kEnc (ks6 l)).map enc := rfl
  have g2 : (intsT 3).map (gRow l) = (rEnc (rs6 l)).map enc := rfl
  rw [g1] at c1
  rw [g2] at c2
  have d1 := dictP_eq c1 (by simp [kEnc, ks6])
  have d2 := dictP_eq c2 (by simp [rEnc, rs6])
  rw [show qD (kEnc (ks6 l)) = kD (ks6 l) from kD_enc _] at d1
  rw [show qD (rEnc (rs6 l)) = rD (rs6 l) from rD_enc _] at d2
  have ass : (S ++ [Cell.dct (kD (ks6 l))]) ++ [Cell.dct (rD (rs6 l))] = S ++ [.dct (kD (ks6 l)), .dct (rD (rs6 l))] := by simp
  have nn : (S ++ [Cell.dct (kD (ks6 l))]).length = S.length + 1 := by simp
  rw [ass, nn] at d2
  have ft := fits_of (rs6_ok hl) k (All.imp (fun _ _ => trivial) (fun _ h => h) k hk.all)
  have e3 := kind_put_eq k (ks6 l) (rs6 l) (S ++ [.dct (kD (ks6 l)), .dct (rD (rs6 l))]) S.length (S.length + 1) (by have := kt.dep; omega) (by simp) (by simp) ft
  rw [put_six l k hk.all] at e3
  have l2 : eLoc 2 (RL p x1 (sd k.den) x3 x4 x5 x6 x7 x8 x9 x10 x11 (sd (nums l)) x13 x14 x15 x16 x17) S = some (.d k.den, S) := rfl
  unfold R13
  simp only [ev_sSet, ev_eCall, ev_aCons, l2, d1, d2, ev_aNil, e3]
  rfl
theorem r14 : R14 (RL p x1 x2 x3 x4 x5 x6 x7 x8 x9 x10 x11 x12 x13 x14 x15 x16 x17) S = some (.nx (RL p x1 x2 x3 x4 x5 x6 x7 x8 x9 x10 x11 x12 x13 (sd bare.den) x15 x16 x17) S) := by kernel_rfl
theorem i0 {kk : Kd} (hk : Kt k) (hkk : Kt kk) : I0 (RL p x1 (sd k.den) x3 x4 x5 x6 x7 x8 x9 x10 x11 x12 x13 (sd bare.den) (sd kk.den) x16 x17) S = some (.nx (RL p x1 (sd k.den) x3 x4 x5 x6 x7 x8 x9 x10 x11 x12 x13 (sd bare.den) (sd kk.den) (sd (.bool (PyData.eqv (anewD kk bare) (anewD k bare)))) x17) S) := by
  have e1 := anew_eq kk bare S (by have := hkk.dep; omega) hkk.kok.sz
  have e2 := anew_eq k bare S (by have := hk.dep; omega) hk.kok.sz
  have e3 := eq_anew kk k (by have := hk.dep; omega)
  simp [I0, RL, sd, e1, e2, e3]
theorem i1 {kk : Kd} (hk : Kt k) (hkk : Kt kk) : I1 (RL p x1 (sd k.den) x3 x4 x5 x6 x7 x8 x9 x10 x11 x12 x13 x14 (sd kk.den) (sd (.bool (PyData.eqv (anewD kk bare) (anewD k bare)))) x17) S = some (.nx (RL p x1 (sd k.den) x3 x4 x5 x6 x7 x8 x9 x10 x11 x12 x13 x14 (sd kk.den) (sd (.bool (PyData.eqv (anewD kk bare) (anewD k bare)))) x17) S) := by
  have e3 := eq_anew k kk (by have := hkk.dep; omega)
  have e5 := eq_anew kk k (by have := hk.dep; omega)
  rw [PySem.W.eqv_comm] at e3
  generalize PyData.eqv (anewD kk bare) (anewD k bare) = so at e3 e5
  have e1 := alike_eq hk.kok hkk.kok S so e3
  have e2 := alike_eq hkk.kok hk.kok S so e5
  have e4 := twice_eq (fit_bool so) (by decide) (by simp [PyData.depth]) S
  simp [I1, RL, sd, e1, e2, e4]
/-- the names that the end looks at stay -/
def Keeps (p : Nat) (k : Kd) (r : Rw) (o : Kd) (L : Lc) : Prop := ∃ x1 x5 x6 x7 x8 x9 x10 x11 x12 x15 x16 x17, L = RL p x1 (sd k.den) (sd r.den) (some (.t (shD k r).shown)) x5 x6 x7 x8 x9 x10 x11 x12 (sd o.den) (sd bare.den) x15 x16 x17
theorem loop15 (o : Kd) (hk : Kt k) (hp : p < S.length) : ∀ (kks : List Kd) (L : Lc), (∀ kk ∈ kks, Kt kk) → Keeps p k r o L → ∃ L', Keeps p k r o L' ∧ forN (tName 15) (sScope (sSeq I0 I1)) (kks.map Kd.den) L S = some (.nx L' S)
  | [], L, _, h => ⟨L, h, rfl⟩
  | kk :: kks, L, hh, ⟨x1, x5, x6, x7, x8, x9, x10, x11, x12, x15, x16, x17, e⟩ => by
    subst e
    have hkk := hh kk (List.mem_cons_self ..)
    have a1 := i0 (p := p) (x1 := x1) (x3 := sd r.den) (x4 := some (.t (shD k r).shown)) (x5 := x5) (x6 := x6) (x7 := x7) (x8 := x8) (x9 := x9) (x10 := x10) (x11 := x11) (x12 := x12) (x13 := sd o.den) (x16 := x16) (x17 := x17) (S := S) hk hkk
    have a2 := i1 (p := p) (x1 := x1) (x3 := sd r.den) (x4 := some (.t (shD k r).shown)) (x5 := x5) (x6 := x6) (x7 := x7) (x8 := x8) (x9 := x9) (x10 := x10) (x11 := x11) (x12 := x12) (x13 := sd o.den) (x14 := sd bare.den) (x17 := x17) (S := S) hk hkk
    obtain ⟨L', k1, e1⟩ := loop15 o hk hp kks _ (fun q hq => hh q (List.mem_cons_of_mem _ hq)) ⟨x1.bind fun v => wipeV S.length (some v), x5.bind fun v => wipeV S.length (some v), x6.bind fun v => wipeV S.length (some v), x7.bind fun v => wipeV S.length (some v), x8.bind fun v => wipeV S.length (some v), x9.bind fun v => wipeV S.length (some v), x10.bind fun v => wipeV S.length (some v), x11.bind fun v => wipeV S.length (some v), x12.bind fun v => wipeV S.length (some v), sd kk.den, sd (.bool (PyData.eqv (anewD kk bare) (anewD k bare))), x17.bind fun v => wipeV S.length (some v), rfl⟩
    refine ⟨L', k1, ?_⟩
    have hw : ∀ x : Option Vl, wipeV S.length x = x.bind fun v => wipeV S.length (some v) := fun x => by cases x <;> rfl
    have hpp : wipeV S.length (some (.r p)) = some (.r p) := if_pos hp
    have sc : sScope (sSeq I0 I1) (RL p x1 (sd k.den) (sd r.den) (some (.t (shD k r).shown)) x5 x6 x7 x8 x9 x10 x11 x12 (sd o.den) (sd bare.den) (sd kk.den) x16 x17) S = some (.nx ((RL p x1 (sd k.den) (sd r.den) (some (.t (shD k r).shown)) x5 x6 x7 x8 x9 x10 x11 x12 (sd o.den) (sd bare.den) (sd kk.den) (sd (.bool (PyData.eqv (anewD kk bare) (anewD k bare)))) x17).map (wipeV S.length)) S) := by
      rw [ev_sScope, ev_sSeq, a1]
      simp only [a2, List.take_length]
    have tn : tName 15 (.d kk.den) (RL p x1 (sd k.den) (sd r.den) (some (.t (shD k r).shown)) x5 x6 x7 x8 x9 x10 x11 x12 (sd o.den) (sd bare.den) x15 x16 x17) S = some (RL p x1 (sd k.den) (sd r.den) (some (.t (shD k r).shown)) x5 x6 x7 x8 x9 x10 x11 x12 (sd o.den) (sd bare.den) (sd kk.den) x16 x17, S) := rfl
    have mp : (RL p x1 (sd k.den) (sd r.den) (some (.t (shD k r).shown)) x5 x6 x7 x8 x9 x10 x11 x12 (sd o.den) (sd bare.den) (sd kk.den) (sd (.bool (PyData.eqv (anewD kk bare) (anewD k bare)))) x17).map (wipeV S.length) = RL p (x1.bind fun v => wipeV S.length (some v)) (sd k.den) (sd r.den) (some (.t (shD k r).shown)) (x5.bind fun v => wipeV S.length (some v)) (x6.bind fun v => wipeV S.length (some v)) (x7.bind fun v => wipeV S.length (some v)) (x8.bind fun v => wipeV S.length (some v)) (x9.bind fun v => wipeV S.length (some v)) (x10.bind fun v => wipeV S.length (some v)) (x11.bind fun v => wipeV S.length (some v)) (x12.bind fun v => wipeV S.length (some v)) (sd o.den) (sd bare.den) (sd kk.den) (sd (.bool (PyData.eqv (anewD kk bare) (anewD k bare)))) (x17.bind fun v => wipeV S.length (some v)) := by
      simp only [RL, List.map_cons, List.map_nil, hpp, ← hw]
      rfl
    rw [List.map_cons]
    simp only [forN, tn, sc, mp]
    exact e1
end
end Mn.k20

/-! Q22: _law_right whole -/
namespace Mn.k20
open PySem PySem.Spec PyProof.Rows L2 Mn
section
variable {p : Nat} {x1 x2 x3 x4 x5 x6 x7 x8 x9 x10 x11 x12 x13 x14 x15 x16 x17 : Option Vl} {S : So} {k : Kd} {r : Rw}
theorem a3 {L : Lc} (h2 : L[2]? = some (sd k.den)) : (aCons (eLoc 2) (aCons (eDisp1 (eC (.int 0)) (eTup (aCons (eC (.str "any")) (aCons (eC (.int 1)) aNil)))) (aCons eNewD aNil))) L S = some ([.d k.den, .r S.length, .r (S.length + 1)], S ++ [.dct (kD [(0, .any 1)]), .dct (rD [])]) := by
  simp [h2, sd, kD, rD, Kd.den]
theorem a4 {L : Lc} (h2 : L[2]? = some (sd k.den)) : (aCons (eLoc 2) (aCons eNewD (aCons (eDisp1 (eC (.int 1)) (eTup (aCons (eC (.str "row")) (aCons (eTup aNil) (aCons (eC (.int 0)) aNil))))) aNil))) L S = some ([.d k.den, .r S.length, .r (S.length + 1)], S ++ [.dct (kD []), .dct (rD [(1, ⟨[], some 0⟩)])]) := by
  have q : ∀ c : Cell, (S ++ [Cell.dct [], Cell.dct []] : So).set (S.length + 1) c = S ++ [Cell.dct [], c] := fun c => st1s
  simp [h2, sd, kD, rD, Rw.den, q]
theorem ks1 : KsOk 13 0 [(0, .any 1)] := ⟨fun p hp => by
  simp only [List.mem_singleton] at hp
  subst hp
  exact ⟨by show (1 : Nat) < 100; decide, by simp [Kd.dep], by simp [Kd.wt]⟩⟩
theorem ks0 : KsOk 13 0 [] := ⟨fun p hp => by simp at hp⟩
theorem rs0 : RsOk [] := ⟨fun p hp => by simp at hp⟩
theorem rs1 : RsOk [(1, ⟨[], some 0⟩)] := ⟨fun p hp => by
  simp only [List.mem_singleton] at hp
  subst hp
  exact ⟨.nil, by simp, by simp, fun n e => by cases e; decide⟩⟩
theorem src15 {o : Kd} {n8 n9 : Nat} {ks : Ks} {rs : Rs} (h : Pot p S) (hk : KD 4 k) (ho : Kt o) (hp : PD ks rs) (h8 : S[n8]? = some (.dct (kD ks))) (h9 : S[n9]? = some (.dct (rD rs))) :
    ∃ (kks : List Kd) (S' : So) (e : So), I_src (RL p x1 (sd k.den) x3 x4 x5 x6 x7 (some (.r n8)) (some (.r n9)) x10 x11 x12 (sd o.den) x14 x15 x16 x17) S = some (kks.map Kd.den, S' ++ e) ∧ Dr p S S' ∧ ∀ kk ∈ kks, Kt kk := by
  obtain ⟨_, S1, e1, d1, k3, rfl, hk3⟩ := kind_drawn p 5 3 (by decide) S h
  have e1' : f__law_kind 6 [.r p, .d (.int 3)] S = some (.d k3.den, S1) := e1
  have ne : ∀ {n : Nat} {kts : List (Key × T)}, S[n]? = some (.dct kts) → n ≠ p := fun {n kts} q z => by
    obtain ⟨a, b, w⟩ := h
    rw [z, w] at q
    unfold pot at q
    cases q
  have g8 : S1[n8]? = some (.dct (kD ks)) := by rw [d1.get (ne h8), h8]
  have g9 : S1[n9]? = some (.dct (rD rs)) := by rw [d1.get (ne h9), h9]
  have al := All.imp (A' := fun _ => True) (fun _ _ => trivial) (fun _ h => h) k hk.all
  have dk : k.dep < 12 := by have := hk.dep; omega
  let S3 := S1 ++ [.dct (kD [(0, .any 1)]), .dct (rD [])]
  let S4 := S3 ++ [.dct (kD []), .dct (rD [(1, ⟨[], some 0⟩)])]
  have k1 := kind_put_eq k [(0, .any 1)] [] S3 S1.length (S1.length + 1) dk st0 st1 (fits_of rs0 k al)
  have k2 := kind_put_eq k [] [(1, ⟨[], some 0⟩)] S4 S3.length (S3.length + 1) dk st0 st1 (fits_of rs1 k al)
  have k5 := kind_put_eq k ks rs S4 n8 n9 dk (st_in (st_in g8)) (st_in (st_in g9)) (fits_of hp.rs k al)
  let L := RL p x1 (sd k.den) x3 x4 x5 x6 x7 (some (.r n8)) (some (.r n9)) x10 x11 x12 (sd o.den) x14 x15 x16 x17
  have b3 := a3 (S := S1) (L := L) (k := k) rfl
  have b4 := a4 (S := S3) (L := L) (k := k) rfl
  have c13 : eLoc 13 L S = some (.d o.den, S) := rfl
  have c2 : (aCons (eLoc 0) (aCons (eC (.int 3)) aNil)) L S = some ([.r p, .d (.int 3)], S) := rfl
  have c5 : (aCons (eLoc 2) (aCons (eLoc 8) (aCons (eLoc 9) aNil))) L S4 = some ([.d k.den, .r n8, .r n9], S4) := rfl
  refine ⟨[o, k3, k.put [(0, .any 1)] [], k.put [] [(1, ⟨[], some 0⟩)], k.put ks rs], S1, [.dct (kD [(0, .any 1)]), .dct (rD []), .dct (kD []), .dct (rD [(1, ⟨[], some 0⟩)])], ?_, d1, fun kk hkk => ?_⟩
  · show I_src L S = _
    have e4 : S4 = S1 ++ [.dct (kD [(0, .any 1)]), .dct (rD []), .dct (kD []), .dct (rD [(1, ⟨[], some 0⟩)])] := by simp [S4, S3]
    rw [← e4]
    unfold I_src
    rw [ev_iTupM, ev_eTup, ev_aCons, c13]
    simp only
    rw [ev_aCons, ev_eCall, c2]
    simp only [e1']
    rw [ev_aCons, ev_eCall, b3]
    simp only [S3] at k1 b4 ⊢
    simp only [k1]
    rw [ev_aCons, ev_eCall, b4]
    simp only [S4, S3] at k2 k5 c5 ⊢
    simp only [k2]
    rw [ev_aCons, ev_eCall, c5]
    simp only [k5, ev_aNil]
    rfl
  · simp only [List.mem_cons, List.not_mem_nil, or_false] at hkk
    rcases hkk with rfl | rfl | rfl | rfl | rfl
    · exact ho
    · exact hk3.kt (by decide)
    · exact put_ok (by decide) (by decide) (by decide) ks1 rs0 hk
    · exact put_ok (by decide) (by decide) (by decide) ks0 rs1 hk
    · exact put_ok (by decide) (by decide) (by decide) hp.ks hp.rs hk
theorem r16 {l : List Nat} (hl : Six l) (hk : KD 4 k) (hr : RD r) {L : Lc} (h : Keeps p k r (k.rn (lf l) (lg l)) L) (ho : Kt (k.rn (lf l) (lg l))) : R16 L S = some (.nx L S) := by
  obtain ⟨x1, x5, x6, x7, x8, x9, x10, x11, x12, x15, x16, x17, rfl⟩ := h
  have kt := hk.kt (by decide)
  have ee := eq_anew k (k.rn (lf l) (lg l)) (by have := ho.dep; omega)
  rw [anew_rn hl.f hl.g k (lo3_of hk.all), anew_refl] at ee
  have e1 := alike_eq kt.kok ho.kok S true (by rw [anew_rn hl.f hl.g k (lo3_of hk.all)]; exact ee)
  have e2 := repr_eq (m := eLst (aCons (eLoc 2) (aCons (eLoc 3) aNil))) (L := RL p x1 (sd k.den) (sd r.den) (some (.t (shD k r).shown)) x5 x6 x7 x8 x9 x10 x11 x12 (sd (k.rn (lf l) (lg l)).den) (sd bare.den) x15 x16 x17) (S := S) (S1 := S) (t := shD k r) (by simp [RL, sd, shD]) rfl (sh_fit kt hr) (by decide)
  have c2 : (aCons (eLoc 2) (aCons (eLoc 13) aNil)) (RL p x1 (sd k.den) (sd r.den) (some (.t (shD k r).shown)) x5 x6 x7 x8 x9 x10 x11 x12 (sd (k.rn (lf l) (lg l)).den) (sd bare.den) x15 x16 x17) S = some ([.d k.den, .d (k.rn (lf l) (lg l)).den], S) := rfl
  have c4 : eLoc 4 (RL p x1 (sd k.den) (sd r.den) (some (.t (shD k r).shown)) x5 x6 x7 x8 x9 x10 x11 x12 (sd (k.rn (lf l) (lg l)).den) (sd bare.den) x15 x16 x17) S = some (.t (shD k r).shown, S) := rfl
  unfold R16
  simp only [ev_sIf, ev_eOr, ev_eNot, ev_eCall, c2, e1, Bool.not_true, ev_eEqT, e2, c4, if_true, ev_sNil]
theorem rb_eq (h : Pot p S) : ∃ L' S1 e, RB (RL p x1 x2 x3 x4 x5 x6 x7 x8 x9 x10 x11 x12 x13 x14 x15 x16 x17) S = some (.nx L' (S1 ++ e)) ∧ Dr p S S1 ∧ L'.length = 18 ∧ L'[0]? = some (some (.r p)) := by
  obtain ⟨k, r, S0, e0, d0, hk, hr⟩ := r0 (x1 := x1) (x2 := x2) (x3 := x3) (x4 := x4) (x5 := x5) (x6 := x6) (x7 := x7) (x8 := x8) (x9 := x9) (x10 := x10) (x11 := x11) (x12 := x12) (x13 := x13) (x14 := x14) (x15 := x15) (x16 := x16) (x17 := x17) h
  have h0 := d0.pot h
  have kt := hk.kt (by decide)
  obtain ⟨ns, S5, e5, d5, hn⟩ := r5 (x1 := x1) (x2 := sd k.den) (x3 := sd r.den) (x4 := some (.t (shD k r).shown)) (x5 := sd (nums k.la)) (x6 := sd (nums k.lt)) (x7 := x7) (x8 := x8) (x9 := x9) (x10 := x10) (x11 := x11) (x12 := x12) (x13 := x13) (x14 := x14) (x15 := x15) (x16 := x16) (x17 := x17) h0
  have h5 := d5.pot h0
  obtain ⟨ks, rs, S7, e7, d7, hp⟩ := r7 (x1 := x1) (x2 := sd k.den) (x3 := sd r.den) (x4 := some (.t (shD k r).shown)) (x5 := sd (nums k.la)) (x6 := sd (nums k.lt)) (x7 := sd (nmD ns)) (x8 := x8) (x9 := x9) (x10 := x10) (x11 := x11) (x12 := x12) (x13 := x13) (x14 := x14) (x15 := x15) (x16 := x16) (x17 := x17) h5
  have h7 := d7.pot h5
  obtain ⟨l, S12', e12, d12', hl⟩ := r12 (x1 := x1) (x2 := sd k.den) (x3 := sd r.den) (x4 := some (.t (shD k r).shown)) (x5 := sd (nums k.la)) (x6 := sd (nums k.lt)) (x7 := sd (nmD ns)) (x8 := some (.r S7.length)) (x9 := some (.r (S7.length + 1))) (x10 := some (.q (pTs ks rs))) (x11 := sd (anewD k r)) (x12 := x12) (x13 := x13) (x14 := x14) (x15 := x15) (x16 := x16) (x17 := x17) (h7.app (r := [.dct (kD ks), .dct (rD rs)]))
  obtain ⟨S12, d12, rfl⟩ := Dr.app h7 d12'
  have h12 := d12.pot h7
  have n12 := d12.len
  have ho : Kt (k.rn (lf l) (lg l)) := by rw [← put_six l k hk.all]; exact put_ok (by decide) (by decide) (by decide) (ks6_ok hl) (rs6_ok hl) hk
  obtain ⟨kks, S15', ex, e15, d15', hkks⟩ := src15 (x1 := x1) (x3 := sd r.den) (x4 := some (.t (shD k r).shown)) (x5 := sd (nums k.la)) (x6 := sd (nums k.lt)) (x7 := sd (nmD ns)) (n8 := S7.length) (n9 := S7.length + 1) (x10 := some (.q (pTs ks rs))) (x11 := sd (anewD k r)) (x12 := sd (nums l)) (o := k.rn (lf l) (lg l)) (x14 := sd bare.den) (x15 := x15) (x16 := x16) (x17 := x17) (S := (S12 ++ [.dct (kD ks), .dct (rD rs)]) ++ [.dct (kD (ks6 l)), .dct (rD (rs6 l))]) h12.app.app hk ho hp (st_in (by rw [← n12]; exact st0)) (st_in (by rw [← n12]; exact st1))
  obtain ⟨S15a, d15a, rfl⟩ := Dr.app h12.app d15'
  obtain ⟨S15, d15, rfl⟩ := Dr.app h12 d15a
  have h15 := d15.pot h12
  obtain ⟨L', kp, e15b⟩ := loop15 (p := p) (k := k) (r := r) (S := ((S15 ++ [.dct (kD ks), .dct (rD rs)]) ++ [.dct (kD (ks6 l)), .dct (rD (rs6 l))]) ++ ex) (k.rn (lf l) (lg l)) kt (h15.app.app.app.lt) kks _ hkks ⟨x1, sd (nums k.la), sd (nums k.lt), sd (nmD ns), some (.r S7.length), some (.r (S7.length + 1)), some (.q (pTs ks rs)), sd (anewD k r), sd (nums l), x15, x16, x17, rfl⟩
  have e16 := r16 (p := p) (S := ((S15 ++ [.dct (kD ks), .dct (rD rs)]) ++ [.dct (kD (ks6 l)), .dct (rD (rs6 l))]) ++ ex) hl hk hr kp ho
  refine ⟨L', S15, [.dct (kD ks), .dct (rD rs)] ++ ([.dct (kD (ks6 l)), .dct (rD (rs6 l))] ++ ex), ?_, ((d0.trans d5).trans d7).trans (d12.trans d15), ?_, ?_⟩
  · unfold RB
    rw [ev_sSeq, e0]
    simp only
    rw [ev_sSeq, r1 kt hr]
    simp only
    rw [ev_sSeq, r2 kt]
    simp only
    rw [ev_sSeq, r3 hk hr]
    simp only
    rw [ev_sSeq, r4 kt]
    simp only
    rw [ev_sSeq, e5]
    simp only
    rw [ev_sSeq, r6 hr hn]
    simp only
    rw [ev_sSeq, e7]
    simp only
    rw [ev_sSeq, r8 hk hp]
    simp only
    rw [ev_sSeq, r9 hr hp]
    simp only
    rw [ev_sSeq, r10 hk]
    simp only
    rw [ev_sSeq, r11 hk hr]
    simp only
    rw [ev_sSeq, e12]
    simp only
    rw [ev_sSeq, r13 hk hl]
    simp only
    rw [ev_sSeq, r14]
    simp only
    have q15 : R15 (RL p x1 (sd k.den) (sd r.den) (some (.t (shD k r).shown)) (sd (nums k.la)) (sd (nums k.lt)) (sd (nmD ns)) (some (.r S7.length)) (some (.r (S7.length + 1))) (some (.q (pTs ks rs))) (sd (anewD k r)) (sd (nums l)) (sd (k.rn (lf l) (lg l)).den) (sd bare.den) x15 x16 x17) ((S12 ++ [.dct (kD ks), .dct (rD rs)]) ++ [.dct (kD (ks6 l)), .dct (rD (rs6 l))]) = some (.nx L' (((S15 ++ [.dct (kD ks), .dct (rD rs)]) ++ [.dct (kD (ks6 l)), .dct (rD (rs6 l))]) ++ ex)) := by
      unfold R15 sFor
      simp only [e15]
      exact e15b
    rw [ev_sSeq, q15]
    simp only
    rw [e16, List.append_assoc, List.append_assoc]
  · obtain ⟨_, _, _, _, _, _, _, _, _, _, _, _, rfl⟩ := kp
    rfl
  · obtain ⟨_, _, _, _, _, _, _, _, _, _, _, _, rfl⟩ := kp
    rfl
end
end Mn.k20

/-! Q23: the law -/
namespace Mn.k20
open PySem PySem.Spec PyProof.Rows L2 Mn
theorem as_RL {p : Nat} : ∀ {L : Lc}, L.length = 18 → L[0]? = some (some (.r p)) → ∃ x1 x2 x3 x4 x5 x6 x7 x8 x9 x10 x11 x12 x13 x14 x15 x16 x17, L = RL p x1 x2 x3 x4 x5 x6 x7 x8 x9 x10 x11 x12 x13 x14 x15 x16 x17
  | [a0, a1, a2, a3, a4, a5, a6, a7, a8, a9, a10, a11, a12, a13, a14, a15, a16, a17], _, h => by
    simp only [List.getElem?_cons_zero, Option.some.injEq] at h
    exact ⟨a1, a2, a3, a4, a5, a6, a7, a8, a9, a10, a11, a12, a13, a14, a15, a16, a17, by rw [h]; rfl⟩
theorem right_eq {p : Nat} {S : So} (h : Pot p S) : ∃ S', f__law_right [.r p] S = some (.d (.bool true), S') ∧ Dr p S S' := by
  have loop := for_inv (g := tName 1) (b := sScope RB) (I := fun _ L S' => Dr p S S' ∧ L.length = 18 ∧ L[0]? = some (some (.r p))) (intsT 8) 0 (RL p none none none none none none none none none none none none none none none none none) S ⟨Dr.refl h, rfl, rfl⟩ ?_
  · obtain ⟨L', S', e, d, _, _⟩ := loop
    refine ⟨S', ?_, d⟩
    have hf : sFor (iRngM (aCons (eC (.int 8)) aNil)) (tName 1) (sScope RB) (RL p none none none none none none none none none none none none none none none none none) S = some (.nx L' S') := by
      unfold sFor
      rw [rng_draw (p := p) (n := 8) (S1 := S) rfl (by decide)]
      exact e
    have st : startL 18 [Vl.r p] = RL p none none none none none none none none none none none none none none none none none := rfl
    have tk := d.take
    unfold f__law_right
    rw [right_body]
    simp only [ev_runT, ev_run, List.length_cons, List.length_nil, Nat.zero_add, if_true, st]
    rw [ev_sSeq, hf]
    simp only [ev_sRet, ev_eC, ev_fin_d, tk]
  · rintro i t L S1 _ ⟨d, hl, h0⟩
    obtain ⟨x1, x2, x3, x4, x5, x6, x7, x8, x9, x10, x11, x12, x13, x14, x15, x16, x17, rfl⟩ := as_RL hl h0
    have h1 := d.pot h
    obtain ⟨L', S2, e, er, d2, l2, z2⟩ := rb_eq (p := p) (S := S1) (x1 := some (.d t)) (x2 := x2) (x3 := x3) (x4 := x4) (x5 := x5) (x6 := x6) (x7 := x7) (x8 := x8) (x9 := x9) (x10 := x10) (x11 := x11) (x12 := x12) (x13 := x13) (x14 := x14) (x15 := x15) (x16 := x16) (x17 := x17) h1
    refine ⟨RL p (some (.d t)) x2 x3 x4 x5 x6 x7 x8 x9 x10 x11 x12 x13 x14 x15 x16 x17, L'.map (wipeV S1.length), S2, rfl, ?_, d.trans d2, by rw [List.length_map]; exact l2, ?_⟩
    · rw [ev_sScope, er]
      have tk : (S2 ++ e).take S1.length = S2 := List.take_left' d2.len
      simp only [tk]
    · have : wipeV S1.length (some (Vl.r p)) = some (Vl.r p) := if_pos h1.lt
      rw [List.getElem?_map, z2]
      simp only [Option.map_some, this]
theorem pot_eq (ns : List Int) (k : Nat) (S : So) : ∃ a b, f__law_pot [.s ns, .d (.int (k : Nat))] S = some (.r S.length, S ++ [pot a b]) := by
  obtain ⟨c, hc⟩ : ∃ c : Int, eIte (eBin fLt (eLoc 1) (eLenS (eLoc 0))) (eBlt bAbs (aCons (eIxS (eLoc 0) (eLoc 1)) aNil)) (eBin fAdd (eBin fMul (eC (.int 1849)) (eLoc 1)) (eC (.int 761))) [some (.s ns), some (.d (.int (k : Nat))), none] S = some (.d (.int c), S) := by
    by_cases hk : k < ns.length
    · have q := L2.atI_nat (xs := ns) (j := k) (List.getElem?_eq_getElem hk)
      exact ⟨_, by simp [hk, q, bAbs]; rfl⟩
    · have m : fMul (.int 1849) (.int (k : Nat)) = some (.int (1849 * (k : Nat))) := mul_l (by decide)
      exact ⟨_, by simp [hk, m]; rfl⟩
  have m1 : fPow (.int 10) (.int 18) = some (.int (10 ^ 18)) := by kernel_rfl
  have m2 : fMod (.int c) (.int 2147483549) = some (.int (c % 2147483549)) := mod_ok (by decide)
  have m3 : fMul (.int (c % 2147483549)) (.int 40014) = some (.int (c % 2147483549 * 40014)) := mul_r (by decide)
  have m4 : fMul (.int 7601) (.int (k : Nat)) = some (.int (7601 * (k : Nat))) := mul_l (by decide)
  have m5 : fMod (.int (c % 2147483549 * 40014 + 7601 * (k : Nat) + 173)) (.int 2147483563) = some (.int ((c % 2147483549 * 40014 + 7601 * (k : Nat) + 173) % 2147483563)) := mod_ok (by decide)
  refine ⟨if c - 10 ^ 18 > 0 then c - 10 ^ 18 else 0, (c % 2147483549 * 40014 + 7601 * (k : Nat) + 173) % 2147483563 + 1, ?_⟩
  have m6 : bMax2 [.int 0, .int (c - 10 ^ 18)] = some (.int (if c - 10 ^ 18 > 0 then c - 10 ^ 18 else 0)) := rfl
  have st : startL 3 [Vl.s ns, .d (.int (k : Nat))] = [some (.s ns), some (.d (.int (k : Nat))), none] := rfl
  generalize ha : (if c - 10 ^ 18 > 0 then c - 10 ^ 18 else 0) = a at m6
  unfold f__law_pot b__law_pot
  simp only [ev_runR, ev_run, List.length_cons, List.length_nil, Nat.reduceAdd, if_true, st]
  rw [ev_sSeq, ev_sSet, hc]
  generalize hx : (10 : Int) ^ 18 = x at *
  simp [m1, m2, m3, m4, m5, m6, pot]
theorem math (ns : List Int) (h : ns.length ≤ 63) : ∃ S', f_law [.s ns] [] = some (.d (.bool true), S') := by
  obtain ⟨a, b, e1⟩ := pot_eq ns 0 []
  have h1 : Pot 0 ([] ++ [pot a b]) := ⟨a, b, rfl⟩
  obtain ⟨S1, e2, d1⟩ := right_eq h1
  obtain ⟨c, d, e3⟩ := pot_eq ns 1 S1
  have h2 : Pot S1.length (S1 ++ [pot c d]) := ⟨c, d, st0⟩
  obtain ⟨S2, e4, d2⟩ := right_eq h2
  have e1' : f__law_pot [.s ns, .d (.int 0)] [] = some (.r 0, [pot a b]) := e1
  have e2' : f__law_right [.r 0] [pot a b] = some (.d (.bool true), S1) := e2
  have e3' : f__law_pot [.s ns, .d (.int 1)] S1 = some (.r S1.length, S1 ++ [pot c d]) := e3
  exact ⟨_, by simp [f_law, b_law, e1', e2', e3', e4]; rfl⟩
end Mn.k20

open PySem PySem.W PyProof.Rows
set_option maxRecDepth 100000 in
set_option maxHeartbeats 0 in
theorem PySem.Challenge.cw_asktongue_k20_kinds_and_rows_put_and_nam_holds : PySem.Challenge.rw_asktongue_k20_kinds_and_rows_put_and_nam.Holds := by
  w_on; o_law; k_head; (case hw => w_witness2)
  k_fill
  refine Mn.walkGT (l := PySem.Challenge.rw_asktongue_k20_kinds_and_rows_put_and_nam) (n := 63) (k := 21) (F := Mn.k20.f_law) (x := "script") rfl (by decide) rfl ⟨rfl, by decide, by decide⟩ ?G (fun ns hl => Mn.k20.math ns hl)
  intro w mg fa h Y X G hmg
  have KX := PySem.W.km_in_of Y
  refine ⟨_, KX, by kernel_rfl, fun p hp => ?T, ?R⟩
  case T =>
    refine PySem.W.km_tabs_of Y p.1 (Mn.tabs_in (by kernel_rfl) p hp)
  case R =>
    have T : Mn.k20.Tops _ w mg :=
      { p__law_draw := Mn.pl_mk KX G (by kernel_rfl) (by kernel_rfl) (by kernel_rfl) (by kernel_rfl),
        p__law_pick := Mn.pl_mk KX G (by kernel_rfl) (by kernel_rfl) (by kernel_rfl) (by kernel_rfl),
        p__law_row := Mn.pl_mk KX G (by kernel_rfl) (by kernel_rfl) (by kernel_rfl) (by kernel_rfl),
        p__law_kind := Mn.pl_mk KX G (by kernel_rfl) (by kernel_rfl) (by kernel_rfl) (by kernel_rfl),
        p__law_loose := Mn.pl_mk KX G (by kernel_rfl) (by kernel_rfl) (by kernel_rfl) (by kernel_rfl),
        p_has_many := Mn.pl_mk KX G (by kernel_rfl) (by kernel_rfl) (by kernel_rfl) (by kernel_rfl),
        p_is_integer := Mn.pl_mk KX G (by kernel_rfl) (by kernel_rfl) (by kernel_rfl) (by kernel_rfl),
        p_is_count := Mn.pl_mk KX G (by kernel_rfl) (by kernel_rfl) (by kernel_rfl) (by kernel_rfl),
        p_has_signs := Mn.pl_mk KX G (by kernel_rfl) (by kernel_rfl) (by kernel_rfl) (by kernel_rfl),
        p_is_ask_name := Mn.pl_mk KX G (by kernel_rfl) (by kernel_rfl) (by kernel_rfl) (by kernel_rfl),
        p_are_names := Mn.pl_mk KX G (by kernel_rfl) (by kernel_rfl) (by kernel_rfl) (by kernel_rfl),
        p_is_row_of := Mn.pl_mk KX G (by kernel_rfl) (by kernel_rfl) (by kernel_rfl) (by kernel_rfl),
        p_is_row := Mn.pl_mk KX G (by kernel_rfl) (by kernel_rfl) (by kernel_rfl) (by kernel_rfl),
        p_is_kind_of := Mn.pl_mk KX G (by kernel_rfl) (by kernel_rfl) (by kernel_rfl) (by kernel_rfl),
        p_is_kind := Mn.pl_mk KX G (by kernel_rfl) (by kernel_rfl) (by kernel_rfl) (by kernel_rfl),
        p__law_twice := Mn.pl_mk KX G (by kernel_rfl) (by kernel_rfl) (by kernel_rfl) (by kernel_rfl),
        p_come_in_row := Mn.pl_mk KX G (by kernel_rfl) (by kernel_rfl) (by kernel_rfl) (by kernel_rfl),
        p_within_of := Mn.pl_mk KX G (by kernel_rfl) (by kernel_rfl) (by kernel_rfl) (by kernel_rfl),
        p_come_in := Mn.pl_mk KX G (by kernel_rfl) (by kernel_rfl) (by kernel_rfl) (by kernel_rfl),
        p_loose_of := Mn.pl_mk KX G (by kernel_rfl) (by kernel_rfl) (by kernel_rfl) (by kernel_rfl),
        p_want_kind := Mn.pl_mk KX G (by kernel_rfl) (by kernel_rfl) (by kernel_rfl) (by kernel_rfl),
        p_loose := Mn.pl_mk KX G (by kernel_rfl) (by kernel_rfl) (by kernel_rfl) (by kernel_rfl),
        p_want_row := Mn.pl_mk KX G (by kernel_rfl) (by kernel_rfl) (by kernel_rfl) (by kernel_rfl),
        p_more_of := Mn.pl_mk KX G (by kernel_rfl) (by kernel_rfl) (by kernel_rfl) (by kernel_rfl),
        p_row_more := Mn.pl_mk KX G (by kernel_rfl) (by kernel_rfl) (by kernel_rfl) (by kernel_rfl),
        p__law_putting := Mn.pl_mk KX G (by kernel_rfl) (by kernel_rfl) (by kernel_rfl) (by kernel_rfl),
        p__law_row_anew := Mn.pl_mk KX G (by kernel_rfl) (by kernel_rfl) (by kernel_rfl) (by kernel_rfl),
        p__law_row_put := Mn.pl_mk KX G (by kernel_rfl) (by kernel_rfl) (by kernel_rfl) (by kernel_rfl),
        p__law_kind_led := Mn.pl_mk KX G (by kernel_rfl) (by kernel_rfl) (by kernel_rfl) (by kernel_rfl),
        p__law_kind_put := Mn.pl_mk KX G (by kernel_rfl) (by kernel_rfl) (by kernel_rfl) (by kernel_rfl),
        p_are_put_by := Mn.pl_mk KX G (by kernel_rfl) (by kernel_rfl) (by kernel_rfl) (by kernel_rfl),
        p_is_putting_of := Mn.pl_mk KX G (by kernel_rfl) (by kernel_rfl) (by kernel_rfl) (by kernel_rfl),
        p_want_putting := Mn.pl_mk KX G (by kernel_rfl) (by kernel_rfl) (by kernel_rfl) (by kernel_rfl),
        p_put_in_row := Mn.pl_mk KX G (by kernel_rfl) (by kernel_rfl) (by kernel_rfl) (by kernel_rfl),
        p_put_in := Mn.pl_mk KX G (by kernel_rfl) (by kernel_rfl) (by kernel_rfl) (by kernel_rfl),
        p_kind_put := Mn.pl_mk KX G (by kernel_rfl) (by kernel_rfl) (by kernel_rfl) (by kernel_rfl),
        p_is_putting := Mn.pl_mk KX G (by kernel_rfl) (by kernel_rfl) (by kernel_rfl) (by kernel_rfl),
        p_row_put := Mn.pl_mk KX G (by kernel_rfl) (by kernel_rfl) (by kernel_rfl) (by kernel_rfl),
        p__law_anew := Mn.pl_mk KX G (by kernel_rfl) (by kernel_rfl) (by kernel_rfl) (by kernel_rfl),
        p_named_anew_of := Mn.pl_mk KX G (by kernel_rfl) (by kernel_rfl) (by kernel_rfl) (by kernel_rfl),
        p_named_anew := Mn.pl_mk KX G (by kernel_rfl) (by kernel_rfl) (by kernel_rfl) (by kernel_rfl),
        p__law_some := Mn.pl_mk KX G (by kernel_rfl) (by kernel_rfl) (by kernel_rfl) (by kernel_rfl),
        p_are_alike_kinds := Mn.pl_mk KX G (by kernel_rfl) (by kernel_rfl) (by kernel_rfl) (by kernel_rfl),
        p__law_right := Mn.pl_mk KX G (by kernel_rfl) (by kernel_rfl) (by kernel_rfl) (by kernel_rfl),
        p__law_pot := Mn.pl_mk KX G (by kernel_rfl) (by kernel_rfl) (by kernel_rfl) (by kernel_rfl),
        p_law := Mn.pl_mk KX G (by kernel_rfl) (by kernel_rfl) (by kernel_rfl) (by kernel_rfl),
        c_ANY := Mn.ct_mk KX G (by kernel_rfl),
        c_FIGURES := Mn.ct_mk KX G (by kernel_rfl),
        c_FN := Mn.ct_mk KX G (by kernel_rfl),
        c_GREAT := Mn.ct_mk KX G (by kernel_rfl),
        c_LIST := Mn.ct_mk KX G (by kernel_rfl),
        c_MOST_SIGNS := Mn.ct_mk KX G (by kernel_rfl),
        c_NOTHING := Mn.ct_mk KX G (by kernel_rfl),
        c_PAIR := Mn.ct_mk KX G (by kernel_rfl),
        c_PLAIN := Mn.ct_mk KX G (by kernel_rfl),
        c_ROW := Mn.ct_mk KX G (by kernel_rfl),
        c_SMALL := Mn.ct_mk KX G (by kernel_rfl),
        b_abs := Mn.none_mk KX G (by kernel_rfl),
        b_all := Mn.none_mk KX G (by kernel_rfl),
        b_bool := Mn.none_mk KX G (by kernel_rfl),
        b_dict := Mn.none_mk KX G (by kernel_rfl),
        b_divmod := Mn.none_mk KX G (by kernel_rfl),
        b_int := Mn.none_mk KX G (by kernel_rfl),
        b_isinstance := Mn.none_mk KX G (by kernel_rfl),
        b_len := Mn.none_mk KX G (by kernel_rfl),
        b_list := Mn.none_mk KX G (by kernel_rfl),
        b_max := Mn.none_mk KX G (by kernel_rfl),
        b_range := Mn.none_mk KX G (by kernel_rfl),
        b_repr := Mn.none_mk KX G (by kernel_rfl),
        b_sorted := Mn.none_mk KX G (by kernel_rfl),
        b_str := Mn.none_mk KX G (by kernel_rfl),
        b_tuple := Mn.none_mk KX G (by kernel_rfl),
        b_zip := Mn.none_mk KX G (by kernel_rfl),
        i_bool := ⟨by kernel_rfl, by kernel_rfl, by kernel_rfl, by kernel_rfl, by kernel_rfl, by kernel_rfl⟩,
        i_int := ⟨by kernel_rfl, by kernel_rfl, by kernel_rfl, by kernel_rfl, by kernel_rfl, by kernel_rfl⟩,
        i_list := ⟨by kernel_rfl, by kernel_rfl, by kernel_rfl, by kernel_rfl, by kernel_rfl, by kernel_rfl⟩,
        i_str := ⟨by kernel_rfl, by kernel_rfl, by kernel_rfl, by kernel_rfl, by kernel_rfl, by kernel_rfl⟩,
        i_tuple := ⟨by kernel_rfl, by kernel_rfl, by kernel_rfl, by kernel_rfl, by kernel_rfl, by kernel_rfl⟩,
        g__law_anew := Mn.ga_mk KX G (by kernel_rfl),
        g__law_kind_put := Mn.ga_mk KX G (by kernel_rfl),
        g_is_kind_of := Mn.ga_mk KX G (by kernel_rfl),
        g_is_row_of := Mn.ga_mk KX G (by kernel_rfl),
        h__law_anew := by kernel_rfl,
        h__law_kind_put := by kernel_rfl }
    exact Mn.law_mkT hmg T.p_law (fun _ _ _ _ _ _ us hl => match us, hl with | [_], _ => by kernel_rfl) fun base hB => Mn.k20.all_ok T hB
