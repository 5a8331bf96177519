import PyProof.Rows.All
import Wide.All
import OpenK.AllK
import Wide.FinOn
import HandS.Base
import HandS.Call
import HandS.List
import HandS.Comp
import HandS.Ends
import HandS.Exc
import HandS.TryOnly
import HandS.ExcOwn
import HandS.Words
import HandS.WordsExc
import HandS.Evl
import HandS.IsInst
import HandS.EndBits
import HandS.Wide
import HandS.WideBits
import HandS.Lambda
import HandS.Dict
import HandS.DictTup
import HandS.TupAny
import HandS.Style
import PyProof.StrBlock2
import PyProof.Rows.SeqMore
import PyProof.Rows.RuleB_bool
import HandS.Codes
import HandS.Iter
import HandS.Walk
import HandS.RevRange
import HandS.Zip
import HandS.Defaults
import HandS.ExcIs
import HandS.HeadEnd
import HandS.HeadHook2
import HandS.Head2
import HandS.TryMany
import HandS.Gcd
import HandS.Text
import HandS.StrMore
import HandS.FStr
import KE.KMathG
import HandS.Conv
import Flt.RightSqrt
import HandS.Head3
import HandS.More
import HandS.Deep
import KE.GoesEnum
import HandS.Strs
import HandS.RaiseMore
import KE.IntTextLaws
import HandS.Flt
import HandS.Nested
import HandS.EndTab
import HandS.HeadHook4
import HandS.DictComp
import HandS.SetFor
import PySem.Challenge.RW_portolan_k08_formulas_tidied
set_option Elab.async false
set_option linter.all false
set_option maxRecDepth 100000
set_option maxHeartbeats 8000000
/-! A functional layer over the hand layer: expressions and statements denote plain functions of data. -/
namespace FL
open PySem PySem.Spec PyProof.Rows L2
/-- the names of the code objects that a table may tell -/
class TabNames where
  nm : Addr → Str
  ps : List Addr
  pg : Program
  wo : World
variable [TabNames]
/-- a lambda: its words, the cells that it captured, its code object -/
structure LF where
  qual : Str
  params : Arguments
  body : Expr
  scope : Scope
  cl : List (Str × Addr)
  c : Addr
abbrev LF.fd (F : LF) (pm ctv : Value) : FuncData := PySem.W.kla_fn "<lambda>" F.qual F.params F.body F.scope F.cl pm (.ref F.c) ctv
/-- the object at f is the lambda F -/
def LamO (f : Addr) (F : LF) : HO := .ext fun h => ∃ (od : Option Addr) (sl : Array (Option Value)) (pm ctv : Value), h.get? f = some (⟨.type "function", od, .func (F.fd pm ctv), sl⟩ : Obj)
theorem lamO_ne {f : Addr} {F : LF} (ps : Array Value) : LamO f F ≠ .tbl ps := fun z => by
  unfold LamO at z
  cases z
abbrev D := PyData
/-- what an expression gives: data, an own exception by its class's name, or nothing that is known here -/
inductive R where
  | ok (d : D) | ex (c : Str) | no
/-- what a slot holds: nothing known, data, a list of the frame's own -/
inductive Sl where
  | un | d (x : D) | ol (xs : List D) | xc (c : Str) | fn | od (kvs : List (Int × D)) | ot (kvs : List (List Key × Int)) | bd (kvs : List (Int × D))
/-- a list or dict of the frame's own -/
def Sl.ow : Sl → Bool
  | .ol _ => true
  | .od _ => true
  | .ot _ => true
  | _ => false
abbrev Ev := List Sl
/-- what a frame holds beside data: an exception, a function that it was given (its code object, its name) -/
inductive Hx where
  | xc (a : Addr) (c : Str) | fn (a : Addr) (F : LF)
/-- what is wished of an exception; the address of the exception that a suite holds; whether a new list is returned -/
structure Gx where
  W : WX
  xa : Option Hx := none
  lm : Bool := false

def hide (S : List Addr) (H : Hp) : Hp := fun a => if a ∈ S then none else H a
theorem hide_in {S : List Addr} {H : Hp} {a : Addr} (h : a ∈ S) : hide S H a = none := by unfold hide; rw [if_pos h]
theorem hide_out {S : List Addr} {H : Hp} {a : Addr} (h : a ∉ S) : hide S H a = H a := by unfold hide; rw [if_neg h]
/-- what is known stays, but for the tables of code objects -/
def Ek (H H' : Hp) : Prop := ∀ a o, H a = some o → (∀ ps, o ≠ .tbl ps) → H' a = some o
theorem Ek.refl (H : Hp) : Ek H H := fun _ _ h _ => h
theorem Ek.trans {H H1 H2 : Hp} (a : Ek H H1) (b : Ek H1 H2) : Ek H H2 := fun c o h n => b c o (a c o h n) n
theorem Ek.lst {H H' : Hp} {a : Addr} {xs : List V} (x : Ek H H') (h : H a = some (.lst xs)) : H' a = some (.lst xs) := x a _ h fun ps z => nomatch z
/-- .. and the tables tell code objects of the same name -/
structure Ex (H H' : Hp) : Prop where
  k : Ek H H'
  n : ∀ a, H a ≠ none → H' a ≠ none
  t : ∀ P, LamX.TabS H P (TabNames.nm P) → LamX.TabS H' P (TabNames.nm P)
theorem Ex.of {H H' : Hp} (x : Evl.Ex H H') : Ex H H' := ⟨fun a o h _ => x a o h, fun a h => by
  cases e : H a with
  | none => exact absurd e h
  | some o => rw [x a o e]; simp, fun _ t => t.ext x⟩
theorem Ex.refl (H : Hp) : Ex H H := ⟨.refl H, fun _ h => h, fun _ t => t⟩
theorem Ex.trans {H H1 H2 : Hp} (a : Ex H H1) (b : Ex H1 H2) : Ex H H2 := ⟨a.k.trans b.k, fun c h => b.n c (a.n c h), fun P t => b.t P (a.t P t)⟩
theorem Ex.new {H : Hp} {p : Addr} {o : HO} (h : H p = none) : Ex H (upd H p o) := .of (Evl.Ex.new h)
theorem Ex.lst {H H' : Hp} {a : Addr} {xs : List V} (x : Ex H H') (h : H a = some (.lst xs)) : H' a = some (.lst xs) := x.k.lst h
theorem ex_rd {H H' : Hp} {a : Addr} {u : HO} (e : Ek H H') (n : ∀ ps, u ≠ .tbl ps) (h : Rd H a u) : Rd H' a u := by
  rcases h with h | ⟨o, h⟩
  · exact Or.inl (e a _ h n)
  · exact Or.inr ⟨o, e a _ h fun ps z => nomatch z⟩
theorem ex_l {K : PySem.W.Frag} {H H' : Hp} {a : Addr} {xs : List V} (e : Ek H H') (h : SqL K H a xs) : SqL K H' a xs := by
  rcases h with h | h
  · exact Or.inl (ex_rd e (fun ps z => nomatch z) h)
  · exact Or.inr h
theorem ex_t {K : PySem.W.Frag} {H H' : Hp} {a : Addr} {xs : List V} (e : Ek H H') (h : SqT K H a xs) : SqT K H' a xs := by
  rcases h with h | h
  · exact Or.inl (ex_rd e (fun ps z => nomatch z) h)
  · exact Or.inr h
theorem fresh_back {H H' : Hp} {p : Addr} (e : Ex H H') (h : H' p = none) : H p = none := by
  cases h1 : H p with
  | none => rfl
  | some o => exact absurd h (e.n p (by rw [h1]; simp))
theorem hide_sub {S : List Addr} {H : Hp} : Ek (hide S H) H := fun a o e _ => by
  by_cases h : a ∈ S
  · rw [hide_in h] at e; cases e
  · rw [hide_out h] at e; exact e
theorem hide_monoK {S : List Addr} {H H' : Hp} (x : Ek H H') : Ek (hide S H) (hide S H') := fun a o e n => by
  by_cases h : a ∈ S
  · rw [hide_in h] at e; cases e
  · rw [hide_out h] at e ⊢; exact x a o e n
theorem hide_mono {S : List Addr} {H H' : Hp} (x : Ex H H') : Ek (hide S H) (hide S H') := hide_monoK x.k
theorem hide_less {S S' : List Addr} {H : Hp} (h : ∀ a ∈ S, a ∈ S') : Ek (hide S' H) (hide S H) := fun a o e _ => by
  by_cases h' : a ∈ S'
  · rw [hide_in h'] at e; cases e
  · rw [hide_out h'] at e; rw [hide_out fun z => h' (h a z)]; exact e
/-- a hidden object changes -/
theorem hide_upd {S : List Addr} {H : Hp} {l : Addr} {o : HO} (h : l ∈ S) : hide S (upd H l o) = hide S H := by
  funext a
  by_cases h' : a ∈ S
  · rw [hide_in h', hide_in h']
  · rw [hide_out h', hide_out h', upd_ne fun z => h' (by rw [z]; exact h)]

mutual
theorem dp_mono {K : PySem.W.Frag} {H H' : Hp} (x : Ek H H') : ∀ {v : V} {d : D}, Dp K H v d → Dp K H' v d
  | _, _, .non => .non
  | _, _, .bl b => .bl b
  | _, _, .int i => .int i
  | _, _, .str s => .str s
  | _, _, .lst h k => .lst (ex_l x h) (da_mono x k)
  | _, _, .tup h k => .tup (ex_t x h) (da_mono x k)
theorem da_mono {K : PySem.W.Frag} {H H' : Hp} (x : Ek H H') : ∀ {vs : List V} {ds : List D}, DpAll K H vs ds → DpAll K H' vs ds
  | _, _, .nil => .nil
  | _, _, .cons h k => .cons (dp_mono x h) (da_mono x k)
end
theorem da_length {K : PySem.W.Frag} {H : Hp} : ∀ {vs : List V} {ds : List D}, DpAll K H vs ds → vs.length = ds.length
  | _, _, .nil => rfl
  | _, _, .cons _ k => by rw [List.length_cons, List.length_cons, da_length k]
theorem da_get {K : PySem.W.Frag} {H : Hp} : ∀ {vs : List V} {ds : List D} {i : Nat} {d : D}, DpAll K H vs ds → ds[i]? = some d → ∃ v, vs[i]? = some v ∧ Dp K H v d
  | _, _, _, _, .nil, e => by simp at e
  | _, _, 0, _, .cons h _, e => by simp at e; subst e; exact ⟨_, rfl, h⟩
  | _, _, i + 1, d, .cons _ k, e => by
    obtain ⟨v, h1, h2⟩ := da_get (i := i) (d := d) k (by simpa using e)
    exact ⟨v, by simpa using h1, h2⟩
theorem da_append {K : PySem.W.Frag} {H : Hp} : ∀ {vs ws : List V} {ds es : List D}, DpAll K H vs ds → DpAll K H ws es → DpAll K H (vs ++ ws) (ds ++ es)
  | _, _, _, _, .nil, k => k
  | _, _, _, _, .cons h t, k => .cons h (da_append t k)
theorem da_take {K : PySem.W.Frag} {H : Hp} : ∀ {vs : List V} {ds : List D} (n : Nat), DpAll K H vs ds → DpAll K H (vs.take n) (ds.take n)
  | _, _, 0, _ => .nil
  | _, _, _ + 1, .nil => .nil
  | _, _, n + 1, .cons h t => .cons h (da_take n t)
theorem da_drop {K : PySem.W.Frag} {H : Hp} : ∀ {vs : List V} {ds : List D} (n : Nat), DpAll K H vs ds → DpAll K H (vs.drop n) (ds.drop n)
  | _, _, 0, k => k
  | _, _, _ + 1, .nil => .nil
  | _, _, n + 1, .cons _ t => da_drop n t
theorem da_set {K : PySem.W.Frag} {H : Hp} {v : V} {d : D} (h : Dp K H v d) : ∀ {vs : List V} {ds : List D} (n : Nat), DpAll K H vs ds → DpAll K H (vs.set n v) (ds.set n d)
  | _, _, _, .nil => .nil
  | _, _, 0, .cons _ t => .cons h t
  | _, _, n + 1, .cons k t => .cons k (da_set h n t)
theorem da_dropLast {K : PySem.W.Frag} {H : Hp} {vs : List V} {ds : List D} (h : DpAll K H vs ds) : DpAll K H vs.dropLast ds.dropLast := by
  rw [List.dropLast_eq_take, List.dropLast_eq_take, da_length h]
  exact da_take _ h
theorem da_rev {K : PySem.W.Frag} {H : Hp} : ∀ {vs : List V} {ds : List D}, DpAll K H vs ds → DpAll K H vs.reverse ds.reverse
  | _, _, .nil => .nil
  | _, _, .cons h t => by
    rw [List.reverse_cons, List.reverse_cons]
    exact da_append (da_rev t) (.cons h .nil)
theorem da_app1 {K : PySem.W.Frag} {H : Hp} {vs : List V} {ds : List D} {v : V} {d : D} (h : DpAll K H vs ds) (k : Dp K H v d) : DpAll K H (vs ++ [v]) (ds ++ [d]) := da_append h (.cons k .nil)

/-- the dict at l: its keys are tuples of ints and texts -/
def DicO (l : Addr) (xs : List (List Key × Addr × Value)) : HO := .ext fun h => (l == sysModules) = false ∧ ∃ (o : Obj) (es : Array DictEntry) (ep : Nat), h.get? l = some o ∧ o.ExactDict ∧ o.data = .dict es ep ∧ es.toList = xs.map (entryOfKey (tupleKind (mixKind TabNames.pg TabNames.wo))) ∧ (xs.map (·.1)).Nodup
/-- the heap with one object -/
def heap1 (a : Addr) (o : Obj) : Heap := { objs := (Array.replicate a (⟨.none, none, .freed, #[]⟩ : Obj)).push o }
theorem heap1_get {a : Addr} {o : Obj} (h : o.data ≠ .freed) : (heap1 a o).get? a = some o := by
  unfold heap1 Heap.get?
  have e : ((Array.replicate a (⟨.none, none, .freed, #[]⟩ : Obj)).push o)[a]? = some o := by
    rw [Array.getElem?_push]
    simp
  rw [e]
  split
  · rename_i q
    cases q
    exact absurd rfl h
  · rfl
theorem heap1_ne {a b : Addr} {o u : Obj} (h : (heap1 a o).get? b = some u) : u = o := by
  unfold heap1 Heap.get? at h
  rw [Array.getElem?_push] at h
  by_cases e : b = a
  · subst e
    simp at h
    split at h
    · cases h
    · exact (Option.some.inj h).symm
  · simp [e] at h
    by_cases q : b < a
    · simp [q] at h
    · simp [q] at h
theorem dicO_lam {l a : Addr} {xs : List (List Key × Addr × Value)} {F : LF} : DicO l xs ≠ LamO a F := fun z => by
  unfold DicO LamO at z
  have z1 := congrFun (HO.ext.inj z) (heap1 a ⟨.type "function", none, .func (F.fd .none .none), #[]⟩)
  have z2 := z1.mpr ⟨none, #[], .none, .none, heap1_get (by simp)⟩
  obtain ⟨_, o, es, ep, g, _, d, _⟩ := z2
  rw [heap1_ne g] at d
  cases d
theorem dicO_code {l c : Addr} {xs : List (List Key × Addr × Value)} {q : Str} : DicO l xs ≠ LamX.CodeO c q := fun z => by
  unfold DicO LamX.CodeO at z
  have z1 := congrFun (HO.ext.inj z) (heap1 c ⟨.none, none, .fields #[.none, .str q 0], #[]⟩)
  have z2 := z1.mpr ⟨_, _, _, heap1_get (by simp), rfl, rfl⟩
  obtain ⟨_, o, es, ep, g, _, d, _⟩ := z2
  rw [heap1_ne g] at d
  cases d
/-- a list or a dict -/
def Lv : HO → Prop
  | .lst _ => True
  | .dK _ => True
  | .dT _ => True
  | o => ∃ l xs, o = DicO l xs
theorem Lv.frz {o u : HO} {ob : Obj} (h : Lv o) : o ≠ .frz ob u := fun z => by
  rw [z] at h
  obtain ⟨l, xs, e⟩ := h
  cases e
theorem Lv.dic {l : Addr} {xs : List (List Key × Addr × Value)} : Lv (DicO l xs) := ⟨l, xs, rfl⟩
theorem Lv.tbl {o : HO} (h : Lv o) (ps : Array Value) : o ≠ .tbl ps := fun z => by
  rw [z] at h
  obtain ⟨l, xs, e⟩ := h
  cases e
theorem Lv.lam {o : HO} (h : Lv o) (a : Addr) (F : LF) : o ≠ LamO a F := fun z => by
  rw [z] at h
  obtain ⟨l, xs, e⟩ : ∃ l xs, LamO a F = DicO l xs := h
  exact dicO_lam e.symm
theorem Lv.code {o : HO} (h : Lv o) (c : Addr) (q : Str) : o ≠ LamX.CodeO c q := fun z => by
  rw [z] at h
  obtain ⟨l, xs, e⟩ : ∃ l xs, LamX.CodeO c q = DicO l xs := h
  exact dicO_code e.symm
/-- a list or dict that H does not know changes -/
theorem Ex.mut {H H' : Hp} {p : Addr} {o u : HO} (e : Ex H H') (h : H p = none) (hp : H' p = some o) (hv : Lv o) : Ex H (upd H' p u) := ⟨fun a u ha n => by
  rw [upd_ne (ne_of_none ha h)]
  exact e.k a u ha n, fun a ha => by
  by_cases z : a = p
  · rw [z, upd_same]; simp
  · rw [upd_ne z]; exact e.n a ha, fun P t => by
  obtain ⟨ps, a1, a2, a3⟩ := e.t P t
  obtain ⟨ps0, b1, _⟩ := t
  refine ⟨ps, by rw [upd_ne (ne_of_none b1 h)]; exact a1, a2, fun pos cv hc => ?_⟩
  obtain ⟨c, c1, c2⟩ := a3 pos cv hc
  refine ⟨c, c1, ?_⟩
  rw [upd_ne fun z => ?_]
  · exact c2
  · rw [z, hp] at c2
    exact hv.code _ _ (Option.some.inj c2)⟩
/-- slot i owns the list at l -/
def OwnAt (σ : L2.St) (ρ : Ev) (i : Nat) (l : Addr) : Prop := σ[i]? = some (some (.ref l)) ∧ ∃ x, ρ[i]? = some x ∧ x.ow = true
def SlR (K : PySem.W.Frag) (xa : Option Hx) (S : List Addr) (H : Hp) (o : Option (Option V)) : Sl → Prop
  | .un => True
  | .d x => ∃ v, o = some (some v) ∧ Dp K (hide S H) v x
  | .ol xs => ∃ l vs, o = some (some (.ref l)) ∧ l ∈ S ∧ H l = some (.lst vs) ∧ DpAll K (hide S H) vs xs
  | .xc c => ∃ a, o = some (some (.ref a)) ∧ xa = some (.xc a c)
  | .fn => ∃ a F, o = some (some (.ref a)) ∧ xa = some (.fn a F) ∧ H a = some (LamO a F) ∧ H F.c = some (LamX.CodeO F.c F.qual)
  | .od kvs => ∃ l es, o = some (some (.ref l)) ∧ l ∈ S ∧ H l = some (.dK es) ∧ es.map (·.1) = kvs.map (fun p => Sum.inl p.1) ∧ DpAll K (hide S H) (es.map (·.2)) (kvs.map (·.2))
  | .ot kvs => ∃ l xs, o = some (some (.ref l)) ∧ l ∈ S ∧ H l = some (DicO l xs) ∧ xs.length ≤ sizeLine ∧ (∀ x ∈ xs, SqT K (hide S H) x.2.1 (x.1.map kV)) ∧ Paired (fun (p : List Key × Int) (q : List Key × Addr × Value) => p.1 = q.1 ∧ RelV (.int p.2) q.2.2) kvs xs
  | .bd kvs => ∃ l ob es, o = some (some (.ref l)) ∧ H l = some (.frz ob (.dK es)) ∧ es.map (·.1) = kvs.map (fun p => Sum.inl p.1) ∧ DpAll K (hide S H) (es.map (·.2)) (kvs.map (·.2))
/-- the tables stand -/
def Tbs (H : Hp) : Prop := ∀ P ∈ TabNames.ps, LamX.TabS H P (TabNames.nm P)
theorem Tbs.mono {H H' : Hp} (t : Tbs H) (x : Ex H H') : Tbs H' := fun P m => x.t P (t P m)
theorem Tbs.upd {H : Hp} {p : Addr} {o u : HO} (t : Tbs H) (hp : H p = some o) (hv : Lv o) : Tbs (upd H p u) := fun P m => by
  obtain ⟨ps, a1, a2, a3⟩ := t P m
  refine ⟨ps, by rw [upd_ne fun z => hv.tbl ps (Option.some.inj ((by rw [z] at a1; exact hp.symm.trans a1)))]; exact a1, a2, fun pos cv hc => ?_⟩
  obtain ⟨c, c1, c2⟩ := a3 pos cv hc
  refine ⟨c, c1, ?_⟩
  rw [upd_ne fun z => by rw [z, hp] at c2; exact hv.code _ _ (Option.some.inj c2)]
  exact c2
structure EnvOk (K : PySem.W.Frag) (xa : Option Hx) (H0 : Hp) (S0 S : List Addr) (H : Hp) (σ : L2.St) (ρ : Ev) : Prop where
  len : σ.length = ρ.length
  sl : ∀ (i : Nat) (x : Sl), ρ[i]? = some x → SlR K xa S H σ[i]? x
  sep : ∀ i j l, OwnAt σ ρ i l → OwnAt σ ρ j l → i = j
  ex0 : Ex H0 H
  s0 : ∀ l ∈ S0, l ∈ S
  sH : ∀ l ∈ S, H l ≠ none
  s0H : ∀ l ∈ S0, H0 l ≠ none
  fr : ∀ l ∈ S, l ∈ S0 ∨ H0 l = none
  own : ∀ i l, OwnAt σ ρ i l → l ∉ S0
  sN : ∀ l ∈ S, l ∉ S0 → ∃ o, H l = some o ∧ Lv o
  tb : Tbs H

theorem SlR.mono {K : PySem.W.Frag} {xa : Option Hx} {S : List Addr} {H H' : Hp} {o : Option (Option V)} (x : Ex H H') : ∀ {s : Sl}, SlR K xa S H o s → SlR K xa S H' o s
  | .un, _ => trivial
  | .d _, ⟨v, e, h⟩ => ⟨v, e, dp_mono (hide_mono x) h⟩
  | .ol _, ⟨l, vs, e, m, hl, h⟩ => ⟨l, vs, e, m, x.lst hl, da_mono (hide_mono x) h⟩
  | .xc _, h => h
  | .fn, ⟨a, F, h1, h2, h3, h4⟩ => ⟨a, F, h1, h2, x.k a _ h3 lamO_ne, x.k F.c _ h4 LamX.codeO_ne⟩
  | .od _, ⟨l, es, e, m, hl, hk, h⟩ => ⟨l, es, e, m, x.k l _ hl (fun ps z => nomatch z), hk, da_mono (hide_mono x) h⟩
  | .bd _, ⟨l, ob, es, e, hl, hk, h⟩ => ⟨l, ob, es, e, x.k l _ hl (fun ps z => nomatch z), hk, da_mono (hide_mono x) h⟩
  | .ot _, ⟨l, xs, e, m, hl, hs, hk, h⟩ => ⟨l, xs, e, m, x.k l _ hl (Lv.dic.tbl), hs, fun y hy => ex_t (hide_mono x) (hk y hy), h⟩
theorem Ex.ne {H H' : Hp} (x : Ex H H') {l : Addr} (h : H l ≠ none) : H' l ≠ none := x.n l h
theorem EnvOk.mono {K : PySem.W.Frag} {xa : Option Hx} {H0 H H' : Hp} {S0 S : List Addr} {σ : L2.St} {ρ : Ev} (h : EnvOk K xa H0 S0 S H σ ρ) (x : Ex H H') : EnvOk K xa H0 S0 S H' σ ρ :=
  ⟨h.len, fun i y e => (h.sl i y e).mono x, h.sep, h.ex0.trans x, h.s0, fun l m => Ex.ne x (h.sH l m), h.s0H, h.fr, h.own, fun l m n => let ⟨o, e, v⟩ := h.sN l m n; ⟨o, x.k l o e v.tbl, v⟩, h.tb.mono x⟩

/-! ### what is wanted of a result -/
def Post (K : PySem.W.Frag) (S : List Addr) (H : Hp) (d : D) (Q : VK) : Prop := ∀ H' v, Ex H H' → Dp K (hide S H') v d → Q v H'
def RPost (K : PySem.W.Frag) (mg : Str → Option Value) (G : Gx) (S : List Addr) (H : Hp) (σ : L2.St) (r : R) (Q : VK) : Prop :=
  match r with
  | .ok d => Post K S H d Q
  | .ex c => ∀ C H', mg c = some (.ref C) → Ex H H' → G.W (.ref C) none σ H'
  | .no => False
theorem Post.mono {K : PySem.W.Frag} {S : List Addr} {H H1 : Hp} {d : D} {Q : VK} (h : Post K S H d Q) (x : Ex H H1) : Post K S H1 d Q := fun H' v y k => h H' v (x.trans y) k
theorem RPost.mono {K : PySem.W.Frag} {mg : Str → Option Value} {G : Gx} {S : List Addr} {H H1 : Hp} {σ : L2.St} {r : R} {Q : VK} (h : RPost K mg G S H σ r Q) (x : Ex H H1) : RPost K mg G S H1 σ r Q := by
  cases r with
  | ok d => exact Post.mono h x
  | ex c => exact fun C H' e y => h C H' e (x.trans y)
  | no => exact h
/-- the reading of an expression that denotes r at ρ -/
def tE (K : PySem.W.Frag) (mg : Str → Option Value) (G : Gx) (ρ : Ev) (r : R) : TE := fun σ H Q => ∃ H0 S0 S, EnvOk K G.xa H0 S0 S H σ ρ ∧ RPost K mg G S H σ r Q
structure XE (X : Cx) (G : Gx) (e : Expr) (m : Ev → R) : Prop where
  pe : ∀ ρ, PE X e (tE X.K X.mg G ρ (m ρ))
theorem _root_.L2.PE.imp {X : Cx} {e : Expr} {t t' : TE} (h : PE X e t) (i : ∀ σ H Q, t' σ H Q → t σ H Q) : PE X e t' := ⟨fun pins s σ H Q I hw => h.run pins s σ H Q I (i σ H Q hw)⟩
theorem _root_.L2.PT.imp {X : Cx} {e : Expr} {t t' : TT} (h : PT X e t) (i : ∀ σ H Q, t' σ H Q → t σ H Q) : PT X e t' := ⟨fun pins s σ H Q I hw => h.run pins s σ H Q I (i σ H Q hw)⟩
theorem _root_.L2.PW.imp {X : Cx} {e : Expr} {t t' : TT} (h : PW X e t) (i : ∀ σ H Q, t' σ H Q → t σ H Q) : PW X e t' := ⟨fun wh pins s σ H Q I hw => h.run wh pins s σ H Q I (i σ H Q hw)⟩
theorem _root_.L2.PA.imp {X : Cx} {e : List Expr} {t t' : TA} (h : PA X e t) (i : ∀ σ H Q, t' σ H Q → t σ H Q) : PA X e t' := ⟨fun pos pins s σ H Q I hw => h.run pos pins s σ H Q I (i σ H Q hw)⟩
theorem _root_.L2.PS.imp {X : Cx} {e : Stmt} {t t' : TS} (h : PS X e t) (i : ∀ D σ H, t' D σ H → t D σ H) : PS X e t' := ⟨fun pins s σ H D I hw => h.run pins s σ H D I (i D σ H hw)⟩
theorem _root_.L2.PSs.imp {X : Cx} {e : List Stmt} {t t' : TS} (h : PSs X e t) (i : ∀ D σ H, t' D σ H → t D σ H) : PSs X e t' := ⟨fun pins s σ H D I hw => h.run pins s σ H D I (i D σ H hw)⟩

def R.bind (r : R) (f : D → R) : R := match r with
  | .ok d => f d
  | .ex c => .ex c
  | .no => .no
def R.of (o : Option D) : R := match o with
  | some d => .ok d
  | none => .no
/-- from a result's reading to what follows it -/
theorem tE_bind {K : PySem.W.Frag} {mg : Str → Option Value} {G : Gx} {ρ : Ev} {r : R} {f : D → R} {σ : L2.St} {H H0 : Hp} {S0 S : List Addr} {Q Q' : VK} (env : EnvOk K G.xa H0 S0 S H σ ρ) (h : RPost K mg G S H σ (r.bind f) Q)
    (k : ∀ d H' v, r = .ok d → Ex H H' → Dp K (hide S H') v d → RPost K mg G S H' σ (f d) Q → Q' v H') : tE K mg G ρ r σ H Q' := by
  refine ⟨H0, S0, S, env, ?_⟩
  cases r with
  | ok d => exact fun H' v x hv => k d H' v rfl x hv (RPost.mono h x)
  | ex c => exact h
  | no => exact h
theorem post_val {K : PySem.W.Frag} {S : List Addr} {H : Hp} {d : D} {v : V} {Q : VK} (h : Post K S H d Q) (k : Dp K (hide S H) v d) : Q v H := h H v (Ex.refl H) k
/-- a new object -/
theorem post_new {K : PySem.W.Frag} {S : List Addr} {H : Hp} {d : D} {Q : VK} {p : Addr} {o : HO} (h : Post K S H d Q) (np : H p = none) (k : Dp K (hide S (upd H p o)) (.ref p) d) : Q (.ref p) (upd H p o) := h _ _ (Ex.new np) k
theorem new_out {S : List Addr} {H : Hp} {p : Addr} (hS : ∀ l ∈ S, H l ≠ none) (np : H p = none) : p ∉ S := fun z => hS p z np
theorem new_tup {K : PySem.W.Frag} {S : List Addr} {H : Hp} {p : Addr} {vs : List V} {ds : List D} (hS : ∀ l ∈ S, H l ≠ none) (np : H p = none) (h : DpAll K (hide S H) vs ds) : Dp K (hide S (upd H p (.tup vs))) (.ref p) (.tuple ds) :=
  .tup (.inl (.inl (by rw [hide_out (new_out hS np), upd_same]))) (da_mono (hide_mono (Ex.new np)) h)
theorem new_lst {K : PySem.W.Frag} {S : List Addr} {H : Hp} {p : Addr} {vs : List V} {ds : List D} (hS : ∀ l ∈ S, H l ≠ none) (np : H p = none) (h : DpAll K (hide S H) vs ds) : Dp K (hide S (upd H p (.lst vs))) (.ref p) (.list ds) :=
  .lst (.inl (.inl (by rw [hide_out (new_out hS np), upd_same]))) (da_mono (hide_mono (Ex.new np)) h)

section
variable {X : Cx} {G : Gx} {pos : Pos} {a b c e : Expr} {ma mb mc : Ev → R}
/-! ### names and constants -/
def mVar (i : Nat) : Ev → R := fun ρ => match ρ[i]? with
  | some (.d x) => .ok x
  | _ => .no
theorem x_var (i : Nat) {x : Str} (hN : X.N[i]? = some x := by rfl) (hv : Vis X.env.scope x := by first | exact Or.inl rfl | exact Or.inr (Or.inl rfl) | exact Or.inr (Or.inr rfl)) (hd : (x == ("__debug__" : Str)) = false := by decide)
    (hcd : (x == ("__classdict__" : Str)) = false := by decide) : XE X G (.Name x pos) (mVar i) := ⟨fun ρ => (pe_var hN hv hd hcd).imp fun σ H Q ⟨H0, S0, S, env, h⟩ => by
  unfold mVar at h
  split at h
  · rename_i y e
    obtain ⟨v, ev, k⟩ := env.sl i _ e
    exact ⟨v, ev, post_val h k⟩
  · exact h.elim⟩
def mC (d : D) : Ev → R := fun _ => .ok d
theorem x_int {i : Int} {j : Nat} : XE X G (.Constant (.int i) j pos) (mC (.int i)) := ⟨fun ρ => pe_int.imp fun σ H Q ⟨_, _, _, _, h⟩ => post_val h (.int i)⟩
theorem x_bl {i : Bool} {j : Nat} : XE X G (.Constant (.bool i) j pos) (mC (.bool i)) := ⟨fun ρ => pe_bl.imp fun σ H Q ⟨_, _, _, _, h⟩ => post_val h (.bl i)⟩
theorem x_non {j : Nat} : XE X G (.Constant .none j pos) (mC .none) := ⟨fun ρ => pe_non.imp fun σ H Q ⟨_, _, _, _, h⟩ => post_val h .non⟩
theorem x_str {i : Str} {j : Nat} : XE X G (.Constant (.str i) j pos) (mC (.str i)) := ⟨fun ρ => pe_str.imp fun σ H Q ⟨_, _, _, _, h⟩ => post_val h (.str i)⟩
/-- a module's constant -/
structure GlD (K : PySem.W.Frag) (mg : Str → Option Value) (x : Str) (d : D) : Prop where
  ex : ∃ v u, mg x = some u ∧ RelV v u ∧ ∀ H : Hp, Dp K H v d
theorem x_glob {x : Str} {d : D} (g : GlD X.K X.mg x d) (hg : Gl X x := by rfl) (hd : (x == ("__debug__" : Str)) = false := by decide) : XE X G (.Name x pos) (mC d) := ⟨fun ρ => by
  obtain ⟨v, u, hm, r, k⟩ := g.ex
  exact (pe_glob hg hm r hd).imp fun σ H Q ⟨_, _, _, _, h⟩ => post_val h (k _)⟩

/-! ### operators -/
/-- an operator's function on data: what is asked of its rule -/
def OpOk (K : PySem.W.Frag) (r : R2) (f : D → D → Option D) : Prop := ∀ (S : List Addr) (H : Hp) (x y d : D) (v u : V) (Q : VK), (∀ l ∈ S, H l ≠ none) → Dp K (hide S H) v x → Dp K (hide S H) u y → f x y = some d → Post K S H d Q → r v u H Q
def mBin (f : D → D → Option D) (ma mb : Ev → R) : Ev → R := fun ρ => (ma ρ).bind fun x => (mb ρ).bind fun y => R.of (f x y)
theorem tOp_of {r : R2} {f : D → D → Option D} (k : OpOk X.K r f) {ρ : Ev} {x y : R} {σ : L2.St} {H : Hp} {Q : VK} (h : tE X.K X.mg G ρ (x.bind fun x => y.bind fun y => R.of (f x y)) σ H Q) :
    tOp r (tE X.K X.mg G ρ x) (tE X.K X.mg G ρ y) σ H Q := by
  obtain ⟨H0, S0, S, env, h⟩ := h
  refine tE_bind env h fun d H1 v _ x1 hv h1 => ?_
  refine tE_bind (env.mono x1) h1 fun d2 H2 u _ x2 hu h2 => ?_
  have env2 := (env.mono x1).mono x2
  cases e : f d d2 with
  | none => rw [e] at h2; exact h2.elim
  | some z =>
    rw [e] at h2
    exact k S H2 d d2 z v u Q env2.sH (dp_mono (hide_mono x2) hv) hu e h2
theorem x_op {op : Operator} {r : R2} {f : D → D → Option D} (ho : OpR X (binaryOp op) r) (k : OpOk X.K r f) (ha : XE X G a ma) (hb : XE X G b mb) : XE X G (.BinOp a op b pos) (mBin f ma mb) :=
  ⟨fun ρ => (pe_op ho (ha.pe ρ) (hb.pe ρ)).imp fun _ _ _ h => tOp_of k h⟩
theorem x_cmp {op : CmpOp} {r : R2} {f : D → D → Option D} (ho : OpR X (compareOp op) r) (k : OpOk X.K r f) (ha : XE X G a ma) (hb : XE X G b mb) (hm : behindInMarks op b = false := by exact nomark _) : XE X G (.Compare a [op] [b] pos) (mBin f ma mb) :=
  ⟨fun ρ => (pe_cmpR ho (ha.pe ρ) (hb.pe ρ) hm).imp fun _ _ _ h => tOp_of k h⟩
def fI (g : Int → Int → Option D) : D → D → Option D
  | .int i, .int j => g i j
  | _, _ => none
end
end FL
/-! operators -/
namespace FL
open PySem PySem.Spec PyProof.Rows L2
variable [TabNames]
section
variable {X : Cx}
/-- list + list, wherever they stand -/
def rCatL (K : PySem.W.Frag) : R2 := fun x y H Q => ∃ l b xs zs, x = .ref l ∧ y = .ref b ∧ SqL K H l xs ∧ SqL K H b zs ∧ xs.length + zs.length ≤ sizeLine ∧ ∀ p, H p = none → Q (.ref p) (upd H p (.lst (xs ++ zs)))
theorem op_catL : OpR X (binaryOp .Add) (rCatL X.K) := by
  intro pins s σ H x y v u Q I rx ry h
  obtain ⟨l, b, xs, zs, rfl, rfl, hH, hB, hz, q⟩ := h
  cases rx
  cases ry
  obtain ⟨its, r, pl, _⟩ := I.list hH
  obtain ⟨its2, r2, pl2, _⟩ := I.list hB
  obtain ⟨⟨cls, dd, data, sl⟩, ho, hc, n, hd⟩ := pl.isList
  obtain ⟨⟨cls2, dd2, data2, sl2⟩, ho2, hc2, n2, hd2⟩ := pl2.isList
  simp only at hc hd hc2 hd2
  subst hc hd hc2 hd2
  have e : its.toArray ++ its2.toArray = (its ++ its2).toArray := by simp
  have e1 := r.length
  have e2 := r2.length
  refine concat_meets ⟨_, ho, rfl⟩ ⟨_, ho2, rfl⟩ noFill_list_add seq_list_add PySem.F.slot_list_add PySem.F.entry_list_add (PySem.F.args_list_add_2 _ _)
    (list_addW l b its.toArray its2.toArray n n2 dd dd2 sl sl2 (by rw [List.size_toArray, List.size_toArray]; omega)) ⟨ho, ho2, ?_⟩
  rw [e]
  exact ⟨.ref _, _, I.lnew (t' := s.toks) (r.append r2) (by rw [List.length_append]; omega), rfl, q _ I.fresh⟩
def rSubB : R2 := fun x y H Q => ∃ a b, x = .bl a ∧ y = .bl b ∧ Q (.int (b2i a - b2i b)) H
theorem op_subB : OpR X (binaryOp .Sub) rSubB := by
  intro pins s σ H x y v u Q I rx ry h
  obtain ⟨a, b, rfl, rfl, q⟩ := h
  cases rx
  cases ry
  exact sub_bool ⟨.int _, H, I.tok _, ⟨_, rfl⟩, q⟩
def rMulS : R2 := fun x y H Q => ∃ a n, x = .str a ∧ y = .int n ∧ MulOk a n ∧ Q (.str (Txt.mul a n)) H
theorem op_mulS : OpR X (binaryOp .Mult) rMulS := by
  intro pins s σ H x y v u Q I rx ry h
  obtain ⟨a, n, rfl, rfl, ok, q⟩ := h
  obtain ⟨t, rfl⟩ := rx
  obtain ⟨t', rfl⟩ := ry
  exact SB.mul ok fun t' k => ⟨.str _, H, I.tok _, ⟨_, rfl⟩, q⟩
def CDivX (i j : Int) : Prop := j ≠ 0 ∧ Builtin.divisionGoesByPylong i j = false
theorem op_fdivX : OpR X (binaryOp .FloorDiv) (rI CDivX fun i j => .int (i.fdiv j)) := opI fun _ _ _ _ _ _ _ hc q => floordiv_int hc.1 q (.inl hc.2)
end
/-! ### the functions on data -/
def addD : D → D → Option D
  | .int i, .int j => some (.int (i + j))
  | .str x, .str y => if x.length + y.length ≤ sizeLine then some (.str (x ++ y)) else none
  | .tuple xs, .tuple ys => if xs.length + ys.length ≤ sizeLine then some (.tuple (xs ++ ys)) else none
  | .list xs, .list ys => if xs.length + ys.length ≤ sizeLine then some (.list (xs ++ ys)) else none
  | _, _ => none
def subD : D → D → Option D
  | .int i, .int j => some (.int (i - j))
  | .bool a, .bool b => some (.int (b2i a - b2i b))
  | _, _ => none
instance decMulOk {i j : Int} : Decidable (IntMulOk i j) := by
  unfold IntMulOk
  infer_instance
/-- a product is within the machine's line -/
def mulB (i j : Int) : Bool := decide (IntMulOk i j)
/-- times a text of one sign -/
def repB (x : Str) (n : Int) : Bool := decide (x.length = 1 ∧ -1000000 ≤ n ∧ n ≤ 1000000)
def mulD : D → D → Option D
  | .int i, .int j => if mulB i j then some (.int (i * j)) else none
  | .str x, .int n => if repB x n then some (.str (Txt.mul x n)) else none
  | _, _ => none
/-- a division is done by C -/
def divB (i j : Int) : Bool := decide (j.natAbs < 1073741824) || decide (j.natAbs.log2 < 9000) || !Builtin.divisionGoesByPylong i j
def fdivD : D → D → Option D
  | .int i, .int j => if 0 < j then (if divB i j then some (.int (i / j)) else none) else if j < 0 then (if divB i j then some (.int (i.fdiv j)) else none) else none
  | _, _ => none
def modD : D → D → Option D
  | .int i, .int j => if 0 < j then some (.int (i % j)) else if j < 0 then some (.int (i.fmod j)) else none
  | _, _ => none
def shlB (i j : Int) : Bool := decide (0 ≤ j) && decide ((Builtin.Int.intBits i : Int) + j ≤ 134217728)
def shlD : D → D → Option D
  | .int i, .int j => if shlB i j then some (.int (i * 2 ^ j.toNat)) else none
  | _, _ => none
def shrD : D → D → Option D
  | .int i, .int j => if 0 ≤ j then some (.int (i / 2 ^ j.toNat)) else none
  | _, _ => none
def andD : D → D → Option D
  | .int i, .int j => some (.int (Builtin.bitAnd i j))
  | _, _ => none
theorem divB_ok {i j : Int} (h : divB i j = true) : Builtin.divisionGoesByPylong i j = false := by
  unfold divB at h
  simp only [Bool.or_eq_true, decide_eq_true_eq, Bool.not_eq_true'] at h
  rcases h with (h | h) | h
  · exact PyProof.noPylong_small h
  · exact PyProof.noPylong_of_log2 h
  · exact h
theorem repB_ok {x : Str} {n : Int} (h : repB x n = true) : MulOk x n := by
  unfold repB at h
  simp only [decide_eq_true_eq] at h
  obtain ⟨hx, h1, h2⟩ := h
  refine ⟨by rw [decide_eq_false (by omega), decide_eq_false (by omega)]; rfl, fun h3 _ => ?_, fun h3 _ => ?_⟩
  · rw [hx]
    have : (1 : Int) ≤ (2 ^ 63 - 1) / n := by
      rw [Int.le_ediv_iff_mul_le (by omega)]
      omega
    omega
  · rw [hx, Nat.one_mul]
    unfold Builtin.Str.tooLong
    exact decide_eq_false (by rw [sizeLine_eq]; omega)
section
variable {X : Cx} {K : PySem.W.Frag}
theorem ok_of_if {c : Prop} [Decidable c] {a d : D} (h : (if c then some a else none) = some d) : c ∧ a = d := by
  by_cases k : c
  · rw [if_pos k] at h; exact ⟨k, Option.some.inj h⟩
  · rw [if_neg k] at h; cases h
theorem okAdd : OpOk K (fun x y H Q => (((rI0 fun i j => .int (i + j)) x y H Q ∨ ∃ i j, x = .str i ∧ y = .str j ∧ i.length + j.length ≤ sizeLine ∧ Q (.str (i ++ j)) H) ∨ rCatA K x y H Q) ∨ rCatL K x y H Q) addD := by
  intro S H x y d v u Q hS hv hu e q
  cases hv with
  | int i =>
    cases hu with
    | int j => cases e; exact .inl (.inl (.inl ⟨i, j, rfl, rfl, post_val q (.int _)⟩))
    | _ => cases e
  | str i =>
    cases hu with
    | str j =>
      obtain ⟨k, rfl⟩ := ok_of_if e
      exact .inl (.inl (.inr ⟨i, j, rfl, rfl, k, post_val q (.str _)⟩))
    | _ => cases e
  | @tup a xs ds h k =>
    cases hu with
    | @tup b ys es h' k' =>
      obtain ⟨kk, rfl⟩ := ok_of_if e
      refine .inl (.inr ⟨a, b, xs, ys, rfl, rfl, ex_t hide_sub h, ex_t hide_sub h', by rw [da_length k, da_length k']; exact kk, fun z => ?_, fun _ z => ?_, fun _ _ p np => ?_⟩)
      · subst z; cases k
        exact post_val q (.tup h' k')
      · subst z; cases k'
        rw [List.append_nil] at q
        exact post_val q (.tup h k)
      · exact post_new q np (new_tup hS np (da_append k k'))
    | _ => cases e
  | @lst a xs ds h k =>
    cases hu with
    | @lst b ys es h' k' =>
      obtain ⟨kk, rfl⟩ := ok_of_if e
      exact .inr ⟨a, b, xs, ys, rfl, rfl, ex_l hide_sub h, ex_l hide_sub h', by rw [da_length k, da_length k']; exact kk, fun p np => post_new q np (new_lst hS np (da_append k k'))⟩
    | _ => cases e
  | _ => cases hu <;> cases e
theorem okSub : OpOk K (fun x y H Q => (rI0 fun i j => .int (i - j)) x y H Q ∨ rSubB x y H Q) subD := by
  intro S H x y d v u Q hS hv hu e q
  cases hv with
  | int i =>
    cases hu with
    | int j => cases e; exact .inl ⟨i, j, rfl, rfl, post_val q (.int _)⟩
    | _ => cases e
  | bl i =>
    cases hu with
    | bl j => cases e; exact .inr ⟨i, j, rfl, rfl, post_val q (.int _)⟩
    | _ => cases e
  | _ => cases hu <;> cases e
def rMulX : R2 := rI IntMulOk fun i j => .int (i * j)
theorem op_mulXX : OpR X (binaryOp .Mult) rMulX := opI fun _ _ _ _ _ _ _ hc q => mul_int q hc
theorem okMul : OpOk K (fun x y H Q => rMulX x y H Q ∨ rMulS x y H Q) mulD := by
  intro S H x y d v u Q hS hv hu e q
  cases hv with
  | int i =>
    cases hu with
    | int j =>
      obtain ⟨k, rfl⟩ := ok_of_if e
      exact .inl ⟨i, j, rfl, rfl, of_decide_eq_true k, post_val q (.int _)⟩
    | _ => cases e
  | str i =>
    cases hu with
    | int j =>
      obtain ⟨k, rfl⟩ := ok_of_if e
      exact .inr ⟨i, j, rfl, rfl, repB_ok k, post_val q (.str _)⟩
    | _ => cases e
  | _ => cases hu <;> cases e
theorem okFdiv : OpOk K (rI CDivX fun i j => .int (i.fdiv j)) fdivD := by
  intro S H x y d v u Q hS hv hu e q
  cases hv with
  | int i =>
    cases hu with
    | int j =>
      unfold fdivD at e
      dsimp only at e
      by_cases h : 0 < j
      · rw [if_pos h] at e
        obtain ⟨k, rfl⟩ := ok_of_if e
        refine ⟨i, j, rfl, rfl, ⟨by omega, divB_ok k⟩, ?_⟩
        show Q (.int (i.fdiv j)) H
        rw [Int.fdiv_eq_ediv_of_nonneg i (by omega)]
        exact post_val q (.int _)
      · rw [if_neg h] at e
        obtain ⟨h2, e⟩ := (show j < 0 ∧ (if divB i j then some (PyData.int (i.fdiv j)) else none) = some d by
          by_cases h2 : j < 0
          · rw [if_pos h2] at e; exact ⟨h2, e⟩
          · rw [if_neg h2] at e; cases e)
        obtain ⟨k, rfl⟩ := ok_of_if e
        exact ⟨i, j, rfl, rfl, ⟨by omega, divB_ok k⟩, post_val q (.int _)⟩
    | _ => cases e
  | _ => cases hu <;> cases e
theorem okMod : OpOk K (rI (fun _ j => j ≠ 0) fun i j => .int (i.fmod j)) modD := by
  intro S H x y d v u Q hS hv hu e q
  cases hv with
  | int i =>
    cases hu with
    | int j =>
      unfold modD at e
      dsimp only at e
      by_cases h : 0 < j
      · rw [if_pos h] at e
        cases e
        refine ⟨i, j, rfl, rfl, by omega, ?_⟩
        show Q (.int (i.fmod j)) H
        rw [Int.fmod_eq_emod_of_nonneg i (by omega)]
        exact post_val q (.int _)
      · rw [if_neg h] at e
        obtain ⟨h2, rfl⟩ := ok_of_if e
        exact ⟨i, j, rfl, rfl, by omega, post_val q (.int _)⟩
    | _ => cases e
  | _ => cases hu <;> cases e
theorem okShl : OpOk K (rI CShl fun i j => .int (i * 2 ^ j.toNat)) shlD := by
  intro S H x y d v u Q hS hv hu e q
  cases hv with
  | int i =>
    cases hu with
    | int j =>
      obtain ⟨k, rfl⟩ := ok_of_if e
      unfold shlB at k
      simp only [Bool.and_eq_true, decide_eq_true_eq] at k
      exact ⟨i, j, rfl, rfl, ⟨k.1, by rw [show (2 : Int) ^ 27 = 134217728 by decide]; exact k.2⟩, post_val q (.int _)⟩
    | _ => cases e
  | _ => cases hu <;> cases e
theorem okShr : OpOk K (rI (fun _ j => 0 ≤ j) fun i j => .int (i / 2 ^ j.toNat)) shrD := by
  intro S H x y d v u Q hS hv hu e q
  cases hv with
  | int i =>
    cases hu with
    | int j =>
      obtain ⟨k, rfl⟩ := ok_of_if e
      exact ⟨i, j, rfl, rfl, k, post_val q (.int _)⟩
    | _ => cases e
  | _ => cases hu <;> cases e
theorem okAnd : OpOk K (rI0 fun i j => .int (Builtin.bitAnd i j)) andD := by
  intro S H x y d v u Q hS hv hu e q
  cases hv with
  | int i =>
    cases hu with
    | int j => cases e; exact ⟨i, j, rfl, rfl, post_val q (.int _)⟩
    | _ => cases e
  | _ => cases hu <;> cases e
variable {G : Gx} {pos : Pos} {a b c e : Expr} {ma mb mc : Ev → R}
def mAdd := mBin addD
def mSub := mBin subD
def mMul := mBin mulD
def mFdiv := mBin fdivD
def mMod := mBin modD
def mShl := mBin shlD
def mShr := mBin shrD
def mAnd := mBin andD
theorem x_add (ha : XE X G a ma) (hb : XE X G b mb) : XE X G (.BinOp a .Add b pos) (mAdd ma mb) := x_op (((op_add.or op_add_str).or op_catA).or op_catL) okAdd ha hb
theorem x_sub (ha : XE X G a ma) (hb : XE X G b mb) : XE X G (.BinOp a .Sub b pos) (mSub ma mb) := x_op (op_sub.or op_subB) okSub ha hb
theorem x_mul (ha : XE X G a ma) (hb : XE X G b mb) : XE X G (.BinOp a .Mult b pos) (mMul ma mb) := x_op (op_mulXX.or op_mulS) okMul ha hb
theorem x_fdiv (ha : XE X G a ma) (hb : XE X G b mb) : XE X G (.BinOp a .FloorDiv b pos) (mFdiv ma mb) := x_op op_fdivX okFdiv ha hb
theorem x_mod (ha : XE X G a ma) (hb : XE X G b mb) : XE X G (.BinOp a .Mod b pos) (mMod ma mb) := x_op op_modN okMod ha hb
theorem x_shl (ha : XE X G a ma) (hb : XE X G b mb) : XE X G (.BinOp a .LShift b pos) (mShl ma mb) := x_op op_shlW okShl ha hb
theorem x_shr (ha : XE X G a ma) (hb : XE X G b mb) : XE X G (.BinOp a .RShift b pos) (mShr ma mb) := x_op op_shr okShr ha hb
theorem x_and (ha : XE X G a ma) (hb : XE X G b mb) : XE X G (.BinOp a .BitAnd b pos) (mAnd ma mb) := x_op op_and okAnd ha hb
end

/-! ### comparisons -/
def cmpI (p : Int → Int → Bool) : D → D → Option D
  | .int i, .int j => some (.bool (p i j))
  | _, _ => none
def shp (d : D) : Bool := SeqAt.shaped d
def eqD (x y : D) : Option D := if shp x && shp y then some (.bool (PyData.eqv x y)) else none
def neD (x y : D) : Option D := if shp x && shp y then some (.bool (!PyData.eqv x y)) else none
def isD (neg : Bool) : D → D → Option D
  | .bool a, .bool b => some (.bool (neg != decide (a = b)))
  | x, .none => some (.bool (neg != match x with | .none => true | _ => false))
  | _, _ => none
def flatD : D → Bool
  | .none | .bool _ | .int _ | .str _ => true
  | _ => false
def memD (neg : Bool) : D → D → Option D
  | .str x, .str y => some (.bool (neg != !(Builtin.Str.occurrences y x 0 y.length 1).isEmpty))
  | x, .list ys => if flatD x && ys.all flatD then some (.bool (neg != ys.any fun y => PyData.eqv y x)) else none
  | x, .tuple ys => if flatD x && ys.all flatD then some (.bool (neg != ys.any fun y => PyData.eqv y x)) else none
  | _, _ => none
section
variable {X : Cx} {K : PySem.W.Frag} {G : Gx} {pos : Pos} {a b c e : Expr} {ma mb mc : Ev → R}
theorem okCmp {p : Int → Int → Bool} : OpOk K (rI0 fun i j => .bl (p i j)) (cmpI p) := by
  intro S H x y d v u Q hS hv hu e q
  cases hv with
  | int i =>
    cases hu with
    | int j => cases e; exact ⟨i, j, rfl, rfl, post_val q (.bl _)⟩
    | _ => cases e
  | _ => cases hu <;> cases e
theorem okEq : OpOk K (rEqD K) eqD := by
  intro S H x y d v u Q hS hv hu e q
  obtain ⟨k, rfl⟩ := ok_of_if e
  rw [Bool.and_eq_true] at k
  exact ⟨x, y, dp_mono hide_sub hv, dp_mono hide_sub hu, k.1, k.2, post_val q (.bl _)⟩
theorem okNe : OpOk K (rNeD K) neD := by
  intro S H x y d v u Q hS hv hu e q
  obtain ⟨k, rfl⟩ := ok_of_if e
  rw [Bool.and_eq_true] at k
  exact ⟨x, y, dp_mono hide_sub hv, dp_mono hide_sub hu, k.1, k.2, post_val q (.bl _)⟩
theorem flat_of {H : Hp} {v : V} {x : D} (h : Dp K H v x) (f : flatD x = true) : flatV v = true := by
  cases h with
  | lst _ _ => cases f
  | tup _ _ => cases f
  | _ => rfl
theorem flats_of {H : Hp} : ∀ {vs : List V} {xs : List D}, DpAll K H vs xs → xs.all flatD = true → vs.all flatV = true
  | _, _, .nil, _ => rfl
  | _, _, .cons h k, f => by
    rw [List.all_cons, Bool.and_eq_true] at f ⊢
    exact ⟨flat_of h f.1, flats_of k f.2⟩
theorem eqv_of {H : Hp} {v w : V} {x y : D} (h : Dp K H v x) (k : Dp K H w y) (f : flatD x = true) (g : flatD y = true) : eqV v w = PyData.eqv x y := by
  cases h with
  | lst _ _ => cases f
  | tup _ _ => cases f
  | _ =>
    cases k with
    | lst _ _ => cases g
    | tup _ _ => cases g
    | _ => first | rfl | simp [eqV, PyData.eqv]
theorem inV_of {H : Hp} {v : V} {x : D} (h : Dp K H v x) (f : flatD x = true) : ∀ {vs : List V} {xs : List D}, DpAll K H vs xs → xs.all flatD = true → inV v vs = xs.any fun y => PyData.eqv y x
  | _, _, .nil, _ => rfl
  | _, _, .cons h' k, g => by
    rw [List.all_cons, Bool.and_eq_true] at g
    have e := inV_of h f k g.2
    unfold inV at e ⊢
    rw [List.any_cons, List.any_cons, e, eqv_of h' h g.1 f]
abbrev rInS : R2 := fun x y H Q => ∃ i j, x = .str i ∧ y = .str j ∧ Q (.bl (!(Builtin.Str.occurrences j i 0 j.length 1).isEmpty)) H
abbrev rNiS : R2 := fun x y H Q => ∃ i j, x = .str i ∧ y = .str j ∧ Q (.bl (!(!(Builtin.Str.occurrences j i 0 j.length 1).isEmpty))) H
theorem okMem_seq {neg : Bool} {S : List Addr} {H : Hp} {x d : D} {v : V} {Q : VK} {p : Addr} {vs : List V} {ys : List D} (hq : SqL K (hide S H) p vs ∨ SqT K (hide S H) p vs) (k : DpAll K (hide S H) vs ys) (hv : Dp K (hide S H) v x)
    (e : (if (flatD x && ys.all flatD) = true then some (PyData.bool (neg != ys.any fun y => PyData.eqv y x)) else none) = some d) (q : Post K S H d Q) : rIn K neg v (.ref p) H Q := by
  obtain ⟨kk, rfl⟩ := ok_of_if e
  rw [Bool.and_eq_true] at kk
  refine ⟨p, vs, rfl, hq.imp (ex_l hide_sub) (ex_t hide_sub), flat_of hv kk.1, flats_of k kk.2, ?_⟩
  have e2 := inV_of hv kk.1 k kk.2
  have e3 : (if neg = true then !inV v vs else inV v vs) = (neg != ys.any fun y => PyData.eqv y x) := by
    rw [e2]
    cases neg <;> simp
  rw [e3]
  exact post_val q (.bl _)
theorem okMem {neg : Bool} {r : R2} (hr : ∀ x y H Q, (∃ i j, x = .str i ∧ y = .str j ∧ Q (.bl (neg != !(Builtin.Str.occurrences j i 0 j.length 1).isEmpty)) H) → r x y H Q) : OpOk K (fun x y H Q => rIn K neg x y H Q ∨ r x y H Q) (memD neg) := by
  intro S H x y d v u Q hS hv hu e q
  cases hu with
  | lst h k => exact .inl (okMem_seq (.inl h) k hv (by cases x <;> exact e) q)
  | tup h k => exact .inl (okMem_seq (.inr h) k hv (by cases x <;> exact e) q)
  | str j =>
    cases hv with
    | str i => cases e; exact .inr (hr _ _ _ _ ⟨i, j, rfl, rfl, post_val q (.bl _)⟩)
    | _ => cases e
  | _ => cases hv <;> cases e
abbrev rIsN : R2 := fun x y H Q => y = .non ∧ Q (.bl (decide (x = .non))) H
abbrev rNotN : R2 := fun x y H Q => y = .non ∧ Q (.bl (!decide (x = .non))) H
end
end FL
/-! tests, displays, subscripts -/
namespace FL
open PySem PySem.Spec PyProof.Rows L2
variable [TabNames]
section
variable {X : Cx} {K : PySem.W.Frag} {G : Gx} {pos : Pos} {a b c e : Expr} {es rest : List Expr} {ma mb mc : Ev → R}
def mCmp (p : Int → Int → Bool) := mBin (cmpI p)
def mLt := mCmp fun i j => decide (i < j)
def mLe := mCmp fun i j => decide (i ≤ j)
def mGt := mCmp fun i j => decide (j < i)
def mGe := mCmp fun i j => decide (j ≤ i)
def mEq := mBin eqD
def mNe := mBin neD
def mIn := mBin (memD false)
def mNotIn := mBin (memD true)
def mIs := mBin (isD false)
def mIsNot := mBin (isD true)
theorem okIs : OpOk K (fun x y H Q => rIsN x y H Q ∨ rIsB x y H Q) (isD false) := by
  intro S H x y d v u Q hS hv hu e q
  cases hu with
  | non => cases hv <;> (cases e; exact .inl ⟨rfl, post_val q (.bl _)⟩)
  | bl j =>
    cases hv with
    | bl i =>
      cases e
      refine .inr ⟨i, j, rfl, rfl, ?_⟩
      have z := post_val q (.bl _)
      simpa using z
    | _ => cases e
  | _ => cases hv <;> cases e
theorem okIsNot : OpOk K (fun x y H Q => rNotN x y H Q ∨ rNotB x y H Q) (isD true) := by
  intro S H x y d v u Q hS hv hu e q
  cases hu with
  | non => cases hv <;> (cases e; exact .inl ⟨rfl, post_val q (.bl _)⟩)
  | bl j =>
    cases hv with
    | bl i =>
      cases e
      refine .inr ⟨i, j, rfl, rfl, ?_⟩
      have z := post_val q (.bl _)
      simpa using z
    | _ => cases e
  | _ => cases hv <;> cases e
/-- a comparison operator, its rule and its function -/
structure Cmp (X : Cx) (op : CmpOp) (f : D → D → Option D) : Prop where
  ex : ∃ r, OpR X (compareOp op) r ∧ OpOk X.K r f
theorem cLt : Cmp X .Lt (cmpI fun i j => decide (i < j)) := ⟨_, op_lt, okCmp⟩
theorem cLe : Cmp X .LtE (cmpI fun i j => decide (i ≤ j)) := ⟨_, op_le, okCmp⟩
theorem cGt : Cmp X .Gt (cmpI fun i j => decide (j < i)) := ⟨_, op_gt, okCmp⟩
theorem cGe : Cmp X .GtE (cmpI fun i j => decide (j ≤ i)) := ⟨_, op_ge, okCmp⟩
theorem cEq (hu : X.A.units + 64 < cLine) : Cmp X .Eq eqD := ⟨_, op_eqD hu, okEq⟩
theorem cNe (hu : X.A.units + 64 < cLine) : Cmp X .NotEq neD := ⟨_, op_neD hu, okNe⟩
theorem cIn : Cmp X .In (memD false) := ⟨_, op_in_seq.or op_in_str, okMem fun x y H Q ⟨i, j, h1, h2, q⟩ => ⟨i, j, h1, h2, by simpa using q⟩⟩
theorem cNotIn : Cmp X .NotIn (memD true) := ⟨_, op_notIn_seq.or op_notin_str, okMem fun x y H Q ⟨i, j, h1, h2, q⟩ => ⟨i, j, h1, h2, by simpa using q⟩⟩
theorem cIs : Cmp X .Is (isD false) := ⟨_, op_isN.or op_isBl, okIs⟩
theorem cIsNot : Cmp X .IsNot (isD true) := ⟨_, op_notN.or op_notBl, okIsNot⟩
/-- a comparison as a value -/
theorem x_cm {op : CmpOp} {f : D → D → Option D} (k : Cmp X op f) (ha : XE X G a ma) (hb : XE X G b mb) (hm : behindInMarks op b = false := by first | exact nomark _ | rfl) : XE X G (.Compare a [op] [b] pos) (mBin f ma mb) := by
  obtain ⟨r, ho, ok⟩ := k.ex
  exact x_cmp ho ok ha hb hm
/-! ### tests -/
def TPost (mg : Str → Option Value) (G : Gx) (H : Hp) (σ : L2.St) (r : R) (Q : Bool → Hp → Prop) : Prop :=
  match r with
  | .ok (.bool b) => ∀ H', Ex H H' → Q b H'
  | .ok _ => False
  | .ex c => ∀ C H', mg c = some (.ref C) → Ex H H' → G.W (.ref C) none σ H'
  | .no => False
theorem TPost.mono {mg : Str → Option Value} {H H1 : Hp} {σ : L2.St} {r : R} {Q : Bool → Hp → Prop} (h : TPost mg G H σ r Q) (x : Ex H H1) : TPost mg G H1 σ r Q := by
  cases r with
  | ok d =>
    cases d with
    | bool b => exact fun H' y => h H' (x.trans y)
    | _ => exact h
  | ex c => exact fun C H' e y => h C H' e (x.trans y)
  | no => exact h
def tT (K : PySem.W.Frag) (mg : Str → Option Value) (G : Gx) (ρ : Ev) (r : R) : TT := fun σ H Q => ∃ H0 S0 S, EnvOk K G.xa H0 S0 S H σ ρ ∧ TPost mg G H σ r Q
structure XT (X : Cx) (G : Gx) (e : Expr) (m : Ev → R) : Prop where
  pt : ∀ ρ, PT X e (tT X.K X.mg G ρ (m ρ))
structure XW (X : Cx) (G : Gx) (e : Expr) (m : Ev → R) : Prop where
  pw : ∀ ρ, PW X e (tT X.K X.mg G ρ (m ρ))
theorem XW.xt (h : XW X G e ma) : XT X G e ma := ⟨fun ρ => (h.pw ρ).pt⟩
/-- a value's reading from a test's wish -/
theorem tT_tE {mg : Str → Option Value} {ρ : Ev} {r : R} {σ : L2.St} {H : Hp} {Q : Bool → Hp → Prop} {Q' : VK} (h : tT K mg G ρ r σ H Q) (k : ∀ b H', Q b H' → Q' (.bl b) H') : tE K mg G ρ r σ H Q' := by
  obtain ⟨H0, S0, S, env, h⟩ := h
  refine ⟨H0, S0, S, env, ?_⟩
  cases r with
  | ok d =>
    cases d with
    | bool b =>
      intro H' v x hv
      cases hv
      exact k b H' (h H' x)
    | _ => exact h.elim
  | ex c => exact h
  | no => exact h
theorem xt_val (ha : XE X G a ma) (he : ∀ whole, isTrue a X.env whole = (do let v ← whole; standAt a.pos; holding [v] (truthy v)) := by intro _; rfl) : XT X G a ma :=
  ⟨fun ρ => (pt_val (ha.pe ρ) he).imp fun σ H Q h => tT_tE h fun b H' q => ⟨b, rfl, q⟩⟩
theorem tT_tTest {mg : Str → Option Value} {ρ : Ev} {r : R} {σ : L2.St} {H : Hp} {Q : Bool → Hp → Prop} {t : TE} (i : ∀ Q', tE K mg G ρ r σ H Q' → t σ H Q') (h : tT K mg G ρ r σ H Q) : tTest t σ H Q :=
  i _ (tT_tE h fun b H' q => ⟨b, rfl, q⟩)
theorem xt_cm {op : CmpOp} {f : D → D → Option D} (k : Cmp X op f) (ha : XE X G a ma) (hb : XE X G b mb) (hm : behindInMarks op b = false := by first | exact nomark _ | rfl) : XT X G (.Compare a [op] [b] pos) (mBin f ma mb) := by
  obtain ⟨r, ho, ok⟩ := k.ex
  exact ⟨fun ρ => (pt_cmpR ho (ha.pe ρ) (hb.pe ρ) hm).imp fun σ H Q h => tT_tTest (fun Q' h' => tOp_of ok h') h⟩
/-- a op1 b op2 c -/
def mChain (f g : D → D → Option D) (ma mb mc : Ev → R) : Ev → R := fun ρ => (ma ρ).bind fun x => (mb ρ).bind fun y => match f x y with
  | some (.bool true) => (mc ρ).bind fun z => R.of (g y z)
  | some (.bool false) => .ok (.bool false)
  | _ => .no
theorem tChain_of {r r' : R2} {f g : D → D → Option D} (k : OpOk X.K r f) (k' : OpOk X.K r' g) {ρ : Ev} {ra rb rc : R} {σ : L2.St} {H : Hp} {Q : VK}
    (h : tE X.K X.mg G ρ (ra.bind fun x => rb.bind fun y => match f x y with
      | some (.bool true) => rc.bind fun z => R.of (g y z)
      | some (.bool false) => .ok (.bool false)
      | _ => .no) σ H Q) : tChain r r' (tE X.K X.mg G ρ ra) (tE X.K X.mg G ρ rb) (tE X.K X.mg G ρ rc) σ H Q := by
  obtain ⟨H0, S0, S, env, h⟩ := h
  refine tE_bind env h fun d H1 v _ x1 hv h1 => ?_
  refine tE_bind (env.mono x1) h1 fun d2 H2 u _ x2 hu h2 => ?_
  have env2 := (env.mono x1).mono x2
  split at h2
  · rename_i ef
    refine k S H2 d d2 _ v u _ env2.sH (dp_mono (hide_mono x2) hv) hu ef fun H3 z x3 hz => ?_
    cases hz
    refine ⟨true, rfl, iteT ?_⟩
    refine tE_bind (env2.mono x3) (RPost.mono h2 x3) fun d3 H4 w _ x4 hw h4 => ?_
    have env4 := (env2.mono x3).mono x4
    cases eg : g d2 d3 with
    | none => rw [eg] at h4; exact h4.elim
    | some z =>
      rw [eg] at h4
      exact k' S H4 d2 d3 z u w Q env4.sH (dp_mono (hide_mono (x3.trans x4)) hu) hw eg h4
  · rename_i ef
    refine k S H2 d d2 _ v u _ env2.sH (dp_mono (hide_mono x2) hv) hu ef fun H3 z x3 hz => ?_
    cases hz
    exact ⟨false, rfl, iteF (h2 H3 (.bl false) x3 (.bl false))⟩
  · exact h2.elim
theorem x_chain {op op' : CmpOp} {f g : D → D → Option D} (k : Cmp X op f) (k' : Cmp X op' g) (ha : XE X G a ma) (hb : XE X G b mb) (hc : XE X G c mc) (hm : lastMarks [op, op'] [b, c] = false := by with_unfolding_all rfl) :
    XE X G (.Compare a [op, op'] [b, c] pos) (mChain f g ma mb mc) := by
  obtain ⟨r, ho, ok⟩ := k.ex
  obtain ⟨r', ho', ok'⟩ := k'.ex
  exact ⟨fun ρ => (pe_chain ho ho' (ha.pe ρ) (hb.pe ρ) (hc.pe ρ) hm).imp fun _ _ _ h => tChain_of ok ok' h⟩
theorem xt_chain {op op' : CmpOp} {f g : D → D → Option D} (k : Cmp X op f) (k' : Cmp X op' g) (ha : XE X G a ma) (hb : XE X G b mb) (hc : XE X G c mc) (hm : lastMarks [op, op'] [b, c] = false := by with_unfolding_all rfl) :
    XT X G (.Compare a [op, op'] [b, c] pos) (mChain f g ma mb mc) := by
  obtain ⟨r, ho, ok⟩ := k.ex
  obtain ⟨r', ho', ok'⟩ := k'.ex
  exact ⟨fun ρ => (pt_chain ho ho' (ha.pe ρ) (hb.pe ρ) (hc.pe ρ) hm).imp fun σ H Q h => tT_tTest (fun Q' h' => tChain_of ok ok' h') h⟩
def mAnd2 (ma mb : Ev → R) : Ev → R := fun ρ => (ma ρ).bind fun x => match x with
  | .bool true => mb ρ
  | .bool false => .ok (.bool false)
  | _ => .no
def mOr2 (ma mb : Ev → R) : Ev → R := fun ρ => (ma ρ).bind fun x => match x with
  | .bool false => mb ρ
  | .bool true => .ok (.bool true)
  | _ => .no
def notD : D → R
  | .bool b => .ok (.bool !b)
  | _ => .no
def mNot (ma : Ev → R) : Ev → R := fun ρ => (ma ρ).bind notD
theorem tT_bind {mg : Str → Option Value} {ρ : Ev} {r : R} {f : D → R} {σ : L2.St} {H H0 : Hp} {S0 S : List Addr} {Q Q' : Bool → Hp → Prop} (env : EnvOk K G.xa H0 S0 S H σ ρ) (h : TPost mg G H σ (r.bind f) Q)
    (k : ∀ b H', r = .ok (.bool b) → Ex H H' → TPost mg G H' σ (f (.bool b)) Q → Q' b H') (kn : ∀ d, r = .ok d → (∀ b, d ≠ .bool b) → TPost mg G H σ (f d) Q → False) : tT K mg G ρ r σ H Q' := by
  refine ⟨H0, S0, S, env, ?_⟩
  cases r with
  | ok d =>
    cases d with
    | bool b => exact fun H' x => k b H' rfl x (TPost.mono h x)
    | _ => exact kn _ rfl (fun b z => nomatch z) h
  | ex c => exact h
  | no => exact h
theorem xw_and1 (ha : XT X G a ma) : XW X G (.BoolOp .And [a] pos) ma := ⟨fun ρ => pw_and1 (ha.pt ρ)⟩
theorem xw_or1 (ha : XT X G a ma) : XW X G (.BoolOp .Or [a] pos) ma := ⟨fun ρ => pw_or1 (ha.pt ρ)⟩
theorem tAnd_of {mg : Str → Option Value} {ρ : Ev} {r : R} {σ : L2.St} {H : Hp} {Q : Bool → Hp → Prop} (h : tT K mg G ρ ((ma ρ).bind fun x => match x with
      | .bool true => mb ρ
      | .bool false => .ok (.bool false)
      | _ => .no) σ H Q) : tAnd (tT K mg G ρ (ma ρ)) (tT K mg G ρ (mb ρ)) σ H Q := by
  obtain ⟨H0, S0, S, env, h⟩ := h
  refine tT_bind env h (fun b H' _ x h' => ?_) (fun d _ hd h' => ?_)
  · cases b with
    | true => exact iteT ⟨H0, S0, S, env.mono x, h'⟩
    | false => exact iteF (h' H' (Ex.refl H'))
  · cases d with
    | bool b => exact hd b rfl
    | _ => exact h'
theorem xw_and (ha : XT X G a ma) (hb : XW X G (.BoolOp .And (b :: rest) pos) mb) : XW X G (.BoolOp .And (a :: b :: rest) pos) (mAnd2 ma mb) :=
  ⟨fun ρ => (pw_and (ha.pt ρ) (hb.pw ρ)).imp fun σ H Q h => tAnd_of (r := .no) h⟩
theorem tOr_of {mg : Str → Option Value} {ρ : Ev} {r : R} {σ : L2.St} {H : Hp} {Q : Bool → Hp → Prop} (h : tT K mg G ρ ((ma ρ).bind fun x => match x with
      | .bool false => mb ρ
      | .bool true => .ok (.bool true)
      | _ => .no) σ H Q) : tOr (tT K mg G ρ (ma ρ)) (tT K mg G ρ (mb ρ)) σ H Q := by
  obtain ⟨H0, S0, S, env, h⟩ := h
  refine tT_bind env h (fun b H' _ x h' => ?_) (fun d _ hd h' => ?_)
  · cases b with
    | true => exact iteT (h' H' (Ex.refl H'))
    | false => exact iteF ⟨H0, S0, S, env.mono x, h'⟩
  · cases d with
    | bool b => exact hd b rfl
    | _ => exact h'
theorem xw_or (ha : XT X G a ma) (hb : XW X G (.BoolOp .Or (b :: rest) pos) mb) : XW X G (.BoolOp .Or (a :: b :: rest) pos) (mOr2 ma mb) :=
  ⟨fun ρ => (pw_or (ha.pt ρ) (hb.pw ρ)).imp fun σ H Q h => tOr_of (r := .no) h⟩
theorem xt_not (ha : XT X G a ma) : XT X G (.UnaryOp .Not a pos) (mNot ma) := ⟨fun ρ => (pt_not (ha.pt ρ)).imp fun σ H Q ⟨H0, S0, S, env, h⟩ =>
  tT_bind env h (fun b H' _ x h' => h' H' (Ex.refl H')) (fun d _ hd h' => by
    cases d with
    | bool b => exact hd b rfl
    | _ => exact h')⟩
/-! ### the same as values -/
theorem x_one {op : BoolOp} (ha : XE X G a ma) : XE X G (.BoolOp op [a] pos) ma := ⟨fun ρ => pe_one (ha.pe ρ)⟩
theorem xv_and (ha : XE X G a ma) (hb : XE X G (.BoolOp .And (b :: rest) pos) mb) : XE X G (.BoolOp .And (a :: b :: rest) pos) (mAnd2 ma mb) := ⟨fun ρ => (pe_and (ha.pe ρ) (hb.pe ρ)).imp fun σ H Q ⟨H0, S0, S, env, h⟩ =>
  tE_bind env h fun d H' v _ x hv h' => by
    cases hv with
    | bl b =>
      refine ⟨b, rfl, ?_⟩
      cases b with
      | true => exact iteT ⟨H0, S0, S, env.mono x, h'⟩
      | false => exact iteF (post_val h' (.bl false))
    | _ => exact h'.elim⟩
theorem xv_or (ha : XE X G a ma) (hb : XE X G (.BoolOp .Or (b :: rest) pos) mb) : XE X G (.BoolOp .Or (a :: b :: rest) pos) (mOr2 ma mb) := ⟨fun ρ => (pe_or (ha.pe ρ) (hb.pe ρ)).imp fun σ H Q ⟨H0, S0, S, env, h⟩ =>
  tE_bind env h fun d H' v _ x hv h' => by
    cases hv with
    | bl b =>
      refine ⟨b, rfl, ?_⟩
      cases b with
      | true => exact iteT (post_val h' (.bl true))
      | false => exact iteF ⟨H0, S0, S, env.mono x, h'⟩
    | _ => exact h'.elim⟩
theorem x_not (ha : XE X G a ma) : XE X G (.UnaryOp .Not a pos) (mNot ma) := ⟨fun ρ => (pe_not (ha.pe ρ)).imp fun σ H Q ⟨H0, S0, S, env, h⟩ =>
  tE_bind env h fun d H' v _ x hv h' => by
    cases hv with
    | bl b => exact ⟨b, rfl, post_val h' (.bl !b)⟩
    | _ => exact h'.elim⟩
def negD : D → R
  | .int i => .ok (.int (-i))
  | _ => .no
def mNeg (ma : Ev → R) : Ev → R := fun ρ => (ma ρ).bind negD
theorem x_neg (ha : XE X G a ma) : XE X G (.UnaryOp .USub a pos) (mNeg ma) := ⟨fun ρ => (pe_un un_neg (ha.pe ρ)).imp fun σ H Q ⟨H0, S0, S, env, h⟩ =>
  tE_bind env h fun d H' v _ x hv h' => by
    cases hv with
    | int i => exact ⟨i, rfl, post_val h' (.int _)⟩
    | _ => exact h'.elim⟩
def mIf (mc ma mb : Ev → R) : Ev → R := fun ρ => (mc ρ).bind fun x => match x with
  | .bool true => ma ρ
  | .bool false => mb ρ
  | _ => .no
theorem x_if (hc : XT X G c mc) (ha : XE X G a ma) (hb : XE X G b mb) : XE X G (.IfExp c a b pos) (mIf mc ma mb) := ⟨fun ρ => (pe_ifExp (hc.pt ρ) (ha.pe ρ) (hb.pe ρ)).imp fun σ H Q ⟨H0, S0, S, env, h⟩ => by
  unfold mIf at h
  refine ⟨H0, S0, S, env, ?_⟩
  generalize mc ρ = r at h
  cases r with
  | ok d =>
    cases d with
    | bool b =>
      intro H' x
      cases b with
      | true => exact iteT ⟨H0, S0, S, env.mono x, RPost.mono h x⟩
      | false => exact iteF ⟨H0, S0, S, env.mono x, RPost.mono h x⟩
    | _ => exact h
  | ex c => exact h
  | no => exact h⟩
/-! ### arguments, displays -/
def APost (K : PySem.W.Frag) (mg : Str → Option Value) (G : Gx) (S : List Addr) (H : Hp) (σ : L2.St) (r : R) (Q : List V → Hp → Prop) : Prop :=
  match r with
  | .ok (.list ds) => ∀ H' vs, Ex H H' → DpAll K (hide S H') vs ds → Q vs H'
  | .ok _ => False
  | .ex c => ∀ C H', mg c = some (.ref C) → Ex H H' → G.W (.ref C) none σ H'
  | .no => False
def tAr (K : PySem.W.Frag) (mg : Str → Option Value) (G : Gx) (ρ : Ev) (r : R) : TA := fun σ H Q => ∃ H0 S0 S, EnvOk K G.xa H0 S0 S H σ ρ ∧ APost K mg G S H σ r Q
structure XA (X : Cx) (G : Gx) (es : List Expr) (m : Ev → R) : Prop where
  pa : ∀ ρ, PA X es (tAr X.K X.mg G ρ (m ρ))
def mNil : Ev → R := fun _ => .ok (.list [])
def consD (x : D) : D → R
  | .list ds => .ok (.list (x :: ds))
  | _ => .no
def mCons (ma mb : Ev → R) : Ev → R := fun ρ => (ma ρ).bind fun x => (mb ρ).bind fun y => consD x y
theorem xa_nil : XA X G [] mNil := ⟨fun ρ => pa_nil.imp fun σ H Q ⟨_, _, _, _, h⟩ => h H [] (Ex.refl H) .nil⟩
theorem xa_cons (ha : XE X G e ma) (hb : XA X G es mb) (hs : starEach (e :: es) X.env = (false, eval e X.env) :: starEach es X.env := by rfl) : XA X G (e :: es) (mCons ma mb) := ⟨fun ρ => (pa_cons (ha.pe ρ) (hb.pa ρ) hs).imp fun σ H Q ⟨H0, S0, S, env, h⟩ => by
  unfold mCons at h
  refine ⟨H0, S0, S, env, ?_⟩
  generalize ma ρ = r1 at h
  generalize mb ρ = r2 at h
  cases r1 with
  | ok d =>
    intro H1 v x1 hv
    refine ⟨H0, S0, S, env.mono x1, ?_⟩
    cases r2 with
    | ok y =>
      cases y with
      | list ds => exact fun H2 vs x2 hvs => h H2 (v :: vs) (x1.trans x2) (.cons (dp_mono (hide_mono x2) hv) hvs)
      | _ => exact h
    | ex c => exact fun C H' k x => h C H' k (x1.trans x)
    | no => exact h
  | ex c => exact h
  | no => exact h⟩
def tupD : D → R
  | .list ds => if ds.length ≤ sizeLine then .ok (.tuple ds) else .no
  | _ => .no
def lstD : D → R
  | .list ds => if ds.length ≤ sizeLine then .ok (.list ds) else .no
  | _ => .no
def mTup (ms : Ev → R) : Ev → R := fun ρ => (ms ρ).bind tupD
def mLst (ms : Ev → R) : Ev → R := fun ρ => (ms ρ).bind lstD
theorem tA_bind {mg : Str → Option Value} {ρ : Ev} {r : R} {f : D → R} {σ : L2.St} {H H0 : Hp} {S0 S : List Addr} {Q : VK} {Q' : List V → Hp → Prop} (env : EnvOk K G.xa H0 S0 S H σ ρ) (h : RPost K mg G S H σ (r.bind f) Q)
    (k : ∀ ds H' vs, r = .ok (.list ds) → Ex H H' → DpAll K (hide S H') vs ds → RPost K mg G S H' σ (f (.list ds)) Q → Q' vs H') (kn : ∀ d, r = .ok d → (∀ ds, d ≠ .list ds) → RPost K mg G S H σ (f d) Q → False) : tAr K mg G ρ r σ H Q' := by
  refine ⟨H0, S0, S, env, ?_⟩
  cases r with
  | ok d =>
    cases d with
    | list ds => exact fun H' vs x hv => k ds H' vs rfl x hv (RPost.mono h x)
    | _ => exact kn _ rfl (fun b z => nomatch z) h
  | ex c => exact h
  | no => exact h
theorem notList {f : D → R} (hf : ∀ d, (∀ ds, d ≠ .list ds) → f d = .no) {mg : Str → Option Value} {S : List Addr} {H : Hp} {σ : L2.St} {Q : VK} {r : R} : ∀ d, r = .ok d → (∀ ds, d ≠ .list ds) → RPost K mg G S H σ (f d) Q → False := fun d _ hd h => by
  rw [hf d hd] at h
  exact h
theorem tupD_no : ∀ d, (∀ ds, d ≠ .list ds) → tupD d = .no := fun d hd => by cases d <;> first | rfl | exact absurd rfl (hd _)
theorem lstD_no : ∀ d, (∀ ds, d ≠ .list ds) → lstD d = .no := fun d hd => by cases d <;> first | rfl | exact absurd rfl (hd _)
theorem x_tup {x1 : Nat} {ms : Ev → R} (h : XA X G es ms) : XE X G (.Tuple es x1 pos) (mTup ms) := ⟨fun ρ => (pe_tup (h.pa ρ)).imp fun σ H Q ⟨H0, S0, S, env, h⟩ =>
  tA_bind env h (fun ds H' vs _ x hv h' => by
    by_cases k : ds.length ≤ sizeLine
    · rw [show tupD (.list ds) = _ from if_pos k] at h'
      exact ⟨by rw [da_length hv]; exact k, fun p np => post_new h' np (new_tup (env.mono x).sH np hv)⟩
    · rw [show tupD (.list ds) = _ from if_neg k] at h'
      exact h'.elim) (notList tupD_no)⟩
theorem x_lst {ms : Ev → R} (h : XA X G es ms) : XE X G (.List es pos) (mLst ms) := ⟨fun ρ => (pe_lst (h.pa ρ)).imp fun σ H Q ⟨H0, S0, S, env, h⟩ =>
  tA_bind env h (fun ds H' vs _ x hv h' => by
    by_cases k : ds.length ≤ sizeLine
    · rw [show lstD (.list ds) = _ from if_pos k] at h'
      exact ⟨by rw [da_length hv]; exact k, fun p np => post_new h' np (new_lst (env.mono x).sH np hv)⟩
    · rw [show lstD (.list ds) = _ from if_neg k] at h'
      exact h'.elim) (notList lstD_no)⟩
/-! ### what may also be a list of the frame's own: read at once -/
def Bt (K : PySem.W.Frag) (S : List Addr) (H : Hp) (v : V) (d : D) : Prop := Dp K (hide S H) v d ∨ ∃ a vs ds, v = .ref a ∧ d = .list ds ∧ H a = some (.lst vs) ∧ DpAll K (hide S H) vs ds
def BPost (K : PySem.W.Frag) (mg : Str → Option Value) (G : Gx) (S : List Addr) (H : Hp) (σ : L2.St) (r : R) (Q : VK) : Prop :=
  match r with
  | .ok d => ∀ H' v, Ex H H' → Bt K S H' v d → Q v H'
  | .ex c => ∀ C H', mg c = some (.ref C) → Ex H H' → G.W (.ref C) none σ H'
  | .no => False
def tB (K : PySem.W.Frag) (mg : Str → Option Value) (G : Gx) (ρ : Ev) (r : R) : TE := fun σ H Q => ∃ H0 S0 S, EnvOk K G.xa H0 S0 S H σ ρ ∧ BPost K mg G S H σ r Q
structure XB (X : Cx) (G : Gx) (e : Expr) (m : Ev → R) : Prop where
  pe : ∀ ρ, PE X e (tB X.K X.mg G ρ (m ρ))
theorem XE.toB (h : XE X G e ma) : XB X G e ma := ⟨fun ρ => (h.pe ρ).imp fun σ H Q ⟨H0, S0, S, env, h⟩ => by
  refine ⟨H0, S0, S, env, ?_⟩
  generalize ma ρ = r at h
  cases r with
  | ok d => exact fun H' v x hv => h H' v x (.inl hv)
  | ex c => exact h
  | no => exact h⟩
def mVarB (i : Nat) : Ev → R := fun ρ => match ρ[i]? with
  | some (.d x) => .ok x
  | some (.ol xs) => .ok (.list xs)
  | _ => .no
theorem xb_var (i : Nat) {x : Str} (hN : X.N[i]? = some x := by rfl) (hv : Vis X.env.scope x := by first | exact Or.inl rfl | exact Or.inr (Or.inl rfl) | exact Or.inr (Or.inr rfl)) (hd : (x == ("__debug__" : Str)) = false := by decide)
    (hcd : (x == ("__classdict__" : Str)) = false := by decide) : XB X G (.Name x pos) (mVarB i) := ⟨fun ρ => (pe_var hN hv hd hcd).imp fun σ H Q ⟨H0, S0, S, env, h⟩ => by
  unfold mVarB at h
  split at h
  · rename_i y e
    obtain ⟨v, ev, k⟩ := env.sl i _ e
    exact ⟨v, ev, h H v (Ex.refl H) (.inl k)⟩
  · rename_i y e
    obtain ⟨l, vs, ev, m, hl, k⟩ := env.sl i _ e
    exact ⟨.ref l, ev, h H _ (Ex.refl H) (.inr ⟨l, vs, y, rfl, rfl, hl, k⟩)⟩
  · exact h.elim⟩
theorem tB_bind {mg : Str → Option Value} {ρ : Ev} {r : R} {f : D → R} {σ : L2.St} {H H0 : Hp} {S0 S : List Addr} {Q Q' : VK} (env : EnvOk K G.xa H0 S0 S H σ ρ) (h : RPost K mg G S H σ (r.bind f) Q)
    (k : ∀ d H' v, r = .ok d → Ex H H' → Bt K S H' v d → RPost K mg G S H' σ (f d) Q → Q' v H') : tB K mg G ρ r σ H Q' := by
  refine ⟨H0, S0, S, env, ?_⟩
  cases r with
  | ok d => exact fun H' v x hv => k d H' v rfl x hv (RPost.mono h x)
  | ex c => exact h
  | no => exact h
theorem Bt.mono {S : List Addr} {H H' : Hp} {v : V} {d : D} (h : Bt K S H v d) (x : Ex H H') : Bt K S H' v d := by
  rcases h with h | ⟨a, vs, ds, h1, h2, h3, h4⟩
  · exact .inl (dp_mono (hide_mono x) h)
  · exact .inr ⟨a, vs, ds, h1, h2, x.lst h3, da_mono (hide_mono x) h4⟩
/-- a list or a tuple that is read -/
theorem Bt.list {S : List Addr} {H : Hp} {v : V} {ds : List D} (h : Bt K S H v (.list ds)) : ∃ a vs, v = .ref a ∧ SqL K H a vs ∧ DpAll K (hide S H) vs ds := by
  rcases h with h | ⟨a, vs, ds, rfl, h2, h3, h4⟩
  · cases h with
    | lst h k => exact ⟨_, _, rfl, ex_l hide_sub h, k⟩
  · cases h2
    exact ⟨a, vs, rfl, .inl (.inl h3), h4⟩
theorem Bt.tuple {S : List Addr} {H : Hp} {v : V} {ds : List D} (h : Bt K S H v (.tuple ds)) : ∃ a vs, v = .ref a ∧ SqT K H a vs ∧ DpAll K (hide S H) vs ds := by
  rcases h with h | ⟨a, vs, ds, rfl, h2, h3, h4⟩
  · cases h with
    | tup h k => exact ⟨_, _, rfl, ex_t hide_sub h, k⟩
  · cases h2
theorem Bt.str {S : List Addr} {H : Hp} {v : V} {z : Str} (h : Bt K S H v (.str z)) : v = .str z := by
  rcases h with h | ⟨a, vs, ds, rfl, h2, h3, h4⟩
  · cases h; rfl
  · cases h2
/-! ### items, slices -/
def ixD : D → D → R
  | .list ds, .int i => R.of (atI ds i)
  | .tuple ds, .int i => R.of (atI ds i)
  | .str z, .int i => if z.length ≤ sizeLine then R.of ((atI z.cps.toList i).map fun c => .str ⟨#[c]⟩) else .no
  | _, _ => .no
def mIx (ma mb : Ev → R) : Ev → R := fun ρ => (ma ρ).bind fun x => (mb ρ).bind fun y => ixD x y
theorem at_of {H : Hp} {vs : List V} {ds : List D} {i : Int} {d : D} (h : DpAll K H vs ds) (e : atI ds i = some d) : ∃ v, atI vs i = some v ∧ Dp K H v d := by
  unfold atI at e ⊢
  rw [da_length h]
  cases k : ixN ds.length i with
  | none => rw [k] at e; cases e
  | some j =>
    rw [k] at e
    exact da_get h e
theorem of_some {mg : Str → Option Value} {S : List Addr} {H : Hp} {σ : L2.St} {o : Option D} {Q : VK} (h : RPost K mg G S H σ (R.of o) Q) : ∃ d, o = some d ∧ Post K S H d Q := by
  cases o with
  | none => exact h.elim
  | some d => exact ⟨d, rfl, h⟩
theorem x_ix (ha : XB X G a ma) (hb : XE X G b mb) (hs : PlainIx b := by intro _ _; rfl) : XE X G (.Subscript a b pos) (mIx ma mb) := ⟨fun ρ => (pe_ix ix_seq (PE.mk fun pins s σ H Q I h => (ha.pe ρ).run pins s σ H Q I h) (hb.pe ρ) hs).imp fun σ H Q ⟨H0, S0, S, env, h⟩ =>
  tB_bind env h fun d H1 v _ x1 hv h1 => tE_bind (env.mono x1) h1 fun d2 H2 u _ x2 hu h2 => by
    have hv2 := hv.mono x2
    cases hu with
    | int i =>
      cases d with
      | list ds =>
        obtain ⟨z, e, q⟩ := of_some h2
        obtain ⟨l, vs, rfl, hl, k⟩ := hv2.list
        obtain ⟨w, ew, hw⟩ := at_of k e
        exact .inl ⟨l, vs, i, w, rfl, rfl, hl, ew, post_val q hw⟩
      | tuple ds =>
        obtain ⟨z, e, q⟩ := of_some h2
        obtain ⟨l, vs, rfl, hl, k⟩ := hv2.tuple
        obtain ⟨w, ew, hw⟩ := at_of k e
        exact .inr (.inl ⟨l, vs, i, w, rfl, rfl, hl, ew, post_val q hw⟩)
      | str z =>
        obtain rfl := hv2.str
        have h3 : RPost X.K X.mg G S H2 σ (if z.length ≤ sizeLine then R.of ((atI z.cps.toList i).map fun c => .str ⟨#[c]⟩) else .no) Q := h2
        split at h3
        · rename_i hz
          obtain ⟨y, e, q⟩ := of_some h3
          obtain ⟨c, ec, rfl⟩ := Option.map_eq_some_iff.mp e
          exact .inr (.inr ⟨z, i, c, rfl, rfl, hz, ec, post_val q (.str _)⟩)
        · exact h3.elim
      | _ => exact h2.elim
    | _ => cases d <;> exact h2.elim⟩
end
end FL
/-! slices, statements, targets, loops -/
namespace FL
open PySem PySem.Spec PyProof.Rows L2
variable [TabNames]
section
variable {X : Cx} {K : PySem.W.Frag} {G : Gx} {pos : Pos} {a b c e : Expr} {es rest : List Expr} {ma mb mc : Ev → R}
/-! ### slices -/
def OPost (mg : Str → Option Value) (G : Gx) (H : Hp) (σ : L2.St) (r : R) (Q : Option Int → Hp → Prop) : Prop :=
  match r with
  | .ok .none => ∀ H', Ex H H' → Q none H'
  | .ok (.int i) => ∀ H', Ex H H' → Q (some i) H'
  | .ok _ => False
  | .ex c => ∀ C H', mg c = some (.ref C) → Ex H H' → G.W (.ref C) none σ H'
  | .no => False
def tO (K : PySem.W.Frag) (mg : Str → Option Value) (G : Gx) (ρ : Ev) (r : R) : TO := fun σ H Q => ∃ H0 S0 S, EnvOk K G.xa H0 S0 S H σ ρ ∧ OPost mg G H σ r Q
structure XO (X : Cx) (G : Gx) (e : Option Expr) (m : Ev → R) : Prop where
  po : ∀ ρ, PO X e (tO X.K X.mg G ρ (m ρ))
theorem _root_.L2.PO.imp {X : Cx} {e : Option Expr} {t t' : TO} (h : PO X e t) (i : ∀ σ H Q, t' σ H Q → t σ H Q) : PO X e t' := ⟨fun pins s σ H Q I hw => h.run pins s σ H Q I (i σ H Q hw)⟩
theorem xo_none : XO X G none (mC .none) := ⟨fun ρ => po_none.imp fun σ H Q ⟨_, _, _, _, h⟩ => h H (Ex.refl H)⟩
def intD : D → R
  | .int i => .ok (.int i)
  | _ => .no
def mInt (ma : Ev → R) : Ev → R := fun ρ => (ma ρ).bind intD
theorem xo_some (ha : XE X G e ma) : XO X G (some e) (mInt ma) := ⟨fun ρ => (po_some (ha.pe ρ)).imp fun σ H Q ⟨H0, S0, S, env, h⟩ => by
  refine ⟨H0, S0, S, env, ?_⟩
  unfold mInt at h
  generalize ma ρ = r at h
  cases r with
  | ok d =>
    intro H' v x hv
    cases hv with
    | int i => exact ⟨i, rfl, h H' x⟩
    | _ => exact h.elim
  | ex c => exact h
  | no => exact h⟩
def cutD (ds : List D) (lo hi : Option Int) : List D := (ds.drop (HT.sIx ds.length 0 lo)).take (HT.sIx ds.length ds.length hi - HT.sIx ds.length 0 lo)
theorem cut_of {H : Hp} {vs : List V} {ds : List D} (h : DpAll K H vs ds) (lo hi : Option Int) : DpAll K H (cutV vs lo hi) (cutD ds lo hi) := by
  unfold cutV cutD
  rw [da_length h]
  exact da_take _ (da_drop _ h)
def partD : D → Option Int
  | .int i => some i
  | _ => none
def slD (x : D) (lo hi : Option Int) : R := match x with
  | .list ds => .ok (.list (cutD ds lo hi))
  | .tuple ds => .ok (.tuple (cutD ds lo hi))
  | .str z => if z.length ≤ sizeLine then .ok (.str (Txt.slice z lo hi)) else .no
  | _ => .no
def mSl (ma ml mh : Ev → R) : Ev → R := fun ρ => (ma ρ).bind fun x => (ml ρ).bind fun l => (mh ρ).bind fun h => slD x (partD l) (partD h)
theorem tO_bind {mg : Str → Option Value} {ρ : Ev} {r : R} {f : D → R} {σ : L2.St} {H H0 : Hp} {S0 S : List Addr} {Q : VK} {Q' : Option Int → Hp → Prop} (env : EnvOk K G.xa H0 S0 S H σ ρ) (hr : ∀ d, r = .ok d → d = .none ∨ ∃ i, d = .int i) (h : RPost K mg G S H σ (r.bind f) Q)
    (k : ∀ d H', r = .ok d → Ex H H' → RPost K mg G S H' σ (f d) Q → Q' (partD d) H') : tO K mg G ρ r σ H Q' := by
  refine ⟨H0, S0, S, env, ?_⟩
  cases r with
  | ok d =>
    rcases hr d rfl with rfl | ⟨i, rfl⟩
    · exact fun H' x => k _ H' rfl x (RPost.mono h x)
    · exact fun H' x => k _ H' rfl x (RPost.mono h x)
  | ex c => exact h
  | no => exact h
/-- a part's function gives None or an int -/
def PartM (m : Ev → R) : Prop := ∀ ρ d, m ρ = .ok d → d = .none ∨ ∃ i, d = .int i
theorem partNone : PartM (mC .none) := fun ρ d h => by cases h; exact .inl rfl
theorem partInt {m : Ev → R} : PartM (mInt m) := fun ρ d h => by
  unfold mInt at h
  cases e : m ρ with
  | ok x =>
    rw [e] at h
    cases x with
    | int i => cases h; exact .inr ⟨i, rfl⟩
    | _ => cases h
  | ex c => rw [e] at h; cases h
  | no => rw [e] at h; cases h
theorem x_sl {lo hi : Option Expr} {ml mh : Ev → R} {p2 : Pos} (ha : XB X G a ma) (hl : XO X G lo ml) (hh : XO X G hi mh) (kl : PartM ml := by first | exact partNone | exact partInt) (kh : PartM mh := by first | exact partNone | exact partInt) :
    XE X G (.Subscript a (.Slice lo hi none p2) pos) (mSl ma ml mh) := ⟨fun ρ => (pe_slice ((sl_list.or sl_tupA).or C8.sl_txt) (ha.pe ρ) (hl.po ρ) (hh.po ρ)).imp fun σ H Q ⟨H0, S0, S, env, h⟩ =>
  tB_bind env h fun d H1 v _ x1 hv h1 => tO_bind (env.mono x1) (kl ρ) h1 fun l H2 _ x2 h2 => tO_bind ((env.mono x1).mono x2) (kh ρ) h2 fun u H3 _ x3 h3 => by
    have hv3 := (hv.mono x2).mono x3
    have sH := (((env.mono x1).mono x2).mono x3).sH
    cases d with
    | list ds =>
      obtain ⟨q, vs, rfl, hq, k⟩ := hv3.list
      exact .inl (.inl ⟨q, vs, rfl, hq, fun p np => post_new h3 np (new_lst sH np (cut_of k _ _))⟩)
    | tuple ds =>
      obtain ⟨q, vs, rfl, hq, k⟩ := hv3.tuple
      refine .inl (.inr ⟨q, vs, rfl, hq, fun z => ?_, fun _ p np => post_new h3 np (new_tup sH np (cut_of k _ _))⟩)
      have e : cutD ds (partD l) (partD u) = ds := by
        unfold cutD
        rw [← da_length k, z.1, z.2, List.drop_zero]
        exact List.take_of_length_le (by rw [da_length k]; omega)
      have h4 : Post X.K S H3 (.tuple ds) Q := by
        have h5 : Post X.K S H3 (.tuple (cutD ds (partD l) (partD u))) Q := h3
        rw [e] at h5
        exact h5
      rcases hv3 with hv3 | ⟨_, _, _, _, e2, _⟩
      · exact post_val h4 hv3
      · cases e2
    | str z =>
      obtain rfl := hv3.str
      by_cases hz : z.length ≤ sizeLine
      · rw [show slD (.str z) (partD l) (partD u) = _ from if_pos hz] at h3
        exact .inr ⟨z, rfl, hz, post_val h3 (.str _)⟩
      · rw [show slD (.str z) (partD l) (partD u) = _ from if_neg hz] at h3
        exact h3.elim
    | _ => exact h3.elim⟩
/-- xs[::-1] -/
def revD : D → R
  | .list ds => .ok (.list ds.reverse)
  | _ => .no
def mRev (ma : Ev → R) : Ev → R := fun ρ => (ma ρ).bind revD
theorem x_rev {k : Nat} {p1 p2 p3 : Pos} (ha : XB X G a ma) : XE X G (.Subscript a (.Slice none none (some (.UnaryOp .USub (.Constant (.int 1) k p1) p2)) p3) pos) (mRev ma) := ⟨fun ρ => (pe_revL (ha.pe ρ)).imp fun σ H Q ⟨H0, S0, S, env, h⟩ =>
  tB_bind env h fun d H1 v _ x1 hv h1 => by
    cases d with
    | list ds =>
      obtain ⟨q, vs, rfl, hq, k⟩ := hv.list
      exact ⟨q, vs, rfl, hq, fun p np => post_new h1 np (new_lst (env.mono x1).sH np (da_rev k))⟩
    | _ => exact h1.elim⟩

/-! ### the slots change -/
theorem set_at {α : Type} {l : List α} {i j : Nat} {x y : α} (h : (l.set i x)[j]? = some y) : (j = i ∧ y = x) ∨ (j ≠ i ∧ l[j]? = some y) := by
  by_cases e : j = i
  · subst e
    by_cases k : j < l.length
    · rw [List.getElem?_set_self k] at h
      exact .inl ⟨rfl, (Option.some.inj h).symm⟩
    · rw [List.set_eq_of_length_le (by omega)] at h
      exact absurd (List.getElem?_eq_some_iff.mp h).1 k
  · rw [List.getElem?_set_ne (Ne.symm e)] at h
    exact .inr ⟨e, h⟩
section
variable {xa : Option Hx} {H0 H H' : Hp} {S0 S : List Addr} {σ : L2.St} {ρ : Ev}
theorem EnvOk.setAny {o : Option V} {s : Sl} {i : Nat} (env : EnvOk K xa H0 S0 S H σ ρ) (h : SlR K xa S H (some o) s) (ho : ∀ l, s.ow = true → o = some (.ref l) → l ∉ S0 ∧ ∀ j, j ≠ i → ¬ OwnAt σ ρ j l) : EnvOk K xa H0 S0 S H (σ.set i o) (ρ.set i s) := by
  have back : ∀ j l, OwnAt (σ.set i o) (ρ.set i s) j l → (j = i ∧ o = some (.ref l) ∧ s.ow = true) ∨ (j ≠ i ∧ OwnAt σ ρ j l) := fun j l ⟨h1, xs, h2, h3⟩ => by
    rcases set_at h1 with ⟨e1, e2⟩ | ⟨e1, e2⟩
    · rcases set_at h2 with ⟨_, e4⟩ | ⟨e3, _⟩
      · exact .inl ⟨e1, e2.symm, by rw [← e4]; exact h3⟩
      · exact absurd e1 e3
    · rcases set_at h2 with ⟨e3, _⟩ | ⟨_, e4⟩
      · exact absurd e3 e1
      · exact .inr ⟨e1, e2, xs, e4, h3⟩
  refine ⟨by rw [List.length_set, List.length_set]; exact env.len, fun j x e => ?_, fun j k l h1 h2 => ?_, env.ex0, env.s0, env.sH, env.s0H, env.fr, fun j l h1 => ?_, env.sN, env.tb⟩
  · rcases set_at e with ⟨rfl, rfl⟩ | ⟨ne, e⟩
    · have hj : j < σ.length := by
        rw [env.len]
        have := (List.getElem?_eq_some_iff.mp e).1
        rw [List.length_set] at this
        exact this
      rw [List.getElem?_set_self hj]
      exact h
    · rw [List.getElem?_set_ne (Ne.symm ne)]
      exact env.sl j x e
  · rcases back j l h1 with ⟨rfl, e1, e2⟩ | ⟨n1, o1⟩
    · rcases back k l h2 with ⟨rfl, _⟩ | ⟨n2, o2⟩
      · rfl
      · exact absurd o2 ((ho l e2 e1).2 k n2)
    · rcases back k l h2 with ⟨rfl, e1, e2⟩ | ⟨n2, o2⟩
      · exact absurd o1 ((ho l e2 e1).2 j n1)
      · exact env.sep j k l o1 o2
  · rcases back j l h1 with ⟨rfl, e1, e2⟩ | ⟨n1, o1⟩
    · exact (ho l e2 e1).1
    · exact env.own j l o1
/-- what an own slot holds -/
theorem EnvOk.at_own {i : Nat} {l : Addr} (env : EnvOk K xa H0 S0 S H σ ρ) (h : OwnAt σ ρ i l) : l ∈ S ∧ ∃ o, H l = some o ∧ Lv o := by
  obtain ⟨h1, x, h2, h3⟩ := h
  have k := env.sl i x h2
  rw [h1] at k
  cases x with
  | ol xs =>
    obtain ⟨l', vs, e, m, hl, _⟩ := k
    cases e
    exact ⟨m, _, hl, trivial⟩
  | od es =>
    obtain ⟨l', vs, e, m, hl, _⟩ := k
    cases e
    exact ⟨m, _, hl, trivial⟩
  | ot es =>
    obtain ⟨l', vs, e, m, hl, _⟩ := k
    cases e
    exact ⟨m, _, hl, Lv.dic⟩
  | _ => cases h3
theorem EnvOk.setD {v : V} {d : D} {i : Nat} (env : EnvOk K xa H0 S0 S H σ ρ) (h : Dp K (hide S H) v d) : EnvOk K xa H0 S0 S H (σ.set i (some v)) (ρ.set i (.d d)) :=
  env.setAny ⟨v, rfl, h⟩ fun _ e _ => nomatch e
/-- a fresh object is hidden from now on -/
theorem hide_fresh {p : Addr} (np : H p = none) (x : Ex H H') : Ek (hide S H) (hide (p :: S) H') := fun b o e n => by
  by_cases h : b ∈ S
  · rw [hide_in h] at e; cases e
  · rw [hide_out h] at e
    have nb : b ≠ p := fun z => by rw [z, np] at e; cases e
    rw [hide_out (by simp [nb, h])]
    exact x.k b o e n
theorem EnvOk.more {p : Addr} (env : EnvOk K xa H0 S0 S H σ ρ) (np : H p = none) (x : Ex H H') {o : HO} (hp : H' p = some o) (hv : Lv o) : EnvOk K xa H0 S0 (p :: S) H' σ ρ := by
  have n0 : H0 p = none := fresh_back env.ex0 np
  refine ⟨env.len, fun i y e => ?_, env.sep, env.ex0.trans x, fun l m => List.mem_cons_of_mem _ (env.s0 l m), fun l m => ?_, env.s0H, fun l m => ?_, env.own, fun l m n => ?_, env.tb.mono x⟩
  · have h := env.sl i y e
    cases y with
    | un => trivial
    | d z => obtain ⟨v, e1, k⟩ := h; exact ⟨v, e1, dp_mono (hide_fresh np x) k⟩
    | ol xs => obtain ⟨l, vs, e1, m, hl, k⟩ := h; exact ⟨l, vs, e1, List.mem_cons_of_mem _ m, x.lst hl, da_mono (hide_fresh np x) k⟩
    | od xs => obtain ⟨l, vs, e1, m, hl, hk, k⟩ := h; exact ⟨l, vs, e1, List.mem_cons_of_mem _ m, x.k l _ hl (fun ps z => nomatch z), hk, da_mono (hide_fresh np x) k⟩
    | bd xs => obtain ⟨l, ob, es, e1, hl, hk, k⟩ := h; exact ⟨l, ob, es, e1, x.k l _ hl (fun ps z => nomatch z), hk, da_mono (hide_fresh np x) k⟩
    | ot xs => obtain ⟨l, vs, e1, m, hl, hs, hk, k⟩ := h; exact ⟨l, vs, e1, List.mem_cons_of_mem _ m, x.k l _ hl Lv.dic.tbl, hs, fun y hy => ex_t (hide_fresh np x) (hk y hy), k⟩
    | xc c => exact h
    | fn => obtain ⟨a, F, h1, h2, h3, h4⟩ := h; exact ⟨a, F, h1, h2, x.k a _ h3 lamO_ne, x.k F.c _ h4 LamX.codeO_ne⟩
  · rcases List.mem_cons.mp m with rfl | m
    · rw [hp]; simp
    · exact Ex.ne x (env.sH l m)
  · rcases List.mem_cons.mp m with rfl | m
    · exact .inr n0
    · exact env.fr l m
  · rcases List.mem_cons.mp m with rfl | m
    · exact ⟨o, hp, hv⟩
    · obtain ⟨u, e, v⟩ := env.sN l m n
      exact ⟨u, x.k l u e v.tbl, v⟩
/-- a name gets a fresh thing of the frame's own -/
theorem EnvOk.setOw {p : Addr} {s : Sl} {u : HO} {i : Nat} (env : EnvOk K xa H0 S0 S H σ ρ) (np : H p = none) (x : Ex H H') (hp : H' p = some u) (hv : Lv u) (h : SlR K xa (p :: S) H' (some (some (.ref p))) s) :
    EnvOk K xa H0 S0 (p :: S) H' (σ.set i (some (.ref p))) (ρ.set i s) := by
  refine (env.more np x hp hv).setAny h fun l e1 e2 => ?_
  cases e2
  refine ⟨fun z => ?_, fun j _ o => ?_⟩
  · exact env.s0H p z (fresh_back env.ex0 np)
  · obtain ⟨_, u, hl, _⟩ := env.at_own o
    rw [np] at hl
    cases hl
/-- a name gets a fresh list of the frame's own -/
theorem EnvOk.setO {p : Addr} {vs : List V} {ds : List D} {i : Nat} (env : EnvOk K xa H0 S0 S H σ ρ) (np : H p = none) (x : Ex H H') (hp : H' p = some (.lst vs)) (h : DpAll K (hide (p :: S) H') vs ds) :
    EnvOk K xa H0 S0 (p :: S) H' (σ.set i (some (.ref p))) (ρ.set i (.ol ds)) := env.setOw np x hp trivial ⟨p, vs, rfl, List.mem_cons_self, hp, h⟩
/-- an own thing changes -/
theorem EnvOk.updOw {l : Addr} {o : HO} {s s' : Sl} {i : Nat} (env : EnvOk K xa H0 S0 S H σ ρ) (hi : σ[i]? = some (some (.ref l))) (hr : ρ[i]? = some s) (hs : s.ow = true) (hv : Lv o) (h : SlR K xa S (upd H l o) (some (some (.ref l))) s') :
    EnvOk K xa H0 S0 S (upd H l o) σ (ρ.set i s') := by
  have oi : OwnAt σ ρ i l := ⟨hi, s, hr, hs⟩
  obtain ⟨lS, u, hu, vu⟩ := env.at_own oi
  have back : ∀ j m, OwnAt σ (ρ.set i s') j m → OwnAt σ ρ j m := fun j m ⟨h1, ys, h2, h3⟩ => by
    rcases set_at h2 with ⟨rfl, _⟩ | ⟨_, e⟩
    · exact ⟨h1, s, hr, hs⟩
    · exact ⟨h1, ys, e, h3⟩
  refine ⟨by rw [List.length_set]; exact env.len, fun j y e => ?_, fun j k m a b => env.sep j k m (back j m a) (back k m b), ?_, env.s0, fun m hm => ?_, env.s0H, env.fr, fun j m a => env.own j m (back j m a), fun m hm n => ?_, ?_⟩
  · rcases set_at e with ⟨rfl, rfl⟩ | ⟨ne, e⟩
    · rw [hi]; exact h
    · have k := env.sl j y e
      have nl : ∀ l', σ[j]? = some (some (.ref l')) → y.ow = true → l' ≠ l := fun l' e1 w z => ne (env.sep j i l ⟨by rw [e1, z], y, e, w⟩ oi)
      cases y with
      | un => trivial
      | d z => obtain ⟨v, e1, k⟩ := k; exact ⟨v, e1, by rw [hide_upd lS]; exact k⟩
      | ol ys =>
        obtain ⟨l', ws, e1, m, hl, k⟩ := k
        exact ⟨l', ws, e1, m, by rw [upd_ne (nl l' e1 rfl)]; exact hl, by rw [hide_upd lS]; exact k⟩
      | od ys =>
        obtain ⟨l', ws, e1, m, hl, hk, k⟩ := k
        exact ⟨l', ws, e1, m, by rw [upd_ne (nl l' e1 rfl)]; exact hl, hk, by rw [hide_upd lS]; exact k⟩
      | ot ys =>
        obtain ⟨l', ws, e1, m, hl, hs, hk, k⟩ := k
        exact ⟨l', ws, e1, m, by rw [upd_ne (nl l' e1 rfl)]; exact hl, hs, by rw [hide_upd lS]; exact hk, k⟩
      | xc c => exact k
      | bd ys =>
        obtain ⟨a, ob, es, h1, h2, hk, k⟩ := k
        exact ⟨a, ob, es, h1, by rw [upd_ne fun z => by rw [z, hu] at h2; exact vu.frz (Option.some.inj h2)]; exact h2, hk, by rw [hide_upd lS]; exact k⟩
      | fn =>
        obtain ⟨a, F, h1, h2, h3, h4⟩ := k
        exact ⟨a, F, h1, h2, by rw [upd_ne fun z => by rw [z, hu] at h3; exact vu.lam _ _ (Option.some.inj h3)]; exact h3, by rw [upd_ne fun z => by rw [z, hu] at h4; exact vu.code _ _ (Option.some.inj h4)]; exact h4⟩
  · exact env.ex0.mut ((env.fr l lS).resolve_left (env.own i l oi)) hu vu
  · by_cases z : m = l
    · rw [z, upd_same]; simp
    · rw [upd_ne z]; exact env.sH m hm
  · by_cases z : m = l
    · rw [z]; exact ⟨_, upd_same, hv⟩
    · rw [upd_ne z]; exact env.sN m hm n
  · exact env.tb.upd hu vu
/-- an own list changes -/
theorem EnvOk.updO {l : Addr} {vs : List V} {ds xs : List D} {i : Nat} (env : EnvOk K xa H0 S0 S H σ ρ) (hi : σ[i]? = some (some (.ref l))) (hr : ρ[i]? = some (.ol xs)) (h : DpAll K (hide S H) vs ds) :
    EnvOk K xa H0 S0 S (upd H l (.lst vs)) σ (ρ.set i (.ol ds)) := by
  have lS := (env.at_own ⟨hi, _, hr, rfl⟩).1
  exact env.updOw hi hr rfl trivial ⟨l, vs, rfl, lS, upd_same, by rw [hide_upd lS]; exact h⟩
/-- less is known -/
theorem EnvOk.weak {ρ' : Ev} (env : EnvOk K xa H0 S0 S H σ ρ) (hl : ρ'.length = ρ.length) (h : ∀ (i : Nat) (s : Sl), ρ'[i]? = some s → s = .un ∨ ρ[i]? = some s) : EnvOk K xa H0 S0 S H σ ρ' := by
  have back : ∀ j m, OwnAt σ ρ' j m → OwnAt σ ρ j m := fun j m ⟨h1, ys, h2, h3⟩ => by
    rcases h j _ h2 with e | e
    · rw [e] at h3; cases h3
    · exact ⟨h1, ys, e, h3⟩
  refine ⟨env.len.trans hl.symm, fun i s e => ?_, fun j k m a b => env.sep j k m (back j m a) (back k m b), env.ex0, env.s0, env.sH, env.s0H, env.fr, fun j m a => env.own j m (back j m a), env.sN, env.tb⟩
  rcases h i s e with rfl | e
  · trivial
  · exact env.sl i s e
/-! ### the base moves up: what is known now is kept from now on -/
def reb (S0 S : List Addr) (H : Hp) : Hp := fun a => if a ∈ S ∧ a ∉ S0 then none else H a
theorem reb_sub : Ex (reb S0 S H) H := .of fun a o e => by
  unfold reb at e
  split at e
  · cases e
  · exact e
theorem reb_hide : Ek (hide S H) (reb S0 S H) := fun a o e _ => by
  by_cases h : a ∈ S
  · rw [hide_in h] at e; cases e
  · rw [hide_out h] at e
    unfold reb
    rw [if_neg fun z => h z.1]
    exact e
theorem EnvOk.reb (env : EnvOk K xa H0 S0 S H σ ρ) : EnvOk K xa (FL.reb S0 S H) S0 S H σ ρ ∧ Ex H0 (FL.reb S0 S H) := by
  have out : ∀ a, H0 a ≠ none → FL.reb S0 S H a = H a := fun a e => by
    unfold FL.reb
    rw [if_neg]
    rintro ⟨h1, h2⟩
    rcases env.fr a h1 with h | h
    · exact h2 h
    · exact e h
  have x0 : Ex H0 (FL.reb S0 S H) := ⟨fun a o e n => by rw [out a (by rw [e]; simp)]; exact env.ex0.k a o e n, fun a e => by rw [out a e]; exact env.ex0.n a e, fun P t => by
    obtain ⟨ps0, b1, _⟩ := id t
    obtain ⟨ps, a1, a2, a3⟩ := env.ex0.t P t
    refine ⟨ps, by rw [out P (by rw [b1]; simp)]; exact a1, a2, fun pos cv hc => ?_⟩
    obtain ⟨c, c1, c2⟩ := a3 pos cv hc
    refine ⟨c, c1, ?_⟩
    unfold FL.reb
    rw [if_neg]
    · exact c2
    · rintro ⟨h1, h2⟩
      obtain ⟨o, e, v⟩ := env.sN c h1 h2
      exact v.code c _ (Option.some.inj (e.symm.trans c2))⟩
  refine ⟨⟨env.len, env.sl, env.sep, reb_sub, env.s0, env.sH, fun l m => Ex.ne x0 (env.s0H l m), fun l m => ?_, env.own, env.sN, env.tb⟩, x0⟩
  by_cases h : l ∈ S0
  · exact .inl h
  · right
    unfold FL.reb
    rw [if_pos ⟨m, h⟩]
theorem EnvOk.unreb {H1 : Hp} (env : EnvOk K xa H1 S0 S H σ ρ) (x : Ex H0 H1) (hs : ∀ l ∈ S0, H0 l ≠ none) : EnvOk K xa H0 S0 S H σ ρ :=
  have n0 : ∀ l, H1 l = none → H0 l = none := fun l z => fresh_back x z
  ⟨env.len, env.sl, env.sep, x.trans env.ex0, env.s0, env.sH, hs, fun l m => (env.fr l m).imp id (n0 l), env.own, env.sN, env.tb⟩
/-- what was to be seen at H is to be seen later, over the base moved up -/
theorem EnvOk.seen {S' : List Addr} {σ' : L2.St} {ρ' : Ev} (env : EnvOk K xa H0 S0 S H σ ρ) (env' : EnvOk K xa (FL.reb S0 S H) S0 S' H' σ' ρ') : Ek (hide S H) (hide S' H') := fun a o e nt => by
  by_cases h : a ∈ S
  · rw [hide_in h] at e; cases e
  · have e2 := reb_hide (S0 := S0) a o e nt
    rw [hide_out h] at e
    have h' : a ∉ S' := fun z => by
      rcases env'.fr a z with h1 | h1
      · exact h (env.s0 a h1)
      · rw [e2] at h1; cases h1
    rw [hide_out h']
    exact env'.ex0.k a o e2 nt
end
end
end FL
/-! statements, targets, loops -/
namespace FL
open PySem PySem.Spec PyProof.Rows L2
variable [TabNames]
/-- how a statement ends -/
inductive Out where
  | nx (ρ : Ev) | ret (d : D) | ex (c : Str) (ρ : Ev) | bk (ρ : Ev) | ct (ρ : Ev) | no
/-- what is said of a value that is returned: a new list, where one is wished -/
def RtL (lm : Bool) (K : PySem.W.Frag) (H0 : Hp) (S0 : List Addr) (H : Hp) (v : V) (d : D) : Prop := lm = true → ∃ p vs xs, v = .ref p ∧ d = .list xs ∧ H0 p = none ∧ H p = some (.lst vs) ∧ DpAll K (hide (p :: S0) H) vs xs
theorem rtL_f {K : PySem.W.Frag} {lm : Bool} {H0 H : Hp} {S0 : List Addr} {v : V} {d : D} (h : lm = false) : RtL lm K H0 S0 H v d := fun z => by rw [h] at z; cases z
def SPost (K : PySem.W.Frag) (mg : Str → Option Value) (G : Gx) (H0 : Hp) (S0 : List Addr) (o : Out) (Dn : Ends) : Prop :=
  match o with
  | .nx ρ => ∀ σ S H, EnvOk K G.xa H0 S0 S H σ ρ → Dn.nx σ H
  | .ret d => ∀ H v, Ex H0 H → Dp K (hide S0 H) v d → RtL G.lm K H0 S0 H v d → Dn.rt v H
  | .ex c ρ => ∀ C σ S H, mg c = some (.ref C) → EnvOk K G.xa H0 S0 S H σ ρ → G.W (.ref C) none σ H
  | .bk ρ => ∀ σ S H, EnvOk K G.xa H0 S0 S H σ ρ → Dn.bk σ H
  | .ct ρ => ∀ σ S H, EnvOk K G.xa H0 S0 S H σ ρ → Dn.ct σ H
  | .no => False
def tS (K : PySem.W.Frag) (mg : Str → Option Value) (G : Gx) (ρ : Ev) (o : Out) : TS := fun Dn σ H => ∃ H0 S0 S, EnvOk K G.xa H0 S0 S H σ ρ ∧ SPost K mg G H0 S0 o Dn
structure XS (X : Cx) (G : Gx) (st : Stmt) (m : Ev → Out) : Prop where
  ps : ∀ ρ, PS X st (tS X.K X.mg G ρ (m ρ))
structure XSs (X : Cx) (G : Gx) (st : List Stmt) (m : Ev → Out) : Prop where
  ps : ∀ ρ, PSs X st (tS X.K X.mg G ρ (m ρ))
section
variable {X : Cx} {K : PySem.W.Frag} {mg : Str → Option Value} {G : Gx} {pos : Pos} {a b c e : Expr} {es : List Expr} {st : Stmt} {rest : List Stmt} {ma mb mc : Ev → R} {m m1 m2 : Ev → Out}
/-- behind a statement: what follows it (nx), or out of it -/
def Out.then (o : Out) (k : Ev → Out) : Out := match o with
  | .nx ρ => k ρ
  | o => o
def mSeq (m1 m2 : Ev → Out) : Ev → Out := fun ρ => (m1 ρ).then m2
def mNx : Ev → Out := .nx
theorem tS_then {ρ : Ev} {o : Out} {k : Ev → Out} {Dn : Ends} {σ : L2.St} {H : Hp} {t : TS} (h : tS K mg G ρ (o.then k) Dn σ H) (ht : ∀ ρ', ∀ Dn σ H, tS K mg G ρ' (k ρ') Dn σ H → t Dn σ H) : tS K mg G ρ o { Dn with nx := t Dn } σ H := by
  obtain ⟨H0, S0, S, env, h⟩ := h
  refine ⟨H0, S0, S, env, ?_⟩
  cases o with
  | nx ρ' => exact fun σ' S' H' env' => ht ρ' Dn σ' H' ⟨H0, S0, S', env', h⟩
  | _ => exact h
theorem xs_cons (h1 : XS X G st m1) (h2 : XSs X G rest m2) : XSs X G (st :: rest) (mSeq m1 m2) := ⟨fun ρ => by
  have q : PSs X rest (fun Dn σ H => ∃ ρ', tS X.K X.mg G ρ' (m2 ρ') Dn σ H) := ⟨fun pins s σ H Dn I ⟨ρ', hw⟩ => (h2.ps ρ').run pins s σ H Dn I hw⟩
  exact (pss_cons (h1.ps ρ) q).imp fun Dn σ H h => tS_then (t := fun Dn σ H => ∃ ρ', tS X.K X.mg G ρ' (m2 ρ') Dn σ H) (k := m2) h fun ρ' _ _ _ h' => ⟨ρ', h'⟩⟩
theorem xs_one (h1 : XS X G st m1) : XSs X G [st] m1 := ⟨fun ρ => pss_one (h1.ps ρ)⟩
theorem xs_nil : XSs X G [] mNx := ⟨fun ρ => pss_nil.imp fun Dn σ H ⟨_, _, S, env, h⟩ => h σ S H env⟩
theorem s_pass : XS X G (.Pass pos) mNx := ⟨fun ρ => ps_pass.imp fun Dn σ H ⟨_, _, S, env, h⟩ => h σ S H env⟩
theorem s_break : XS X G (.Break pos) (fun ρ => .bk ρ) := ⟨fun ρ => ps_break.imp fun Dn σ H ⟨_, _, S, env, h⟩ => h σ S H env⟩
theorem s_continue : XS X G (.Continue pos) (fun ρ => .ct ρ) := ⟨fun ρ => ps_continue.imp fun Dn σ H ⟨_, _, S, env, h⟩ => h σ S H env⟩
theorem s_doc {x : Str} {j : Nat} {p2 : Pos} : XS X G (.Expr (.Constant (.str x) j pos) p2) mNx := ⟨fun ρ => ps_doc.imp fun Dn σ H ⟨_, _, S, env, h⟩ => h σ S H env⟩
/-- from a value on -/
def R.go (r : R) (ρ : Ev) (k : D → Out) : Out := match r with
  | .ok d => k d
  | .ex c => .ex c ρ
  | .no => .no
theorem go_tE {ρ : Ev} {r : R} {k : D → Out} {Dn : Ends} {σ : L2.St} {H H0 : Hp} {S0 S : List Addr} {Q : VK} (env : EnvOk K G.xa H0 S0 S H σ ρ) (h : SPost K mg G H0 S0 (r.go ρ k) Dn)
    (q : ∀ d H' v, r = .ok d → Ex H H' → Dp K (hide S H') v d → SPost K mg G H0 S0 (k d) Dn → Q v H') : tE K mg G ρ r σ H Q := by
  refine ⟨H0, S0, S, env, ?_⟩
  cases r with
  | ok d => exact fun H' v x hv => q d H' v rfl x hv h
  | ex c => exact fun C H' e x => h C σ S H' e (env.mono x)
  | no => exact h
theorem go_tB {ρ : Ev} {r : R} {k : D → Out} {Dn : Ends} {σ : L2.St} {H H0 : Hp} {S0 S : List Addr} {Q : VK} (env : EnvOk K G.xa H0 S0 S H σ ρ) (h : SPost K mg G H0 S0 (r.go ρ k) Dn)
    (q : ∀ d H' v, r = .ok d → Ex H H' → Bt K S H' v d → SPost K mg G H0 S0 (k d) Dn → Q v H') : tB K mg G ρ r σ H Q := by
  refine ⟨H0, S0, S, env, ?_⟩
  cases r with
  | ok d => exact fun H' v x hv => q d H' v rfl x hv h
  | ex c => exact fun C H' e x => h C σ S H' e (env.mono x)
  | no => exact h
/-- return e -/
def mRet (ma : Ev → R) : Ev → Out := fun ρ => (ma ρ).go ρ .ret
theorem s_ret (ha : XE X G a ma) (hlm : G.lm = false := by rfl) : XS X G (.Return (some a) pos) (mRet ma) := ⟨fun ρ => (ps_ret (ha.pe ρ)).imp fun Dn σ H ⟨H0, S0, S, env, h⟩ =>
  go_tE env h fun d H' v _ x hv h' => h' H' v (env.mono x).ex0 (dp_mono (hide_less env.s0) hv) (rtL_f hlm)⟩
theorem s_retN (hlm : G.lm = false := by rfl) : XS X G (.Return none pos) (fun _ => .ret .none) := ⟨fun ρ => ps_retN.imp fun Dn σ H ⟨H0, S0, S, env, h⟩ => h H .non env.ex0 .non (rtL_f hlm)⟩
/-- return x, x perhaps a list of the frame's own -/
def mRetO (i : Nat) : Ev → Out := fun ρ => match ρ[i]? with
  | some (.d x) => .ret x
  | some (.ol xs) => .ret (.list xs)
  | _ => .no
theorem s_retO (i : Nat) {x : Str} {p : Pos} (hN : X.N[i]? = some x := by rfl) (hv : Vis X.env.scope x := by first | exact Or.inl rfl | exact Or.inr (Or.inl rfl) | exact Or.inr (Or.inr rfl)) (hd : (x == ("__debug__" : Str)) = false := by decide)
    (hcd : (x == ("__classdict__" : Str)) = false := by decide) (hlm : G.lm = false := by rfl) : XS X G (.Return (some (.Name x p)) pos) (mRetO i) := ⟨fun ρ => (ps_ret (pe_var hN hv hd hcd)).imp fun Dn σ H ⟨H0, S0, S, env, h⟩ => by
  unfold mRetO at h
  split at h
  · rename_i y e
    obtain ⟨v, ev, k⟩ := env.sl i _ e
    exact ⟨v, ev, h H v env.ex0 (dp_mono (hide_less env.s0) k) (rtL_f hlm)⟩
  · rename_i y e
    obtain ⟨l, vs, ev, m, hl, k⟩ := env.sl i _ e
    exact ⟨.ref l, ev, h H _ env.ex0 (.lst (.inl (.inl (by rw [hide_out (env.own i l ⟨ev, _, e, rfl⟩)]; exact hl))) (da_mono (hide_less env.s0) k)) (rtL_f hlm)⟩
  · exact h.elim⟩
/-! ### if -/
def mIfS (mc : Ev → R) (m1 m2 : Ev → Out) : Ev → Out := fun ρ => (mc ρ).go ρ fun x => match x with
  | .bool true => m1 ρ
  | .bool false => m2 ρ
  | _ => .no
theorem s_if {b1 b2 : List Stmt} (hc : XT X G c mc) (h1 : XSs X G b1 m1) (h2 : XSs X G b2 m2) : XS X G (.If c b1 b2 pos) (mIfS mc m1 m2) := ⟨fun ρ => (ps_if (hc.pt ρ) (h1.ps ρ) (h2.ps ρ)).imp fun Dn σ H ⟨H0, S0, S, env, h⟩ => by
  unfold mIfS at h
  refine ⟨H0, S0, S, env, ?_⟩
  generalize mc ρ = r at h
  cases r with
  | ok d =>
    cases d with
    | bool b =>
      intro H' x
      cases b with
      | true => exact iteT ⟨H0, S0, S, env.mono x, h⟩
      | false => exact iteF ⟨H0, S0, S, env.mono x, h⟩
    | _ => exact h
  | ex c => exact fun C H' e x => h C σ S H' e (env.mono x)
  | no => exact h⟩
/-! ### targets -/
def tG (K : PySem.W.Frag) (xa : Option Hx) (js : List Nat) (ρ : Ev) (bt : D → Option Ev) : TG := fun v σ H Q => ∃ H0 S0 S d, EnvOk K xa H0 S0 S H σ ρ ∧ Dp K (hide S H) v d ∧ ∃ ρ', bt d = some ρ' ∧ ∀ σ', σ'.length = σ.length → (∀ i, i ∉ js → σ'[i]? = σ[i]?) → EnvOk K xa H0 S0 S H σ' ρ' → Q σ' H
structure XG (X : Cx) (xa : Option Hx) (tg : Expr) (js : List Nat) (bt : Ev → D → Option Ev) : Prop where
  pg : ∀ ρ, PG X tg (tG X.K xa js ρ (bt ρ))
def tGs (K : PySem.W.Frag) (xa : Option Hx) (js : List Nat) (ρ : Ev) (bt : List D → Option Ev) : TGs := fun vs σ H Q => ∃ H0 S0 S ds, EnvOk K xa H0 S0 S H σ ρ ∧ DpAll K (hide S H) vs ds ∧ ∃ ρ', bt ds = some ρ' ∧ ∀ σ', σ'.length = σ.length → (∀ i, i ∉ js → σ'[i]? = σ[i]?) → EnvOk K xa H0 S0 S H σ' ρ' → Q σ' H
structure XGs (X : Cx) (xa : Option Hx) (n : Nat) (tg : List Expr) (js : List Nat) (bt : Ev → List D → Option Ev) : Prop where
  pg : ∃ g, PGs X tg g ∧ ∀ ρ vs σ H Q, tGs X.K xa js ρ (bt ρ) vs σ H Q → g vs σ H Q
  ln : ∀ ρ ds ρ', bt ρ ds = some ρ' → ds.length = n
theorem _root_.L2.PG.imp {X : Cx} {e : Expr} {t t' : TG} (h : PG X e t) (i : ∀ v σ H Q, t' v σ H Q → t v σ H Q) : PG X e t' := ⟨fun pins s σ H v u Q I r hw => h.run pins s σ H v u Q I r (i v σ H Q hw)⟩
variable {xa : Option Hx}
def bName (i : Nat) : Ev → D → Option Ev := fun ρ d => some (ρ.set i (.d d))
theorem g_name (i : Nat) {x : Str} (hN : X.N.Nodup) (hi : X.N[i]? = some x := by rfl) (hx : Loc X.env.scope x := by first | exact Or.inl rfl | exact Or.inr rfl) (hf : X.fn x = true ∨ X.env.scope.names.lookup x = some .local := by first | exact .inl rfl | exact .inr rfl | assumption) :
    XG X xa (.Name x pos) [i] (bName i) := ⟨fun ρ => (pg_name hN hi hx hf).imp fun v σ H Q ⟨H0, S0, S, d, env, k, ρ', e, q⟩ => by
  cases e
  exact q _ (List.length_set ..) (fun j hj => List.getElem?_set_ne (fun z => hj (by simp [z]))) (env.setD k)⟩
def bsNil : Ev → List D → Option Ev := fun ρ ds => match ds with
  | [] => some ρ
  | _ => none
def bsCons (b1 : Ev → D → Option Ev) (b2 : Ev → List D → Option Ev) : Ev → List D → Option Ev := fun ρ ds => match ds with
  | d :: r => (b1 ρ d).bind fun ρ' => b2 ρ' r
  | _ => none
theorem gs_nil : XGs X xa 0 [] [] bsNil := ⟨⟨_, pgs_nil, fun ρ vs σ H Q ⟨H0, S0, S, ds, env, k, ρ', e, q⟩ => by
  cases ds with
  | nil =>
    cases k
    cases e
    exact ⟨rfl, q σ rfl (fun _ _ => rfl) env⟩
  | cons d r => cases e⟩, fun ρ ds ρ' e => by
  cases ds with
  | nil => rfl
  | cons d r => cases e⟩
theorem gs_cons {n : Nat} {j1 j2 : List Nat} {b1 : Ev → D → Option Ev} {b2 : Ev → List D → Option Ev} (h1 : XG X xa e j1 b1) (h2 : XGs X xa n es j2 b2) (hs : (assignEach (e :: es) X.env).map (·.2) = assign e X.env :: (assignEach es X.env).map (·.2) := by rfl) : XGs X xa (n + 1) (e :: es) (j1 ++ j2) (bsCons b1 b2) := by
  obtain ⟨g2, p2, k2⟩ := h2.pg
  have p1 : PG X e (fun v σ H Q => ∃ ρ, tG X.K xa j1 ρ (b1 ρ) v σ H Q) := ⟨fun pins s σ H v u Q I r ⟨ρ, hw⟩ => (h1.pg ρ).run pins s σ H v u Q I r hw⟩
  refine ⟨⟨_, pgs_cons p1 p2 hs, fun ρ vs σ H Q ⟨H0, S0, S, ds, env, k, ρ', e, q⟩ => ?_⟩, fun ρ ds ρ' e => ?_⟩
  · cases k with
    | nil => cases e
    | cons k1 kr =>
      obtain ⟨ρ1, e1, e2⟩ := Option.bind_eq_some_iff.mp e
      exact ⟨_, _, rfl, ρ, H0, S0, S, _, env, k1, ρ1, e1, fun σ' l' s' env' => k2 ρ1 _ σ' H Q ⟨H0, S0, S, _, env', kr, ρ', e2, fun σ2 l2 s2 env2 => q σ2 (l2.trans l') (fun i hi => (s2 i fun z => hi (List.mem_append_right _ z)).trans (s' i fun z => hi (List.mem_append_left _ z))) env2⟩⟩
  · cases ds with
    | nil => cases e
    | cons d r =>
      obtain ⟨ρ1, _, e2⟩ := Option.bind_eq_some_iff.mp e
      rw [List.length_cons, h2.ln _ _ _ e2]
/-- (a, b, ..) = a tuple -/
def bTup (n : Nat) (b : Ev → List D → Option Ev) : Ev → D → Option Ev := fun ρ d => match d with
  | .tuple ds => if ds.length = n then b ρ ds else none
  | _ => none
theorem g_tup {n k : Nat} {js : List Nat} {b : Ev → List D → Option Ev} (h : XGs X xa n es js b) (hc : X.calm = true := by rfl) (hn : (assignEach es X.env).length = n := by rfl) (hst : (assignEach es X.env).findIdx? (·.1) = none := by rfl) : XG X xa (.Tuple es k pos) js (bTup n b) := by
  obtain ⟨g, p, q⟩ := h.pg
  exact ⟨fun ρ => (pg_tup hc p hn hst).imp fun v σ H Q ⟨H0, S0, S, d, env, kd, ρ', e, w⟩ => by
    cases kd with
    | tup ht ka =>
      obtain ⟨el, e⟩ := (show _ ∧ b ρ _ = some ρ' by
        unfold bTup at e
        dsimp only at e
        split at e
        · rename_i z; exact ⟨z, e⟩
        · cases e)
      exact ⟨_, _, rfl, ex_t hide_sub ht, by rw [da_length ka]; exact el, q ρ _ σ H Q ⟨H0, S0, S, _, env, ka, ρ', e, w⟩⟩
    | _ => cases e⟩
/-! ### assignments -/
def R.goE (r : R) (ρ : Ev) (k : D → Option Ev) : Out := r.go ρ fun d => match k d with
  | some ρ' => .nx ρ'
  | none => .no
def mAsg (ma : Ev → R) (bt : Ev → D → Option Ev) : Ev → Out := fun ρ => (ma ρ).goE ρ (bt ρ)
theorem go_some {k : D → Option Ev} {d : D} {H0 : Hp} {S0 : List Addr} {Dn : Ends} (h : SPost K mg G H0 S0 (match k d with
  | some ρ' => Out.nx ρ'
  | none => .no) Dn) : ∃ ρ', k d = some ρ' ∧ ∀ σ S H, EnvOk K G.xa H0 S0 S H σ ρ' → Dn.nx σ H := by
  cases e : k d with
  | none => rw [e] at h; exact h.elim
  | some ρ' => rw [e] at h; exact ⟨ρ', rfl, h⟩
theorem s_asg {tg : Expr} {js : List Nat} {bt : Ev → D → Option Ev} (ha : XE X G a ma) (hg : XG X G.xa tg js bt) (hs : swapsWithSole [tg] a pos.line X.env = pure false := by rfl) (hw : swappedStores [tg] a X.env = pure none := by rfl)
    (h1 : (assignEach [tg] X.env).map (·.2) = [assign tg X.env] := by rfl) : XS X G (.Assign [tg] a pos) (mAsg ma bt) := by
  have p : PG X tg (fun v σ H Q => ∃ ρ, tG X.K G.xa js ρ (bt ρ) v σ H Q) := ⟨fun pins s σ H v u Q I r ⟨ρ, hw⟩ => (hg.pg ρ).run pins s σ H v u Q I r hw⟩
  exact ⟨fun ρ => (ps_asg (ha.pe ρ) p hs hw h1).imp fun Dn σ H ⟨H0, S0, S, env, h⟩ =>
    go_tE env h fun d H' v _ x hv h' => by
      obtain ⟨ρ', e, q⟩ := go_some h'
      exact ⟨ρ, H0, S0, S, d, env.mono x, hv, ρ', e, fun σ' _ _ env' => q σ' S H' env'⟩⟩
def mSet (i : Nat) (ma : Ev → R) : Ev → Out := fun ρ => (ma ρ).go ρ fun d => .nx (ρ.set i (.d d))
theorem s_set (i : Nat) {x : Str} {p : Pos} (hN : X.N.Nodup) (ha : XE X G a ma) (hi : X.N[i]? = some x := by rfl) (hx : Loc X.env.scope x := by first | exact Or.inl rfl | exact Or.inr rfl) (hs : swapsWith a (some (.Name x p)) pos.line X.env = pure false := by rfl)
    (hf : X.fn x = true ∨ X.env.scope.names.lookup x = some .local := by first | exact .inl rfl | exact .inr rfl | assumption) : XS X G (.Assign [.Name x p] a pos) (mSet i ma) := ⟨fun ρ => (ps_set hN hi hx (ha.pe ρ) hs hf).imp fun Dn σ H ⟨H0, S0, S, env, h⟩ =>
  go_tE env h fun d H' v _ x hv h' => h' _ S H' ((env.mono x).setD hv)⟩
/-- an expression that makes a list -/
def LPost (K : PySem.W.Frag) (mg : Str → Option Value) (G : Gx) (S : List Addr) (H : Hp) (σ : L2.St) (r : R) (Q : VK) : Prop :=
  match r with
  | .ok (.list ds) => ∀ H' p vs, H p = none → Ex H H' → H' p = some (.lst vs) → DpAll K (hide (p :: S) H') vs ds → Q (.ref p) H'
  | .ok _ => False
  | .ex c => ∀ C H', mg c = some (.ref C) → Ex H H' → G.W (.ref C) none σ H'
  | .no => False
def tL (K : PySem.W.Frag) (mg : Str → Option Value) (G : Gx) (ρ : Ev) (r : R) : TE := fun σ H Q => ∃ H0 S0 S, EnvOk K G.xa H0 S0 S H σ ρ ∧ LPost K mg G S H σ r Q
structure XL (X : Cx) (G : Gx) (e : Expr) (m : Ev → R) : Prop where
  pe : ∀ ρ, PE X e (tL X.K X.mg G ρ (m ρ))
  isl : ∀ ρ d, m ρ = .ok d → ∃ ds, d = .list ds
theorem XL.toE (h : XL X G e ma) : XE X G e ma := ⟨fun ρ => (h.pe ρ).imp fun σ H Q ⟨H0, S0, S, env, hw⟩ => by
  refine ⟨H0, S0, S, env, ?_⟩
  have il := h.isl ρ
  generalize ma ρ = r at hw il
  cases r with
  | ok d =>
    obtain ⟨ds, rfl⟩ := il d rfl
    intro H' p vs np x hp k
    refine hw H' (.ref p) x (.lst (.inl (.inl (by rw [hide_out (new_out env.sH np)]; exact hp))) (da_mono (hide_less fun l m => List.mem_cons_of_mem _ m) k))
  | ex c => exact hw
  | no => exact hw⟩
theorem lstD_list {r : R} {d : D} (h : r.bind lstD = .ok d) : ∃ ds, d = .list ds := by
  cases r with
  | ok x =>
    cases x with
    | list ds =>
      by_cases k : ds.length ≤ sizeLine
      · rw [show (R.ok (.list ds)).bind lstD = _ from if_pos k] at h; cases h; exact ⟨ds, rfl⟩
      · rw [show (R.ok (.list ds)).bind lstD = _ from if_neg k] at h; cases h
    | _ => cases h
  | ex c => cases h
  | no => cases h
theorem xl_lst {ms : Ev → R} (h : XA X G es ms) : XL X G (.List es pos) (mLst ms) := ⟨fun ρ => (pe_lst (h.pa ρ)).imp fun σ H Q ⟨H0, S0, S, env, h⟩ => by
  refine ⟨H0, S0, S, env, ?_⟩
  unfold mLst at h
  generalize ms ρ = r at h
  cases r with
  | ok d =>
    cases d with
    | list ds =>
      by_cases k : ds.length ≤ sizeLine
      · rw [show (R.ok (.list ds)).bind lstD = _ from if_pos k] at h
        exact fun H' vs x hv => ⟨by rw [da_length hv]; exact k, fun p np => h _ p vs (fresh_back x np) (x.trans (Ex.new np)) upd_same (da_mono (hide_fresh np (Ex.new np)) hv)⟩
      · rw [show (R.ok (.list ds)).bind lstD = _ from if_neg k] at h
        exact h.elim
    | _ => exact h.elim
  | ex c => exact h
  | no => exact h, fun ρ d h => lstD_list h⟩
/-- name = a list of the frame's own from now on -/
def mSetL (i : Nat) (ma : Ev → R) : Ev → Out := fun ρ => (ma ρ).go ρ fun d => match d with
  | .list ds => .nx (ρ.set i (.ol ds))
  | _ => .no
theorem s_setL (i : Nat) {x : Str} {p : Pos} (hN : X.N.Nodup) (ha : XL X G a ma) (hi : X.N[i]? = some x := by rfl) (hx : Loc X.env.scope x := by first | exact Or.inl rfl | exact Or.inr rfl) (hs : swapsWith a (some (.Name x p)) pos.line X.env = pure false := by rfl)
    (hf : X.fn x = true ∨ X.env.scope.names.lookup x = some .local := by first | exact .inl rfl | exact .inr rfl | assumption) : XS X G (.Assign [.Name x p] a pos) (mSetL i ma) := ⟨fun ρ => (ps_set hN hi hx (ha.pe ρ) hs hf).imp fun Dn σ H ⟨H0, S0, S, env, h⟩ => by
  refine ⟨H0, S0, S, env, ?_⟩
  have il := ha.isl ρ
  unfold mSetL at h
  generalize ma ρ = r at h il
  cases r with
  | ok d =>
    obtain ⟨ds, rfl⟩ := il d rfl
    exact fun H' p vs np xx hp k => h _ (p :: S) H' (env.setO np xx hp k)
  | ex c => exact fun C H' e xx => h C σ S H' e (env.mono xx)
  | no => exact h⟩
/-- x.append(e), x a list of the frame's own -/
def mApp (i : Nat) (ma : Ev → R) : Ev → Out := fun ρ => match ρ[i]? with
  | some (.ol xs) => (ma ρ).go ρ fun d => if xs.length < sizeLine then .nx (ρ.set i (.ol (xs ++ [d]))) else .no
  | _ => .no
/-- what a method call of an own list asks -/
theorem own_get {H0 H : Hp} {S0 S : List Addr} {σ : L2.St} {ρ : Ev} {i : Nat} {xs : List D} (env : EnvOk K xa H0 S0 S H σ ρ) (h : ρ[i]? = some (.ol xs)) : ∃ l vs, σ[i]? = some (some (.ref l)) ∧ l ∈ S ∧ H l = some (.lst vs) ∧ DpAll K (hide S H) vs xs := env.sl i _ h
theorem s_app (i : Nat) {x : Str} {p p2 p3 : Pos} (ha : XE X G a ma) (hi : X.N[i]? = some x := by rfl) (hv : Vis X.env.scope x := by first | exact Or.inl rfl | exact Or.inr (Or.inl rfl) | exact Or.inr (Or.inr rfl)) (hd : (x == ("__debug__" : Str)) = false := by decide)
    (hcd : (x == ("__classdict__" : Str)) = false := by decide) (hs : swapsWith (.Call (.Attribute (.Name x p) "append" p2) [a] [] p3) none pos.line X.env = pure false := by rfl)
    (hfew : ((backTo p3 (starEach [a] X.env)).all (fun x => !x.1) && (backToKw p3 (keywordEach [] X.env)).all (fun x => x.1.isSome) && decide ([a].length + ([] : List Keyword).length + (if ([] : List Keyword).isEmpty then 0 else 1) < 30)) = true := by rfl)
    (hline : (p2.endLine == p3.line) = true := by rfl) (hst : starEach [a] X.env = (false, eval a X.env) :: starEach [] X.env := by rfl) :
    XS X G (.Expr (.Call (.Attribute (.Name x p) "append" p2) [a] [] p3) pos) (mApp i ma) := ⟨fun ρ => (ps_expr (pe_bm PySem.F.plainAttrs_list PySem.F.slot_list_append PySem.F.type_list_append mt_append (pe_var hi hv hd hcd) (pa_cons (ha.pe ρ) pa_nil hst) (by rfl) hfew hline hst) hs).imp fun Dn σ H ⟨H0, S0, S, env, h⟩ => by
  unfold mApp at h
  split at h
  · rename_i xs er
    obtain ⟨l, vs, e1, lS, hl, k⟩ := own_get env er
    refine ⟨.ref l, e1, .inl ⟨rfl, _, .inl (.inl hl)⟩, go_tE env h fun d H' v _ xx hv h' => ?_⟩
    by_cases z : xs.length < sizeLine
    · rw [if_pos z] at h'
      exact ⟨l, vs, v, rfl, rfl, xx.lst hl, by rw [da_length k]; exact z, h' σ S _ ((env.mono xx).updO e1 er (da_app1 (da_mono (hide_mono xx) k) hv))⟩
    · rw [if_neg z] at h'
      exact h'.elim
  · exact h.elim⟩
/-- x.pop(), dropped -/
def mPop (i : Nat) : Ev → Out := fun ρ => match ρ[i]? with
  | some (.ol xs) => if xs = [] then .no else .nx (ρ.set i (.ol xs.dropLast))
  | _ => .no
theorem s_pop (i : Nat) {x : Str} {p p2 p3 : Pos} (hi : X.N[i]? = some x := by rfl) (hv : Vis X.env.scope x := by first | exact Or.inl rfl | exact Or.inr (Or.inl rfl) | exact Or.inr (Or.inr rfl)) (hd : (x == ("__debug__" : Str)) = false := by decide)
    (hcd : (x == ("__classdict__" : Str)) = false := by decide) (hs : swapsWith (.Call (.Attribute (.Name x p) "pop" p2) [] [] p3) none pos.line X.env = pure false := by rfl)
    (hline : (p2.endLine == p3.line) = true := by rfl) :
    XS X G (.Expr (.Call (.Attribute (.Name x p) "pop" p2) [] [] p3) pos) (mPop i) := ⟨fun ρ => (ps_expr (pe_bm0 PySem.F.plainAttrs_list PySem.F.slot_list_pop PySem.F.type_list_pop mt_pop (pe_var hi hv hd hcd) (by rfl) hline) hs).imp fun Dn σ H ⟨H0, S0, S, env, h⟩ => by
  unfold mPop at h
  split at h
  · rename_i xs er
    obtain ⟨l, vs, e1, lS, hl, k⟩ := own_get env er
    by_cases z : xs = []
    · rw [if_pos z] at h
      exact h.elim
    · rw [if_neg z] at h
      have n0 : vs.length ≠ 0 := by
        rw [da_length k]
        exact fun e => z (List.eq_nil_of_length_eq_zero e)
      refine ⟨.ref l, e1, .inl ⟨rfl, _, .inl (.inl hl)⟩, l, vs, vs[vs.length - 1]'(by omega), rfl, rfl, hl, by simp [show vs.length - 1 < vs.length by omega], h σ S _ (env.updO e1 er (da_dropLast k))⟩
  · exact h.elim⟩
/-- xs[k] = e, xs a list of the frame's own -/
def mSetIx (i : Nat) (mk ma : Ev → R) : Ev → Out := fun ρ => match ρ[i]? with
  | some (.ol xs) => (ma ρ).go ρ fun d => (mk ρ).go ρ fun k => match k with
    | .int n => match ixN xs.length n with
      | some j => .nx (ρ.set i (.ol (xs.set j d)))
      | none => .no
    | _ => .no
  | _ => .no
/-- name op= e -/
def mAug (i : Nat) (f : D → D → Option D) (ma : Ev → R) : Ev → Out := fun ρ => match ρ[i]? with
  | some (.d x) => (ma ρ).go ρ fun y => match f x y with
    | some z => .nx (ρ.set i (.d z))
    | none => .no
  | _ => .no
theorem s_aug (i : Nat) {x : Str} {op : Operator} {r : R2} {f : D → D → Option D} {p : Pos} (hN : X.N.Nodup) (ho : OpR X (inplaceOp op) r) (k : OpOk X.K r f) (ha : XE X G a ma) (hi : X.N[i]? = some x := by rfl) (hx : Loc X.env.scope x := by first | exact Or.inl rfl | exact Or.inr rfl)
    (hf : X.fn x = true ∨ X.env.scope.names.lookup x = some .local := by first | exact .inl rfl | exact .inr rfl | assumption) : XS X G (.AugAssign (.Name x p) op a pos) (mAug i f ma) := ⟨fun ρ => (ps_aug (ti := r) hN hi hx (ha.pe ρ) ho hf).imp fun Dn σ H ⟨H0, S0, S, env, h⟩ => by
  unfold mAug at h
  split at h
  · rename_i y er
    obtain ⟨v, ev, kv⟩ := env.sl i _ er
    refine ⟨v, ev, go_tE env h fun d H' u _ xx hu h' => ?_⟩
    have env' := env.mono xx
    split at h'
    · rename_i z ef
      exact k S H' y d z v u _ env'.sH (dp_mono (hide_mono xx) kv) hu ef fun H2 w x2 hw => h' _ S H2 ((env'.mono x2).setD hw)
    · exact h'.elim
  · exact h.elim⟩
theorem iop_mulXX : OpR X (inplaceOp .Mult) rMulX := opI fun _ _ _ _ _ _ _ hc q => imul_int q hc
def addI : D → D → Option D := fI fun i j => some (.int (i + j))
def subI : D → D → Option D := fI fun i j => some (.int (i - j))
def mulI : D → D → Option D := fI fun i j => if mulB i j then some (.int (i * j)) else none
theorem okAddI : OpOk K (rI0 fun i j => .int (i + j)) addI := by
  intro S H x y d v u Q hS hv hu e q
  cases hv with
  | int i =>
    cases hu with
    | int j => cases e; exact ⟨i, j, rfl, rfl, post_val q (.int _)⟩
    | _ => cases e
  | _ => cases hu <;> cases e
theorem okSubI : OpOk K (rI0 fun i j => .int (i - j)) subI := by
  intro S H x y d v u Q hS hv hu e q
  cases hv with
  | int i =>
    cases hu with
    | int j => cases e; exact ⟨i, j, rfl, rfl, post_val q (.int _)⟩
    | _ => cases e
  | _ => cases hu <;> cases e
theorem okMulI : OpOk K rMulX mulI := by
  intro S H x y d v u Q hS hv hu e q
  cases hv with
  | int i =>
    cases hu with
    | int j =>
      obtain ⟨k, rfl⟩ := ok_of_if e
      exact ⟨i, j, rfl, rfl, of_decide_eq_true k, post_val q (.int _)⟩
    | _ => cases e
  | _ => cases hu <;> cases e
theorem s_augAdd (i : Nat) {x : Str} {p : Pos} (hN : X.N.Nodup) (ha : XE X G a ma) (hi : X.N[i]? = some x := by rfl) (hx : Loc X.env.scope x := by first | exact Or.inl rfl | exact Or.inr rfl)
    (hf : X.fn x = true ∨ X.env.scope.names.lookup x = some .local := by first | exact .inl rfl | exact .inr rfl | assumption) : XS X G (.AugAssign (.Name x p) .Add a pos) (mAug i addI ma) := s_aug i hN iop_add okAddI ha hi hx hf
theorem s_augSub (i : Nat) {x : Str} {p : Pos} (hN : X.N.Nodup) (ha : XE X G a ma) (hi : X.N[i]? = some x := by rfl) (hx : Loc X.env.scope x := by first | exact Or.inl rfl | exact Or.inr rfl)
    (hf : X.fn x = true ∨ X.env.scope.names.lookup x = some .local := by first | exact .inl rfl | exact .inr rfl | assumption) : XS X G (.AugAssign (.Name x p) .Sub a pos) (mAug i subI ma) := s_aug i hN iop_sub okSubI ha hi hx hf
theorem s_augMul (i : Nat) {x : Str} {p : Pos} (hN : X.N.Nodup) (ha : XE X G a ma) (hi : X.N[i]? = some x := by rfl) (hx : Loc X.env.scope x := by first | exact Or.inl rfl | exact Or.inr rfl)
    (hf : X.fn x = true ∨ X.env.scope.names.lookup x = some .local := by first | exact .inl rfl | exact .inr rfl | assumption) : XS X G (.AugAssign (.Name x p) .Mult a pos) (mAug i mulI ma) := s_aug i hN iop_mulXX okMulI ha hi hx hf
/-! ### while -/
/-- a loop's turn again -/
def whileD (mc : Ev → R) (mb : Ev → Out) : Nat → Ev → Out
  | 0, _ => .no
  | n + 1, ρ => (mc ρ).go ρ fun x => match x with
    | .bool false => .nx ρ
    | .bool true => match mb ρ with
      | .nx ρ' => whileD mc mb n ρ'
      | .ct ρ' => whileD mc mb n ρ'
      | .bk ρ' => .nx ρ'
      | o => o
    | _ => .no
theorem s_while {body : List Stmt} (n : Nat) (hp : PassesOwn (model X.prog X.w) X.A X.env X.xe) (hc : XT X G c mc) (hb : XSs X G body m) : XS X G (.While c body [] pos) (whileD mc m n) := ⟨fun ρ => by
  have c' : PT X c (fun σ H Q => ∃ ρ, tT X.K X.mg G ρ (mc ρ) σ H Q) := ⟨fun pins s σ H Q I ⟨ρ, hw⟩ => (hc.pt ρ).run pins s σ H Q I hw⟩
  have b' : PSs X body (fun Dn σ H => ∃ ρ, tS X.K X.mg G ρ (m ρ) Dn σ H) := ⟨fun pins s σ H Dn I ⟨ρ, hw⟩ => (hb.ps ρ).run pins s σ H Dn I hw⟩
  refine (ps_while hp c' b').imp fun Dn σ H ⟨H0, S0, S, env, h⟩ => ?_
  refine ⟨fun k σ H => ∃ ρ S, EnvOk X.K G.xa H0 S0 S H σ ρ ∧ SPost X.K X.mg G H0 S0 (whileD mc m k ρ) Dn, ⟨n, ρ, S, env, h⟩, ?_⟩
  rintro k σ1 H1 ⟨ρ1, S1, env1, h1⟩
  cases k with
  | zero => exact h1.elim
  | succ k =>
    refine ⟨ρ1, H0, S0, S1, env1, ?_⟩
    unfold whileD at h1
    generalize mc ρ1 = r at h1
    cases r with
    | ok d =>
      cases d with
      | bool b =>
        intro H2 x2
        have env2 := env1.mono x2
        cases b with
        | false => exact iteF (h1 σ1 S1 H2 env2)
        | true =>
          refine iteT ⟨fun σ H => ∃ ρ S, EnvOk X.K G.xa H0 S0 S H σ ρ ∧ SPost X.K X.mg G H0 S0 (whileD mc m k ρ) Dn, fun σ' H' z => ⟨k, Nat.lt_succ_self k, z⟩, ρ1, H0, S0, S1, env2, ?_⟩
          have h2 : SPost X.K X.mg G H0 S0 (match m ρ1 with
            | .nx ρ' => whileD mc m k ρ'
            | .ct ρ' => whileD mc m k ρ'
            | .bk ρ' => .nx ρ'
            | o => o) Dn := h1
          generalize m ρ1 = o at h2
          cases o with
          | nx ρ' => exact fun σ S H env => ⟨ρ', S, env, h2⟩
          | ct ρ' => exact fun σ S H env => ⟨ρ', S, env, h2⟩
          | _ => exact h2
      | _ => exact h1.elim
    | ex c => exact fun C H' e x => h1 C σ1 S1 H' e (env1.mono x)
    | no => exact h1⟩
/-! ### for -/
/-- n turns give the items ds, whatever the frame's own lists become -/
structure WalkD (K : PySem.W.Frag) (S : List Addr) (H1 : Hp) (J : It) (ds : List D) : Prop where
  goes : ∀ i H, i < ds.length → Ek (hide S H1) H → J.go i H
  stops : ∀ H, Ek (hide S H1) H → J.stop ds.length H
  yields : ∀ i H x H', i < ds.length → Ek (hide S H1) H → J.yld i H x H' → Ex H H' ∧ ∃ d, ds[i]? = some d ∧ ∀ S', (∀ l ∈ S', H l ≠ none) → Ek (hide S H1) (hide S' H') → Dp K (hide S' H') x d
def IPost (K : PySem.W.Frag) (mg : Str → Option Value) (G : Gx) (S : List Addr) (H : Hp) (σ : L2.St) (r : R) (Q : It → Hp → Prop) : Prop :=
  match r with
  | .ok (.list ds) => ∀ H' J, Ex H H' → WalkD K S H' J ds → Q J H'
  | .ok _ => False
  | .ex c => ∀ C H', mg c = some (.ref C) → Ex H H' → G.W (.ref C) none σ H'
  | .no => False
def tI (K : PySem.W.Frag) (mg : Str → Option Value) (G : Gx) (ρ : Ev) (r : R) : TI := fun σ H Q => ∃ H0 S0 S, EnvOk K G.xa H0 S0 S H σ ρ ∧ IPost K mg G S H σ r Q
structure XI (X : Cx) (G : Gx) (tg e : Expr) (m : Ev → R) : Prop where
  pi : ∀ ρ, PI X tg e (tI X.K X.mg G ρ (m ρ))
def forD (bt : Ev → D → Option Ev) (mb : Ev → Out) : List D → Ev → Out
  | [], ρ => .nx ρ
  | d :: ds, ρ => match bt ρ d with
    | none => .no
    | some ρ1 => match mb ρ1 with
      | .nx ρ' => forD bt mb ds ρ'
      | .ct ρ' => forD bt mb ds ρ'
      | .bk ρ' => .nx ρ'
      | o => o
def itemsD : D → List D
  | .list ds => ds
  | _ => []
def mFor (mi : Ev → R) (bt : Ev → D → Option Ev) (mb : Ev → Out) : Ev → Out := fun ρ => (mi ρ).go ρ fun x => match x with
  | .list ds => forD bt mb ds ρ
  | _ => .no
theorem s_for {tg it : Expr} {body : List Stmt} {js : List Nat} {mi : Ev → R} {bt : Ev → D → Option Ev} (hp : PassesOwn (model X.prog X.w) X.A X.env X.xe) (hi : XI X G tg it mi) (hg : XG X G.xa tg js bt) (hb : XSs X G body m) (hc : X.calm = true := by rfl)
    (hs : ∀ x, foldedSetIterable it X.env x = pure x := by intro _; rfl) : XS X G (.For tg it body [] pos) (mFor mi bt m) := ⟨fun ρ => by
  have g' : PG X tg (fun v σ H Q => ∃ ρ, tG X.K G.xa js ρ (bt ρ) v σ H Q) := ⟨fun pins s σ H v u Q I r ⟨ρ, hw⟩ => (hg.pg ρ).run pins s σ H v u Q I r hw⟩
  have b' : PSs X body (fun Dn σ H => ∃ ρ, tS X.K X.mg G ρ (m ρ) Dn σ H) := ⟨fun pins s σ H Dn I ⟨ρ, hw⟩ => (hb.ps ρ).run pins s σ H Dn I hw⟩
  refine (ps_for hp hc (hi.pi ρ) g' b' hs).imp fun Dn σ H ⟨H0, S0, S, env, h⟩ => ?_
  refine ⟨H0, S0, S, env, ?_⟩
  unfold mFor at h
  generalize mi ρ = r at h
  cases r with
  | ok d =>
    cases d with
    | list ds =>
      intro H1 J x1 wd
      have env1 := env.mono x1
      obtain ⟨env2, x02⟩ := env1.reb
      refine ⟨fun i k σ H => k = ds.length - i ∧ i ≤ ds.length ∧ ∃ ρ S', EnvOk X.K G.xa (reb S0 S H1) S0 S' H σ ρ ∧ SPost X.K X.mg G H0 S0 (forD bt m (ds.drop i) ρ) Dn, ⟨ds.length, rfl, Nat.zero_le _, ρ, S, env2, h⟩, ?_⟩
      rintro i k σ3 H3 ⟨rfl, hi, ρ3, S3, env3, h3⟩
      have sn := env1.seen env3
      have sn' : Ek (hide S H1) H3 := sn.trans hide_sub
      by_cases hlt : i < ds.length
      · refine .inr ⟨wd.goes i H3 hlt sn', fun σ H => ∃ ρ S', EnvOk X.K G.xa (reb S0 S H1) S0 S' H σ ρ ∧ SPost X.K X.mg G H0 S0 (forD bt m (ds.drop (i + 1)) ρ) Dn, fun σ' H' z => ⟨ds.length - (i + 1), by omega, rfl, hlt, z⟩, fun y H4 hy => ?_⟩
        obtain ⟨x4, d, hd, kd⟩ := wd.yields i H3 y H4 hlt sn' hy
        have env4 := env3.mono x4
        have ed : ds.drop i = d :: ds.drop (i + 1) := by
          rw [List.drop_eq_getElem_cons hlt]
          congr 1
          rw [List.getElem?_eq_getElem hlt] at hd
          exact Option.some.inj hd
        rw [ed] at h3
        have h3' : SPost X.K X.mg G H0 S0 (match bt ρ3 d with
          | none => Out.no
          | some ρ1 => match m ρ1 with
            | .nx ρ' => forD bt m (ds.drop (i + 1)) ρ'
            | .ct ρ' => forD bt m (ds.drop (i + 1)) ρ'
            | .bk ρ' => .nx ρ'
            | o => o) Dn := h3
        cases eb : bt ρ3 d with
        | none => rw [eb] at h3'; exact h3'.elim
        | some ρ1 =>
          rw [eb] at h3'
          refine ⟨ρ3, reb S0 S H1, S0, S3, d, env4, kd S3 env3.sH (sn.trans (hide_mono x4)), ρ1, eb, fun σ5 _ _ env5 => ⟨ρ1, reb S0 S H1, S0, S3, env5, ?_⟩⟩
          have h4 : SPost X.K X.mg G H0 S0 (match m ρ1 with
            | .nx ρ' => forD bt m (ds.drop (i + 1)) ρ'
            | .ct ρ' => forD bt m (ds.drop (i + 1)) ρ'
            | .bk ρ' => .nx ρ'
            | o => o) Dn := h3'
          generalize m ρ1 = o at h4
          cases o with
          | nx ρ' => exact fun σ S H env => ⟨ρ', S, env, h4⟩
          | ct ρ' => exact fun σ S H env => ⟨ρ', S, env, h4⟩
          | bk ρ' => exact fun σ S H env' => h4 σ S H (env'.unreb x02 env1.s0H)
          | ret d =>
            refine fun H v xx hv hL => h4 H v (x02.trans xx) hv fun z => ?_
            obtain ⟨p, vs, xs, q1, q2, q3, q4, q5⟩ := hL z
            exact ⟨p, vs, xs, q1, q2, fresh_back x02 q3, q4, q5⟩
          | ex c ρ' => exact fun C σ S H e env' => h4 C σ S H e (env'.unreb x02 env1.s0H)
          | no => exact h4
      · have e : i = ds.length := by omega
        subst e
        refine .inl ⟨wd.stops H3 sn', ?_⟩
        rw [List.drop_length] at h3
        exact h3 σ3 S3 H3 (env3.unreb x02 env1.s0H)
    | _ => exact h
  | ex c => exact fun C H' e x => h C σ S H' e (env.mono x)
  | no => exact h⟩
end
end FL
/-! what is walked; comprehensions -/
namespace FL
open PySem PySem.Spec PyProof.Rows L2
variable [TabNames]
section
variable {X : Cx} {K : PySem.W.Frag} {mg : Str → Option Value} {G : Gx} {pos : Pos} {a b c e tg : Expr} {es : List Expr} {ma mb mc : Ev → R} {m m1 m2 : Ev → Out}
theorem _root_.L2.PI.imp {X : Cx} {tg e : Expr} {t t' : TI} (h : PI X tg e t) (i : ∀ σ H R, t' σ H R → t σ H R) : PI X tg e t' := ⟨fun pins s σ H R I hw => h.run pins s σ H R I (i σ H R hw)⟩
theorem walkL {S : List Addr} {H : Hp} {l : Addr} {vs : List V} {ds : List D} (h : SqL K (hide S H) l vs) (k : DpAll K (hide S H) vs ds) : WalkD K S H (Itl K l) ds := by
  have w := walk_list (K := K) (a := l) (xs := vs)
  have el := da_length k
  refine ⟨fun i H' hi x => w.goes i H' (by omega) (ex_l x h), fun H' x => by rw [← el]; exact w.stops H' (ex_l x h), fun i H' x H2 hi xx y => ?_⟩
  obtain ⟨e1, e2⟩ := w.yields i H' x H2 (by omega) (ex_l xx h) y
  subst e1
  have hd : ds[i]? = some ds[i] := List.getElem?_eq_getElem hi
  obtain ⟨v, ev, kv⟩ := da_get k hd
  rw [e2] at ev
  cases ev
  exact ⟨Ex.refl _, ds[i], hd, fun S' _ x' => dp_mono x' kv⟩
theorem walkT {S : List Addr} {H : Hp} {l : Addr} {vs : List V} {ds : List D} (h : SqT K (hide S H) l vs) (k : DpAll K (hide S H) vs ds) : WalkD K S H (Itt K l) ds := by
  have w := walk_tup (K := K) (a := l) (xs := vs)
  have el := da_length k
  refine ⟨fun i H' hi x => w.goes i H' (by omega) (ex_t x h), fun H' x => by rw [← el]; exact w.stops H' (ex_t x h), fun i H' x H2 hi xx y => ?_⟩
  obtain ⟨e1, e2⟩ := w.yields i H' x H2 (by omega) (ex_t xx h) y
  subst e1
  have hd : ds[i]? = some ds[i] := List.getElem?_eq_getElem hi
  obtain ⟨v, ev, kv⟩ := da_get k hd
  rw [e2] at ev
  cases ev
  exact ⟨Ex.refl _, ds[i], hd, fun S' _ x' => dp_mono x' kv⟩
def charsD (z : Str) : List D := z.cps.toList.map fun c => .str ⟨#[c]⟩
theorem walkS {S : List Addr} {H : Hp} {z : Str} : WalkD K S H (Its z) (charsD z) := by
  have w := walk_str (z := z)
  have el : (charsD z).length = z.cps.size := by simp [charsD]
  refine ⟨fun i H' hi x => w.goes i H' (by omega) trivial, fun H' x => by rw [el]; exact w.stops H' trivial, fun i H' x H2 hi xx y => ?_⟩
  obtain ⟨e1, c, e2, e3⟩ := w.yields i H' x H2 (by omega) trivial y
  subst e1
  subst e3
  exact ⟨Ex.refl _, .str ⟨#[c]⟩, by simp [charsD, e2], fun S' _ x' => .str _⟩
def rangeD (lo : Int) (n : Nat) : List D := (List.range n).map fun i => .int (lo + (i : Nat))
theorem walkR {S : List Addr} {H : Hp} {lo : Int} {n : Nat} : WalkD K S H (Itr lo n) (rangeD lo n) := by
  have el : (rangeD lo n).length = n := by simp [rangeD]
  refine ⟨fun i H' hi x => by rw [el] at hi; exact hi, fun H' x => by rw [el]; exact Nat.le_refl _, fun i H' x H2 hi xx y => ?_⟩
  obtain ⟨e1, e2⟩ := y
  subst e1
  subst e2
  rw [el] at hi
  exact ⟨Ex.refl _, .int (lo + i), by simp [rangeD, hi], fun S' _ x' => .int _⟩
def revRangeD (lo : Int) (n : Nat) : List D := (List.range n).map fun i => .int (lo + (n : Int) - 1 - (i : Nat))
theorem walkRR {S : List Addr} {H : Hp} {lo : Int} {n : Nat} : WalkD K S H (Itc (lo + (n : Int) - 1) (-1) n) (revRangeD lo n) := by
  have w := walk_rangeC (lo := lo + (n : Int) - 1) (c := -1) (n := n)
  have el : (revRangeD lo n).length = n := by simp [revRangeD]
  refine ⟨fun i H' hi x => w.goes i H' (by omega) trivial, fun H' x => by rw [el]; exact w.stops H' trivial, fun i H' x H2 hi xx y => ?_⟩
  rw [el] at hi
  obtain ⟨e1, e2⟩ := w.yields i H' x H2 hi trivial y
  subst e1
  subst e2
  refine ⟨Ex.refl _, .int (lo + (n : Int) - 1 - i), by simp [revRangeD, hi], fun S' _ x' => ?_⟩
  have e : lo + (n : Int) - 1 + (i : Nat) * -1 = lo + (n : Int) - 1 - (i : Nat) := by omega
  show Dp K (hide S' H2) (V.int (lo + (n : Int) - 1 + (i : Nat) * -1)) _
  rw [e]
  exact .int _
/-- pairs that are made at each turn -/
def zipD (xs ys : List D) : List D := List.zipWith (fun x y => .tuple [x, y]) xs ys
theorem walkPair {S : List Addr} {H : Hp} {J : It} {n : Nat} {Gd : Hp → Prop} {fx fy : Nat → Option V} {xs ys : List D} (w : Walk J n Gd (YPair fx fy)) (hg : ∀ H', Ek (hide S H) H' → Gd H') (hn : n = min xs.length ys.length)
    (hx : ∀ i v, fx i = some v → i < n → ∃ d, xs[i]? = some d ∧ Dp K (hide S H) v d) (hy : ∀ i v, fy i = some v → i < n → ∃ d, ys[i]? = some d ∧ Dp K (hide S H) v d) : WalkD K S H J (zipD xs ys) := by
  have el : (zipD xs ys).length = n := by simp [zipD, hn]
  refine ⟨fun i H' hi x => w.goes i H' (by omega) (hg H' x), fun H' x => by rw [el]; exact w.stops H' (hg H' x), fun i H' v H2 hi xx y => ?_⟩
  rw [el] at hi
  obtain ⟨T, x1, x2, rfl, nT, rfl, e1, e2⟩ := w.yields i H' v H2 hi (hg H' xx) y
  obtain ⟨d1, f1, k1⟩ := hx i x1 e1 hi
  obtain ⟨d2, f2, k2⟩ := hy i x2 e2 hi
  refine ⟨Ex.new nT, .tuple [d1, d2], by unfold zipD; rw [List.getElem?_zipWith, f1, f2], fun S' hS x' => ?_⟩
  have nS : T ∉ S' := fun z => hS T z nT
  exact .tup (.inl (.inl (by rw [hide_out nS, upd_same]))) (.cons (dp_mono x' k1) (.cons (dp_mono x' k2) .nil))
/-- an expression whose value is a list, a tuple or a text, walked -/
def iterD : D → R
  | .list ds => .ok (.list ds)
  | .tuple ds => .ok (.list ds)
  | .str z => .ok (.list (charsD z))
  | _ => .no
def mIter (ma : Ev → R) : Ev → R := fun ρ => (ma ρ).bind iterD
theorem x_iter (ha : XE X G e ma) : XI X G tg e (mIter ma) := ⟨fun ρ => by
  have h := ha.pe ρ
  unfold mIter
  generalize ma ρ = r at h ⊢
  cases r with
  | ok d =>
    cases d with
    | list ds =>
      refine (pi_list h).imp fun σ H Q ⟨H0, S0, S, env, hw⟩ => ⟨H0, S0, S, env, fun H' v x hv => ?_⟩
      cases hv with
      | lst hl k => exact ⟨_, rfl, ⟨_, ex_l hide_sub hl⟩, hw H' _ x (walkL hl k)⟩
    | tuple ds =>
      refine (pi_tup h).imp fun σ H Q ⟨H0, S0, S, env, hw⟩ => ⟨H0, S0, S, env, fun H' v x hv => ?_⟩
      cases hv with
      | tup hl k => exact ⟨_, rfl, ⟨_, ex_t hide_sub hl⟩, hw H' _ x (walkT hl k)⟩
    | str z =>
      refine (pi_str h).imp fun σ H Q ⟨H0, S0, S, env, hw⟩ => ⟨H0, S0, S, env, fun H' v x hv => ?_⟩
      cases hv with
      | str _ => exact ⟨_, rfl, hw H' _ x walkS⟩
    | _ => exact ⟨fun pins s σ H Q I ⟨H0, S0, S, env, hw⟩ => hw.elim⟩
  | ex c =>
    refine (pi_list h).imp fun σ H Q ⟨H0, S0, S, env, hw⟩ => ⟨H0, S0, S, env, hw⟩
  | no => exact ⟨fun pins s σ H Q I ⟨H0, S0, S, env, hw⟩ => hw.elim⟩⟩
theorem list_or (d : D) : (∃ ds, d = .list ds) ∨ ∀ ds, d ≠ .list ds := by
  cases d with
  | list ds => exact .inl ⟨ds, rfl⟩
  | _ => exact .inr fun _ z => by cases z
/-- a walk over what the arguments say: the rule asks their values -/
theorem iA_of {r : R} {f : D → R} {ρ : Ev} {σ : L2.St} {H H0 : Hp} {S0 S : List Addr} {Q : It → Hp → Prop} {Q' : List V → Hp → Prop} (env : EnvOk K G.xa H0 S0 S H σ ρ) (h : IPost K mg G S H σ (r.bind f) Q)
    (k : ∀ ds H' vs, r = .ok (.list ds) → Ex H H' → DpAll K (hide S H') vs ds → IPost K mg G S H' σ (f (.list ds)) Q → Q' vs H') (kn : ∀ d, (∀ ds, d ≠ .list ds) → f d = .no) : tAr K mg G ρ r σ H Q' := by
  refine ⟨H0, S0, S, env, ?_⟩
  cases r with
  | ok d =>
    rcases list_or d with ⟨ds, rfl⟩ | nd
    · refine fun H' vs x hv => k ds H' vs rfl x hv ?_
      have h' : IPost K mg G S H σ (f (.list ds)) Q := h
      generalize f (.list ds) = r2 at h'
      cases r2 with
      | ok y =>
        cases y with
        | list zs => exact fun H2 J x2 w => h' H2 J (x.trans x2) w
        | _ => exact h'
      | ex c => exact fun C H2 e x2 => h' C H2 e (x.trans x2)
      | no => exact h'
    · have h' : IPost K mg G S H σ (f d) Q := h
      rw [kn d nd] at h'
      exact h'.elim
  | ex c => exact h
  | no => exact h
def big62 (i : Int) : Bool := decide (-(2 ^ 62) ≤ i) && decide (i < 2 ^ 62)
def rng1D : D → R
  | .list [.int j] => if big62 j then .ok (.list (rangeD 0 j.toNat)) else .no
  | _ => .no
def rng2D : D → R
  | .list [.int i, .int j] => if big62 i && big62 j then .ok (.list (rangeD i (j - i).toNat)) else .no
  | _ => .no
def mRng1 (ms : Ev → R) : Ev → R := fun ρ => (ms ρ).bind rng1D
def mRng2 (ms : Ev → R) : Ev → R := fun ρ => (ms ρ).bind rng2D
theorem big62_ok {i : Int} (h : big62 i = true) : -(2 ^ 62) ≤ i ∧ i < 2 ^ 62 := by
  unfold big62 at h
  simp only [Bool.and_eq_true, decide_eq_true_eq] at h
  exact h
theorem ip_if {c : Prop} [Decidable c] {r : R} {S : List Addr} {H : Hp} {σ : L2.St} {Q : It → Hp → Prop} (h : IPost K mg G S H σ (if c then r else .no) Q) : c ∧ IPost K mg G S H σ r Q := by
  by_cases k : c
  · rw [if_pos k] at h; exact ⟨k, h⟩
  · rw [if_neg k] at h; exact h.elim
theorem x_rng1 {ms : Ev → R} {p : Pos} (ha : XA X G [a] ms) (hm : X.mg "range" = none) (hg : Gl X "range" := by rfl) (hs : starEach [a] X.env = [(false, eval a X.env)] := by rfl) : XI X G tg (.Call (.Name "range" p) [a] [] pos) (mRng1 ms) :=
  ⟨fun ρ => (pi_range1 hg hm (ha.pa ρ) hs).imp fun σ H Q ⟨H0, S0, S, env, h⟩ => iA_of env h (fun ds H' vs _ x hv h' => by
    cases hv with
    | nil => exact h'.elim
    | cons h1 h2 =>
      cases h2 with
      | nil =>
        cases h1 with
        | int j =>
          obtain ⟨k, h'⟩ := ip_if h'
          have k := big62_ok k
          exact ⟨j, rfl, k.1, k.2, h' H' _ (Ex.refl _) walkR⟩
        | _ => exact h'.elim
      | cons _ _ => cases h1 <;> exact h'.elim) (fun d hd => by cases d <;> first | rfl | exact (hd _ rfl).elim)⟩
theorem x_rng2 {ms : Ev → R} {p : Pos} (ha : XA X G [a, b] ms) (hm : X.mg "range" = none) (hg : Gl X "range" := by rfl) (hs : starEach [a, b] X.env = [(false, eval a X.env), (false, eval b X.env)] := by rfl) (hs2 : starEach [b] X.env = [(false, eval b X.env)] := by rfl) :
    XI X G tg (.Call (.Name "range" p) [a, b] [] pos) (mRng2 ms) :=
  ⟨fun ρ => (pi_range2 hg hm (ha.pa ρ) hs hs2).imp fun σ H Q ⟨H0, S0, S, env, h⟩ => iA_of env h (fun ds H' vs _ x hv h' => by
    cases hv with
    | nil => exact h'.elim
    | cons h1 h2 =>
      cases h2 with
      | nil => cases h1 <;> exact h'.elim
      | cons h2 h3 =>
        cases h3 with
        | nil =>
          cases h1 with
          | int i =>
            cases h2 with
            | int j =>
              obtain ⟨k, h'⟩ := ip_if h'
              rw [Bool.and_eq_true] at k
              have k1 := big62_ok k.1
              have k2 := big62_ok k.2
              exact ⟨i, j, rfl, ⟨k1.1, k1.2, k2.1, k2.2⟩, h' H' _ (Ex.refl _) walkR⟩
            | _ => exact h'.elim
          | _ => cases h2 <;> exact h'.elim
        | cons _ _ => cases h1 <;> cases h2 <;> exact h'.elim) (fun d hd => by cases d <;> first | rfl | exact (hd _ rfl).elim)⟩
def enumD : D → R
  | .list [.list ds] => .ok (.list (zipD (rangeD 0 ds.length) ds))
  | _ => .no
def mEnum (ms : Ev → R) : Ev → R := fun ρ => (ms ρ).bind enumD
theorem x_enum {ms : Ev → R} {p tpos : Pos} {elts : List Expr} {kk : Nat} (ha : XA X G [e] ms) (hm : X.mg "enumerate" = none) (hg : Gl X "enumerate" := by rfl) (hs : starEach [e] X.env = [(false, eval e X.env)] := by rfl) :
    XI X G (.Tuple elts kk tpos) (.Call (.Name "enumerate" p) [e] [] pos) (mEnum ms) :=
  ⟨fun ρ => (pi_enum hg hm (ha.pa ρ) hs).imp fun σ H Q ⟨H0, S0, S, env, h⟩ => iA_of env h (fun ds H' vs _ x hv h' => by
    cases hv with
    | nil => exact h'.elim
    | cons h1 h2 =>
      cases h2 with
      | nil =>
        cases h1 with
        | @lst l xs ds hl k =>
          refine ⟨l, xs, rfl, ex_l hide_sub hl, h' H' _ (Ex.refl _) ?_⟩
          have el := da_length k
          refine walkPair (walk_enum (K := X.K) (a := l) (xs := xs)) (fun H2 x2 => ex_l x2 hl) (by simp [rangeD, el]) (fun i v ev hi => ?_) (fun i v ev hi => ?_)
          · cases ev
            refine ⟨.int (0 + (i : Nat)), by simp [rangeD, show i < ds.length by omega], ?_⟩
            rw [Int.zero_add]
            exact .int _
          · have hd : ds[i]? = some (ds[i]'(by omega)) := List.getElem?_eq_getElem (by omega)
            obtain ⟨w, ew, kw⟩ := da_get k hd
            have ev' : xs[i]? = some v := ev
            rw [ev'] at ew
            cases ew
            exact ⟨_, hd, kw⟩
        | _ => exact h'.elim
      | cons _ _ => cases h1 <;> exact h'.elim) (fun d hd => by cases d <;> first | rfl | exact (hd _ rfl).elim)⟩
end
end FL
/-! comprehensions -/
namespace FL
open PySem PySem.Spec PyProof.Rows L2
variable [TabNames]
def wipeE (ρ : Ev) : List Nat → Ev
  | [] => ρ
  | v :: vs => (wipeE ρ vs).set v .un
section
variable {X : Cx} {K : PySem.W.Frag} {mg : Str → Option Value} {G : Gx} {pos : Pos} {a b c e tg : Expr} {es : List Expr} {ma mb mc : Ev → R} {m m1 m2 : Ev → Out}
variable {xa : Option Hx} {H0 H H' : Hp} {S0 S : List Addr} {σ : L2.St} {ρ : Ev}
theorem EnvOk.wipe (env : EnvOk K xa H0 S0 S H σ ρ) : ∀ vs : List Nat, EnvOk K xa H0 S0 S H (L2.wipe σ vs) (wipeE ρ vs)
  | [] => env
  | v :: vs => (EnvOk.wipe env vs).setAny trivial fun _ _ z => nomatch z
/-- a hidden object that is no slot's own changes -/
theorem EnvOk.updHid {l : Addr} {o u : HO} (env : EnvOk K xa H0 S0 S H σ ρ) (hl : l ∈ S) (h0 : H0 l = none) (hu : H l = some u) (vu : Lv u) (vo : Lv o) (no : ∀ i, ¬ OwnAt σ ρ i l) : EnvOk K xa H0 S0 S (upd H l o) σ ρ := by
  refine ⟨env.len, fun i s e => ?_, env.sep, env.ex0.mut h0 hu vu, env.s0, fun k hk => ?_, env.s0H, env.fr, env.own, fun k hk n => ?_, env.tb.upd hu vu⟩
  · have h := env.sl i s e
    cases s with
    | un => trivial
    | d z => obtain ⟨v, e1, k⟩ := h; exact ⟨v, e1, by rw [hide_upd hl]; exact k⟩
    | ol xs =>
      obtain ⟨p, vs, e1, mm, hp, k⟩ := h
      have np : p ≠ l := fun z => no i ⟨by rw [e1, z], _, e, rfl⟩
      exact ⟨p, vs, e1, mm, by rw [upd_ne np]; exact hp, by rw [hide_upd hl]; exact k⟩
    | od xs =>
      obtain ⟨p, vs, e1, mm, hp, hk, k⟩ := h
      have np : p ≠ l := fun z => no i ⟨by rw [e1, z], _, e, rfl⟩
      exact ⟨p, vs, e1, mm, by rw [upd_ne np]; exact hp, hk, by rw [hide_upd hl]; exact k⟩
    | ot xs =>
      obtain ⟨p, vs, e1, mm, hp, hs, hk, k⟩ := h
      have np : p ≠ l := fun z => no i ⟨by rw [e1, z], _, e, rfl⟩
      exact ⟨p, vs, e1, mm, by rw [upd_ne np]; exact hp, hs, by rw [hide_upd hl]; exact hk, k⟩
    | xc c => exact h
    | bd xs =>
      obtain ⟨a, ob, es, h1, h2, hk, k⟩ := h
      exact ⟨a, ob, es, h1, by rw [upd_ne fun z => by rw [z, hu] at h2; exact vu.frz (Option.some.inj h2)]; exact h2, hk, by rw [hide_upd hl]; exact k⟩
    | fn =>
      obtain ⟨a, F, h1, h2, h3, h4⟩ := h
      exact ⟨a, F, h1, h2, by rw [upd_ne fun z => by rw [z, hu] at h3; exact vu.lam _ _ (Option.some.inj h3)]; exact h3, by rw [upd_ne fun z => by rw [z, hu] at h4; exact vu.code _ _ (Option.some.inj h4)]; exact h4⟩
  · by_cases z : k = l
    · rw [z, upd_same]; simp
    · rw [upd_ne z]; exact env.sH k hk
  · by_cases z : k = l
    · rw [z]; exact ⟨_, upd_same, vo⟩
    · rw [upd_ne z]; exact env.sN k hk n
theorem wipe_get {σ σ' : L2.St} (hl : σ'.length = σ.length) : ∀ {vs : List Nat}, (∀ i, i ∉ vs → σ'[i]? = σ[i]?) → L2.wipe σ' vs = L2.wipe σ vs := by
  intro vs h
  have g : ∀ (σ : L2.St) (vs : List Nat) (i : Nat), (L2.wipe σ vs)[i]? = if i ∈ vs ∧ i < σ.length then some none else σ[i]? := by
    intro σ vs
    induction vs with
    | nil => intro i; rw [if_neg (by simp)]; rfl
    | cons v vs ih =>
      intro i
      unfold L2.wipe
      by_cases e : i = v
      · subst e
        by_cases k : i < σ.length
        · rw [List.getElem?_set_self (by rw [wipe_length]; exact k), if_pos ⟨by simp, k⟩]
        · rw [if_neg fun z => k z.2, List.getElem?_eq_none (by rw [List.length_set, wipe_length]; omega), List.getElem?_eq_none (by omega)]
      · rw [List.getElem?_set_ne (Ne.symm e), ih i]
        by_cases k : i ∈ vs ∧ i < σ.length
        · rw [if_pos k, if_pos ⟨List.mem_cons_of_mem _ k.1, k.2⟩]
        · rw [if_neg k, if_neg fun z => k ⟨(List.mem_cons.mp z.1).resolve_left e, z.2⟩]
  apply List.ext_getElem?
  intro i
  rw [g, g, hl]
  by_cases k : i ∈ vs ∧ i < σ.length
  · rw [if_pos k, if_pos k]
  · rw [if_neg k, if_neg k]
    by_cases z : i ∈ vs
    · have k' : ¬ i < σ.length := fun q => k ⟨z, q⟩
      rw [List.getElem?_eq_none (by omega), List.getElem?_eq_none (by omega)]
    · exact h i z
theorem wipe_idem (σ : L2.St) (vs : List Nat) : L2.wipe (L2.wipe σ vs) vs = L2.wipe σ vs :=
  wipe_get (wipe_length σ vs) fun i hi => by
    induction vs with
    | nil => rfl
    | cons v vs ih =>
      unfold L2.wipe
      rw [List.getElem?_set_ne fun z => hi (by simp [z])]
      exact ih fun z => hi (List.mem_cons_of_mem _ z)
structure XTs (X : Cx) (G : Gx) (es : List Expr) (m : Ev → R) : Prop where
  pt : ∀ ρ, PTs X es (tT X.K X.mg G ρ (m ρ))
theorem _root_.L2.PTs.imp {X : Cx} {e : List Expr} {t t' : TT} (h : PTs X e t) (i : ∀ σ H Q, t' σ H Q → t σ H Q) : PTs X e t' := ⟨fun pins s σ H Q I hw => h.run pins s σ H Q I (i σ H Q hw)⟩
theorem xts_nil : XTs X G [] (mC (.bool true)) := ⟨fun ρ => pts_nil.imp fun σ H Q ⟨_, _, _, _, h⟩ => h H (Ex.refl H)⟩
theorem xts_one (h : XT X G c mc) : XTs X G [c] mc := ⟨fun ρ => pts_one (h.pt ρ)⟩
/-- what a comprehension makes of the items -/
def compD (bt : D → Option Ev) (mt me : Ev → R) : List D → R
  | [] => .ok (.list [])
  | d :: ds => match bt d with
    | none => .no
    | some ρ1 => (mt ρ1).bind fun b => match b with
      | .bool true => (me ρ1).bind fun y => (compD bt mt me ds).bind fun r => consD y r
      | .bool false => compD bt mt me ds
      | _ => .no
/-- no exception leaves a comprehension -/
def R.calm (r : R) : R := match r with
  | .ex _ => .no
  | r => r
def mComp (mi : Ev → R) (bt : Ev → D → Option Ev) (mt me : Ev → R) (vs : List Nat) : Ev → R := fun ρ => (mi ρ).bind fun x => match x with
  | .list ds => if ds.length ≤ sizeLine then (compD (bt (wipeE ρ vs)) mt me ds).calm else .no
  | _ => .no
theorem compD_cons {bt : D → Option Ev} {mt me : Ev → R} {d : D} {ds rs : List D} (h : compD bt mt me (d :: ds) = .ok (.list rs)) :
    ∃ ρ1, bt d = some ρ1 ∧ ((mt ρ1 = .ok (.bool true) ∧ ∃ y rs', me ρ1 = .ok y ∧ compD bt mt me ds = .ok (.list rs') ∧ rs = y :: rs') ∨ (mt ρ1 = .ok (.bool false) ∧ compD bt mt me ds = .ok (.list rs))) := by
  unfold compD at h
  cases eb : bt d with
  | none => rw [eb] at h; cases h
  | some ρ1 =>
    rw [eb] at h
    refine ⟨ρ1, rfl, ?_⟩
    dsimp only at h
    cases et : mt ρ1 with
    | ok z =>
      rw [et] at h
      cases z with
      | bool b =>
        cases b with
        | true =>
          refine .inl ⟨rfl, ?_⟩
          change ((me ρ1).bind fun y => (compD bt mt me ds).bind fun r => consD y r) = _ at h
          cases em : me ρ1 with
          | ok y =>
            rw [em] at h
            change ((compD bt mt me ds).bind fun r => consD y r) = _ at h
            cases ec : compD bt mt me ds with
            | ok r =>
              rw [ec] at h
              cases r with
              | list rs' =>
                change R.ok (.list (y :: rs')) = _ at h
                cases h
                exact ⟨y, rs', rfl, rfl, rfl⟩
              | _ => cases h
            | ex c => rw [ec] at h; cases h
            | no => rw [ec] at h; cases h
          | ex c => rw [em] at h; cases h
          | no => rw [em] at h; cases h
        | false => exact .inr ⟨rfl, h⟩
      | _ => cases h
    | ex c => rw [et] at h; cases h
    | no => rw [et] at h; cases h
theorem compD_list {bt : D → Option Ev} {mt me : Ev → R} : ∀ {ds : List D} {d : D}, compD bt mt me ds = .ok d → ∃ rs, d = .list rs
  | [], d, h => by cases h; exact ⟨[], rfl⟩
  | x :: ds, d, h => by
    unfold compD at h
    cases eb : bt x with
    | none => rw [eb] at h; cases h
    | some ρ1 =>
      rw [eb] at h
      dsimp only at h
      cases et : mt ρ1 with
      | ok z =>
        rw [et] at h
        cases z with
        | bool b =>
          cases b with
          | true =>
            change ((me ρ1).bind fun y => (compD bt mt me ds).bind fun r => consD y r) = _ at h
            cases em : me ρ1 with
            | ok y =>
              rw [em] at h
              change ((compD bt mt me ds).bind fun r => consD y r) = _ at h
              cases ec : compD bt mt me ds with
              | ok r =>
                rw [ec] at h
                cases r with
                | list rs' => exact ⟨y :: rs', by change R.ok (.list (y :: rs')) = _ at h; cases h; rfl⟩
                | _ => cases h
              | ex c => rw [ec] at h; cases h
              | no => rw [ec] at h; cases h
            | ex c => rw [em] at h; cases h
            | no => rw [em] at h; cases h
          | false => exact compD_list (ds := ds) h
        | _ => cases h
      | ex c => rw [et] at h; cases h
      | no => rw [et] at h; cases h
/-- the wishes within a block -/
abbrev Gx.blk (G : Gx) : Gx := { W := fun _ _ _ _ => False, xa := G.xa, lm := G.lm }
theorem tLc_of {js vs : List Nat} {mi mt me : Ev → R} {bt : Ev → D → Option Ev} {Q : VK} (hj : ∀ j ∈ js, j ∈ vs) (hw : tL K mg G ρ (mComp mi bt mt me vs ρ) σ H Q) :
    tLc (tI K mg G ρ (mi ρ)) (fun v σ H Q => ∃ ρ, tG K G.xa js ρ (bt ρ) v σ H Q) (fun σ H Q => ∃ ρ, tT K mg G.blk ρ (mt ρ) σ H Q) (fun σ H Q => ∃ ρ, tE K mg G.blk ρ (me ρ) σ H Q) vs σ H Q := by
  obtain ⟨H0, S0, S, env, h⟩ := hw
  refine ⟨H0, S0, S, env, ?_⟩
  unfold mComp at h
  generalize mi ρ = r at h
  cases r with
  | ok x =>
    cases x with
    | list ds =>
      intro H1 J x1 wd D nD
      have h1 : LPost K mg G S H σ (if ds.length ≤ sizeLine then (compD (bt (wipeE ρ vs)) mt me ds).calm else .no) Q := h
      by_cases hz : ds.length ≤ sizeLine
      · rw [if_pos hz] at h1
        cases ec : compD (bt (wipeE ρ vs)) mt me ds with
        | ex c => rw [ec] at h1; exact h1.elim
        | no => rw [ec] at h1; exact h1.elim
        | ok y =>
          obtain ⟨ys, rfl⟩ := compD_list ec
          rw [ec] at h1
          have env1 := env.mono x1
          have n0 : H0 D = none := fresh_back env1.ex0 nD
          have noD : ∀ i, ¬ OwnAt (L2.wipe σ vs) (wipeE ρ vs) i D := fun i o => by
            obtain ⟨_, u, hl, _⟩ := (env1.wipe vs).at_own o
            rw [nD] at hl
            cases hl
          have envS := ((env1.wipe vs).more (p := D) nD (Ex.new (o := .lst []) nD) upd_same trivial)
          have x2 : Ek (hide S H1) (hide (D :: S) (upd H1 D (.lst []))) := hide_fresh nD (Ex.new nD)
          refine ⟨fun i k H2 => k = ds.length - i ∧ i ≤ ds.length ∧ ∃ acc outs rest, EnvOk K G.xa H0 S0 (D :: S) H2 (L2.wipe σ vs) (wipeE ρ vs) ∧ H2 D = some (.lst acc) ∧ DpAll K (hide (D :: S) H2) acc outs ∧
            compD (bt (wipeE ρ vs)) mt me (ds.drop i) = .ok (.list rest) ∧ outs ++ rest = ys ∧ outs.length ≤ i ∧ Ex H1 H2, ⟨ds.length, rfl, Nat.zero_le _, [], [], ys, envS, upd_same, .nil, ec, rfl, Nat.le_refl _, Ex.new nD⟩, ?_⟩
          rintro i k H2 ⟨rfl, hi, acc, outs, rest, env2, hD, ka, er, ey, ho, kp⟩
          have sn : Ek (hide S H1) (hide (D :: S) H2) := hide_fresh nD kp
          by_cases hlt : i < ds.length
          · refine .inr ⟨wd.goes i H2 hlt (sn.trans hide_sub), fun H3 => ∃ acc outs rest, EnvOk K G.xa H0 S0 (D :: S) H3 (L2.wipe σ vs) (wipeE ρ vs) ∧ H3 D = some (.lst acc) ∧ DpAll K (hide (D :: S) H3) acc outs ∧
              compD (bt (wipeE ρ vs)) mt me (ds.drop (i + 1)) = .ok (.list rest) ∧ outs ++ rest = ys ∧ outs.length ≤ i + 1 ∧ Ex H1 H3, fun H3 z => ⟨ds.length - (i + 1), by omega, rfl, hlt, z⟩, fun v H3 hy => ?_⟩
            obtain ⟨x3, d, hd, kd⟩ := wd.yields i H2 v H3 hlt (sn.trans hide_sub) hy
            have ed : ds.drop i = d :: ds.drop (i + 1) := by
              rw [List.drop_eq_getElem_cons hlt]
              congr 1
              rw [List.getElem?_eq_getElem hlt] at hd
              exact Option.some.inj hd
            rw [ed] at er
            obtain ⟨ρ1, eb, hb⟩ := compD_cons er
            have env3 := env2.mono x3
            refine ⟨wipeE ρ vs, H0, S0, D :: S, d, env3, kd (D :: S) env2.sH (sn.trans (hide_mono x3)), ρ1, eb, fun σ4 l4 s4 env4 => ⟨?_, ρ1, H0, S0, D :: S, env4, ?_⟩⟩
            · exact (wipe_get l4 fun j hj' => s4 j fun z => hj' (hj j z)).trans (wipe_idem σ vs)
            · rcases hb with ⟨et, y, rs', em, ec', rfl⟩ | ⟨et, ec'⟩
              · rw [et]
                intro H4 x4
                refine iteT ⟨ρ1, H0, S0, D :: S, env4.mono x4, ?_⟩
                rw [em]
                intro H5 w x5 kw
                have x35 : Ex H2 H5 := (x3.trans x4).trans x5
                refine ⟨acc, x35.lst hD, by rw [da_length ka]; omega, acc ++ [w], outs ++ [y], rs', (env2.mono x35).updHid List.mem_cons_self n0 (x35.lst hD) trivial trivial noD, upd_same, ?_, ec', by rw [List.append_assoc]; exact ey, by rw [List.length_append, List.length_singleton]; omega, (kp.trans x35).mut nD (x35.lst hD) trivial⟩
                rw [hide_upd List.mem_cons_self]
                exact da_app1 (da_mono (hide_mono x35) ka) kw
              · rw [et]
                intro H4 x4
                have x34 : Ex H2 H4 := x3.trans x4
                exact iteF ⟨acc, outs, rest, env2.mono x34, x34.lst hD, da_mono (hide_mono x34) ka, ec', ey, by omega, kp.trans x34⟩
          · have e : i = ds.length := by omega
            subst e
            rw [List.drop_length] at er
            have er' : rest = [] := by
              have z : R.ok (PyData.list []) = .ok (.list rest) := er
              cases z
              rfl
            subst er'
            rw [List.append_nil] at ey
            subst ey
            refine .inl ⟨wd.stops H2 (sn.trans hide_sub), h1 H2 D acc (fresh_back x1 nD) (x1.trans kp) hD ka⟩
      · rw [if_neg hz] at h1
        exact h1.elim
    | _ => exact h
  | ex c => exact h
  | no => exact h
theorem mComp_list {vs : List Nat} {mi mt me : Ev → R} {bt : Ev → D → Option Ev} {ρ : Ev} {d : D} (h : mComp mi bt mt me vs ρ = .ok d) : ∃ ds, d = .list ds := by
  unfold mComp at h
  cases er : mi ρ with
  | ok x =>
    rw [er] at h
    cases x with
    | list ds =>
      change (if ds.length ≤ sizeLine then (compD (bt (wipeE ρ vs)) mt me ds).calm else .no) = .ok d at h
      by_cases hz : ds.length ≤ sizeLine
      · rw [if_pos hz] at h
        cases ec : compD (bt (wipeE ρ vs)) mt me ds with
        | ok y => rw [ec] at h; cases h; exact compD_list ec
        | ex c => rw [ec] at h; cases h
        | no => rw [ec] at h; cases h
      · rw [if_neg hz] at h; cases h
    | _ => cases h
  | ex c => rw [er] at h; cases h
  | no => rw [er] at h; cases h
/-- a made list, named -/
theorem setL_of {i : Nat} {ma : Ev → R} {Dn : Ends} (env : EnvOk K G.xa H0 S0 S H σ ρ) (hl : ∀ ρ d, ma ρ = .ok d → ∃ ds, d = .list ds) (h : SPost K mg G H0 S0 (mSetL i ma ρ) Dn) : tL K mg G ρ (ma ρ) σ H (fun x H1 => gName i x σ H1 Dn.nx) := by
  refine ⟨H0, S0, S, env, ?_⟩
  have il := hl ρ
  unfold mSetL at h
  generalize ma ρ = r at h il
  cases r with
  | ok d =>
    obtain ⟨ds, rfl⟩ := il d rfl
    exact fun H' p vs np xx hp k => h _ (p :: S) H' (env.setO np xx hp k)
  | ex c => exact fun C H' e xx => h C σ S H' e (env.mono xx)
  | no => exact h
theorem setD_of {i : Nat} {ma : Ev → R} {Dn : Ends} (env : EnvOk K G.xa H0 S0 S H σ ρ) (hl : ∀ ρ d, ma ρ = .ok d → ∃ ds, d = .list ds) (h : SPost K mg G H0 S0 (mSet i ma ρ) Dn) : tL K mg G ρ (ma ρ) σ H (fun x H1 => gName i x σ H1 Dn.nx) := by
  refine ⟨H0, S0, S, env, ?_⟩
  have il := hl ρ
  unfold mSet at h
  generalize ma ρ = r at h il
  cases r with
  | ok d =>
    obtain ⟨ds, rfl⟩ := il d rfl
    exact fun H' p vs np xx hp k => h _ S H' ((env.mono xx).setD (.lst (.inl (.inl (by rw [hide_out (new_out env.sH np)]; exact hp))) (da_mono (hide_less fun l m => List.mem_cons_of_mem _ m) k)))
  | ex c => exact fun C H' e xx => h C σ S H' e (env.mono xx)
  | no => exact h

theorem xl_comp {elt iter : Expr} {ifs : List Expr} {scope : Scope} {own : List (Str × Nat)} {js : List Nat} {mi mt me : Ev → R} {bt : Ev → D → Option Ev} (hN : X.N.Nodup) (hi : XI X G tg iter mi) (ok : BlkOk X.N X.env.scope scope own)
    (hg : ∀ (s : Shared) (H : Hp) (C : Addr) (cl : List (Str × Addr)) (fp : List Addr), XG (X.blk s H scope (compEnvC scope cl C X.env) fp) G.xa tg js bt)
    (ht : ∀ (s : Shared) (H : Hp) (C : Addr) (cl : List (Str × Addr)) (fp : List Addr), XTs (X.blk s H scope (compEnvC scope cl C X.env) fp) G.blk ifs mt)
    (he : ∀ (s : Shared) (H : Hp) (C : Addr) (cl : List (Str × Addr)) (fp : List Addr), XE (X.blk s H scope (compEnvC scope cl C X.env) fp) G.blk elt me)
    (hj : ∀ j ∈ js, j ∈ own.map (·.2) := by decide) (hc : X.calm = true := by rfl) (hs : ∀ x, foldedSetIterable iter X.env x = pure x := by intro _; rfl) :
    XL X G (.ListComp elt [⟨tg, iter, ifs, 0⟩] scope pos) (mComp mi bt mt me (own.map (·.2))) :=
  ⟨fun ρ => (pe_lc hc hN (hi.pi ρ) ok (g := fun v σ H Q => ∃ ρ, tG X.K G.xa js ρ (bt ρ) v σ H Q) (tt := fun σ H Q => ∃ ρ, tT X.K X.mg G.blk ρ (mt ρ) σ H Q) (te := fun σ H Q => ∃ ρ, tE X.K X.mg G.blk ρ (me ρ) σ H Q) (fun s H C cl fp => ⟨fun pins s' σ H' v u Q I r ⟨ρ, hw⟩ => ((hg s H C cl fp).pg ρ).run pins s' σ H' v u Q I r hw⟩)
    (fun s H C cl fp => ⟨fun pins s' σ H' Q I ⟨ρ, hw⟩ => ((ht s H C cl fp).pt ρ).run pins s' σ H' Q I hw⟩) (fun s H C cl fp => ⟨fun pins s' σ H' Q I ⟨ρ, hw⟩ => ((he s H C cl fp).pe ρ).run pins s' σ H' Q I hw⟩) hs).imp fun σ H Q h => tLc_of hj h, fun ρ d h => mComp_list h⟩
/-- name = [..] on one line -/
theorem s_setLc (i : Nat) {y : Str} {py spos : Pos} {elt iter : Expr} {ifs : List Expr} {scope : Scope} {own : List (Str × Nat)} {js : List Nat} {mi mt me : Ev → R} {bt : Ev → D → Option Ev} (hN : X.N.Nodup) (hi : XI X G tg iter mi) (ok : BlkOk X.N X.env.scope scope own)
    (hg : ∀ (s : Shared) (H : Hp) (C : Addr) (cl : List (Str × Addr)) (fp : List Addr), XG (X.blk s H scope (compEnvC scope cl C X.env) fp) G.xa tg js bt)
    (ht : ∀ (s : Shared) (H : Hp) (C : Addr) (cl : List (Str × Addr)) (fp : List Addr), XTs (X.blk s H scope (compEnvC scope cl C X.env) fp) G.blk ifs mt)
    (he : ∀ (s : Shared) (H : Hp) (C : Addr) (cl : List (Str × Addr)) (fp : List Addr), XE (X.blk s H scope (compEnvC scope cl C X.env) fp) G.blk elt me)
    (hj : ∀ j ∈ js, j ∈ own.map (·.2) := by decide) (hc : X.calm = true := by rfl) (hs : ∀ x, foldedSetIterable iter X.env x = pure x := by intro _; rfl)
    (hi2 : X.N[i]? = some y := by rfl) (hyl : X.env.scope.names.lookup y = some .local := by rfl) (hsw : swapsWith (.ListComp elt [⟨tg, iter, ifs, 0⟩] scope pos) (some (.Name y py)) spos.line X.env = pure true := by exact sw_true rfl rfl rfl (by decide +kernel)) :
    XS X G (.Assign [.Name y py] (.ListComp elt [⟨tg, iter, ifs, 0⟩] scope pos) spos) (mSetL i (mComp mi bt mt me (own.map (·.2)))) :=
  ⟨fun ρ => (ps_setLc hc hN hi2 hyl hsw (hi.pi ρ) ok (g := fun v σ H Q => ∃ ρ, tG X.K G.xa js ρ (bt ρ) v σ H Q) (tt := fun σ H Q => ∃ ρ, tT X.K X.mg G.blk ρ (mt ρ) σ H Q) (te := fun σ H Q => ∃ ρ, tE X.K X.mg G.blk ρ (me ρ) σ H Q) (fun s H C cl fp => ⟨fun pins s' σ H' v u Q I r ⟨ρ, hw⟩ => ((hg s H C cl fp).pg ρ).run pins s' σ H' v u Q I r hw⟩)
    (fun s H C cl fp => ⟨fun pins s' σ H' Q I ⟨ρ, hw⟩ => ((ht s H C cl fp).pt ρ).run pins s' σ H' Q I hw⟩) (fun s H C cl fp => ⟨fun pins s' σ H' Q I ⟨ρ, hw⟩ => ((he s H C cl fp).pe ρ).run pins s' σ H' Q I hw⟩) hs).imp fun Dn σ H ⟨H0, S0, S, env, h⟩ => tLc_of hj (setL_of env (fun ρ d h => mComp_list h) h)⟩
theorem s_setLcD (i : Nat) {y : Str} {py spos : Pos} {elt iter : Expr} {ifs : List Expr} {scope : Scope} {own : List (Str × Nat)} {js : List Nat} {mi mt me : Ev → R} {bt : Ev → D → Option Ev} (hN : X.N.Nodup) (hi : XI X G tg iter mi) (ok : BlkOk X.N X.env.scope scope own)
    (hg : ∀ (s : Shared) (H : Hp) (C : Addr) (cl : List (Str × Addr)) (fp : List Addr), XG (X.blk s H scope (compEnvC scope cl C X.env) fp) G.xa tg js bt)
    (ht : ∀ (s : Shared) (H : Hp) (C : Addr) (cl : List (Str × Addr)) (fp : List Addr), XTs (X.blk s H scope (compEnvC scope cl C X.env) fp) G.blk ifs mt)
    (he : ∀ (s : Shared) (H : Hp) (C : Addr) (cl : List (Str × Addr)) (fp : List Addr), XE (X.blk s H scope (compEnvC scope cl C X.env) fp) G.blk elt me)
    (hj : ∀ j ∈ js, j ∈ own.map (·.2) := by decide) (hc : X.calm = true := by rfl) (hs : ∀ x, foldedSetIterable iter X.env x = pure x := by intro _; rfl)
    (hi2 : X.N[i]? = some y := by rfl) (hyl : X.env.scope.names.lookup y = some .local := by rfl) (hsw : swapsWith (.ListComp elt [⟨tg, iter, ifs, 0⟩] scope pos) (some (.Name y py)) spos.line X.env = pure true := by exact sw_true rfl rfl rfl (by decide +kernel)) :
    XS X G (.Assign [.Name y py] (.ListComp elt [⟨tg, iter, ifs, 0⟩] scope pos) spos) (mSet i (mComp mi bt mt me (own.map (·.2)))) :=
  ⟨fun ρ => (ps_setLc hc hN hi2 hyl hsw (hi.pi ρ) ok (g := fun v σ H Q => ∃ ρ, tG X.K G.xa js ρ (bt ρ) v σ H Q) (tt := fun σ H Q => ∃ ρ, tT X.K X.mg G.blk ρ (mt ρ) σ H Q) (te := fun σ H Q => ∃ ρ, tE X.K X.mg G.blk ρ (me ρ) σ H Q) (fun s H C cl fp => ⟨fun pins s' σ H' v u Q I r ⟨ρ, hw⟩ => ((hg s H C cl fp).pg ρ).run pins s' σ H' v u Q I r hw⟩)
    (fun s H C cl fp => ⟨fun pins s' σ H' Q I ⟨ρ, hw⟩ => ((ht s H C cl fp).pt ρ).run pins s' σ H' Q I hw⟩) (fun s H C cl fp => ⟨fun pins s' σ H' Q I ⟨ρ, hw⟩ => ((he s H C cl fp).pe ρ).run pins s' σ H' Q I hw⟩) hs).imp fun Dn σ H ⟨H0, S0, S, env, h⟩ => tLc_of hj (setD_of env (fun ρ d h => mComp_list h) h)⟩
end
end FL
/-! defs, calls, exceptions, the end -/
namespace FL
open PySem PySem.Spec PyProof.Rows L2
variable [TabNames]
/-- a def's promise: it gives what the function f gives of the data -/
def SpF (K : PySem.W.Frag) (mg : Str → Option Value) (n : Nat) (f : List D → R) : Sp := fun vs H Q E => vs.length = n ∧ Tbs H ∧ ∃ S ds, (∀ l ∈ S, H l ≠ none) ∧ DpAll K (hide S H) vs ds ∧
  match f ds with
  | .ok d => Post K S H d Q
  | .ex c => ∀ C H', mg c = some (.ref C) → Ex H H' → E (.ref C) none H'
  | .no => False
/-- the def that the module's name x stands for -/
structure Fn (P : Program) (w : World) (K : PySem.W.Frag) (mg : Str → Option Value) (base : Heap) (k : Nat) (x : Str) (n : Nat) (f : List D → R) : Prop where
  ex : ∃ (fa : Addr) (fd : FuncData) (ps : List Str), ps.length = n ∧ mg x = some (.ref fa) ∧ FnOk P w K mg base (L2.CX P w) k fa fd ps (SpF K mg n f) ∧ PySem.W.keepIn K (.ref fa) = true ∧ Binds K fd ps []
  ln : ∀ ds, ds.length ≠ n → f ds = .no
theorem Fn.mono {P : Program} {w : World} {K : PySem.W.Frag} {mg : Str → Option Value} {base : Heap} {j k : Nat} {x : Str} {n : Nat} {f : List D → R} (F : Fn P w K mg base j x n f) (h : j ≤ k) : Fn P w K mg base k x n f := by
  obtain ⟨fa, fd, ps, h1, h2, h3, h4⟩ := F.ex
  exact ⟨⟨fa, fd, ps, h1, h2, h3.mono h, h4⟩, F.ln⟩
section
variable {X : Cx} {K : PySem.W.Frag} {mg : Str → Option Value} {G : Gx} {pos : Pos} {a b c e tg : Expr} {es : List Expr} {ma mb mc ms : Ev → R} {m m1 m2 : Ev → Out}
/-! ### calls -/
def mCall (f : List D → R) (ms : Ev → R) : Ev → R := fun ρ => (ms ρ).bind fun x => match x with
  | .list ds => f ds
  | _ => .no
theorem spF_of {n : Nat} {f : List D → R} (ln : ∀ ds, ds.length ≠ n → f ds = .no) {S : List Addr} {H : Hp} {σ : L2.St} {vs : List V} {ds : List D} {Q : VK} (tb : Tbs H) (sH : ∀ l ∈ S, H l ≠ none) (k : DpAll K (hide S H) vs ds) (h : RPost K mg G S H σ (f ds) Q) : SpF K mg n f vs H Q (WE G.W σ) := by
  have hl : vs.length = n := by
    rw [da_length k]
    by_cases z : ds.length = n
    · exact z
    · rw [ln ds z] at h; exact h.elim
  refine ⟨hl, tb, S, ds, sH, k, ?_⟩
  generalize f ds = r at h
  cases r with
  | ok d => exact h
  | ex c => exact h
  | no => exact h
theorem x_call {k j n : Nat} {x : Str} {p : Pos} {f : List D → R} (F : Fn X.prog X.w X.K X.mg X.base k x n f) (hr : Room j X.A) (tk : Takes X G.W) (ha : XA X G (e :: es) ms) (hk : k ≤ j := by first | decide | omega) (hg : Gl X x := by rfl)
    (hdb : (x == ("__debug__" : Str)) = false := by decide) (he : starEach (e :: es) X.env = (false, eval e X.env) :: starEach es X.env := by rfl) (hpl : (backTo pos (starEach es X.env)).any (·.1) = false := by rfl) :
    XE X G (.Call (.Name x p) (e :: es) [] pos) (mCall f ms) := by
  obtain ⟨fa, fd, ps, h1, h2, h3, h4, h5⟩ := F.ex
  refine ⟨fun ρ => (pe_callS (E := WE G.W) h3 (hr.mono hk) hg h2 h4 h5 (fun σ => passAt tk σ) (ha.pa ρ) hdb he hpl).imp fun σ H Q ⟨H0, S0, S, env, h⟩ => ?_⟩
  exact tA_bind env h (fun ds H' vs _ x hv h' => spF_of F.ln (env.mono x).tb (env.mono x).sH hv h') (notList fun d hd => by cases d <;> first | rfl | exact (hd _ rfl).elim)
theorem x_call0 {k j n : Nat} {x : Str} {p : Pos} {f : List D → R} (F : Fn X.prog X.w X.K X.mg X.base k x n f) (hr : Room j X.A) (tk : Takes X G.W) (hk : k ≤ j := by first | decide | omega) (hg : Gl X x := by rfl)
    (hdb : (x == ("__debug__" : Str)) = false := by decide) : XE X G (.Call (.Name x p) [] [] pos) (fun _ => f []) := by
  obtain ⟨fa, fd, ps, h1, h2, h3, h4, h5⟩ := F.ex
  refine ⟨fun ρ => ⟨fun pins s σ H Q I ⟨H0, S0, S, env, h⟩ => ?_⟩⟩
  refine wpAny_Call_Name_kw (ld_glob I hg h2 ?_ hdb)
  exact PySem.W.callWith_K0 I.kIn h4 (run_fnS (us := []) h3 (hr.mono hk) h5 (passAt tk σ) I .nil (spF_of F.ln env.tb env.sH .nil h))
/-! ### bodies -/
def bodyR : Out → R
  | .ret d => .ok d
  | .nx _ => .ok .none
  | .ex c _ => .ex c
  | _ => .no
def startE (N : Nat) (ds : List D) : Ev := ds.map Sl.d ++ List.replicate (N - ds.length) .un
/-- the function that a def's body denotes: N slots, n parameters -/
def bodyF (N n : Nat) (m : Ev → Out) (ds : List D) : R := if ds.length = n then bodyR (m (startE N ds)) else .no
theorem env_start {N : List Str} {vs : List V} {ds : List D} {H : Hp} {S : List Addr} (tb : Tbs H) (sH : ∀ l ∈ S, H l ≠ none) (k : DpAll K (hide S H) vs ds) : EnvOk K none H S S H (L2.start N vs) (startE N.length ds) := by
  have el := da_length k
  have noO : ∀ (i : Nat) xs, (startE N.length ds)[i]? = some xs → xs.ow ≠ true := fun i xs z w => by
    unfold startE at z
    by_cases h : i < (ds.map Sl.d).length
    · rw [List.getElem?_append_left h, List.getElem?_map] at z
      cases q : ds[i]? with
      | none => rw [q] at z; cases z
      | some y => rw [q] at z; cases z; cases w
    · rw [List.getElem?_append_right (by omega), List.getElem?_replicate] at z
      split at z <;> cases z
      cases w
  refine ⟨by unfold L2.start startE; simp [el], fun i x e => ?_, fun i j l h1 _ => ?_, Ex.refl H, fun l h => h, sH, sH, fun l h => .inl h, fun i l h1 => ?_, fun l m n => absurd m n, tb⟩
  · unfold startE at e
    by_cases h : i < (ds.map Sl.d).length
    · rw [List.getElem?_append_left h, List.getElem?_map] at e
      cases q : ds[i]? with
      | none => rw [q] at e; cases e
      | some y =>
        rw [q] at e
        cases e
        obtain ⟨v, ev, kv⟩ := da_get k q
        refine ⟨v, ?_, kv⟩
        unfold L2.start
        rw [List.length_map] at h
        rw [List.getElem?_append_left (by rw [List.length_map]; omega), List.getElem?_map, ev]
        rfl
    · rw [List.getElem?_append_right (by omega), List.getElem?_replicate] at e
      split at e
      · cases e; trivial
      · cases e
  · obtain ⟨_, xs, e, w⟩ := h1
    exact absurd w (noO i xs e)
  · obtain ⟨_, xs, e, w⟩ := h1
    exact absurd w (noO i xs e)
/-- a statement of the top -/
structure DefAt (K : PySem.W.Frag) (mg : Str → Option Value) (x : Str) (st : Stmt) (ps : List Str) (fa : Addr) (fd : FuncData) : Prop where
  F : FunD K x x (defArgs st) (defBody st) (defScope st) [] [] fa fd
  g : mg x = some (.ref fa)
  b : Binds K fd ps []
theorem fn_ok {P : Program} {w : World} {base : Heap} {k : Nat} {x : Str} {st : Stmt} {ps N : List Str} {fa : Addr} {fd : FuncData} (nN nP : Nat) (dA : DefAt K mg x st ps fa fd) (S : FnScope N ps (defScope st)) (eN : N.length = nN) (eP : ps.length = nP)
    (hb : ∀ (cdv : Value) (A : Around) (outer : List Env) (s : Shared) (H : Hp) (E : XK), Room k (A.deeper (envOfC x (defScope st) s.heap.objs.size fa cdv)) →
      Takes (cxOf (L2.CX P w) P w K mg base N x (defScope st) fa cdv A outer s H E) (fun cls d _ H => E cls d H) →
      PassesOwn (model P w) (A.deeper (envOfC x (defScope st) s.heap.objs.size fa cdv)) (envOfC x (defScope st) s.heap.objs.size fa cdv) (cxOf (L2.CX P w) P w K mg base N x (defScope st) fa cdv A outer s H E).xe →
      XSs (cxOf (L2.CX P w) P w K mg base N x (defScope st) fa cdv A outer s H E) { W := fun cls d _ H => E cls d H } (defBody st) m) : FnOk P w K mg base (L2.CX P w) (k + 1) fa fd ps (SpF K mg nP (bodyF nN nP m)) := by
  subst eN eP
  refine dA.F.ok S (fun vs H Q E h => h.1) fun cdv A outer s H vs Q E hr ⟨hl, tb, Sv, ds, sH, kd, h⟩ => ?_
  have D := hb cdv A outer s H E hr (takes_of rfl rfl rfl rfl) (passes_of rfl)
  refine ⟨_, D.ps (startE N.length ds), H, Sv, Sv, env_start tb sH kd, ?_⟩
  rw [show bodyF N.length ps.length m ds = bodyR (m (startE N.length ds)) from if_pos (by rw [← da_length kd]; exact hl)] at h
  show SPost K mg _ H Sv (m (startE N.length ds)) _
  generalize m (startE N.length ds) = o at h
  cases o with
  | nx ρ => exact fun σ S' H' env => h H' .non env.ex0 .non
  | ret d => exact fun H' v x k _ => h H' v x k
  | ex c ρ => exact fun C σ S' H' e env => h C H' e env.ex0
  | bk ρ => exact h.elim
  | ct ρ => exact h.elim
  | no => exact h.elim
theorem fn_mk {P : Program} {w : World} {base : Heap} {k : Nat} {x : Str} {st : Stmt} {ps N : List Str} {fa : Addr} {fd : FuncData} (nN nP : Nat) (dA : DefAt K mg x st ps fa fd) (S : FnScope N ps (defScope st)) (eN : N.length = nN) (eP : ps.length = nP)
    (hb : ∀ (cdv : Value) (A : Around) (outer : List Env) (s : Shared) (H : Hp) (E : XK), Room k (A.deeper (envOfC x (defScope st) s.heap.objs.size fa cdv)) →
      Takes (cxOf (L2.CX P w) P w K mg base N x (defScope st) fa cdv A outer s H E) (fun cls d _ H => E cls d H) →
      PassesOwn (model P w) (A.deeper (envOfC x (defScope st) s.heap.objs.size fa cdv)) (envOfC x (defScope st) s.heap.objs.size fa cdv) (cxOf (L2.CX P w) P w K mg base N x (defScope st) fa cdv A outer s H E).xe →
      XSs (cxOf (L2.CX P w) P w K mg base N x (defScope st) fa cdv A outer s H E) { W := fun cls d _ H => E cls d H } (defBody st) m) : Fn P w K mg base (k + 1) x nP (bodyF nN nP m) :=
  ⟨⟨fa, fd, ps, eP, dA.g, fn_ok nN nP dA S eN eP hb, dA.F.kp, dA.b⟩, fun ds h => if_neg h⟩
/-- nothing is promised -/
theorem fn_no {P : Program} {w : World} {base : Heap} {k n : Nat} {x : Str} {st : Stmt} {ps : List Str} {fa : Addr} {fd : FuncData} (dA : DefAt K mg x st ps fa fd) (hn : ps.length = n) : Fn P w K mg base k x n (fun _ => .no) := by
  refine ⟨⟨fa, fd, ps, hn, dA.g, ⟨fun vs H Q E h => ?_, fun A outer s H args us vs Q E _ _ _ _ h => ?_⟩, dA.F.kp, dA.b⟩, fun _ _ => rfl⟩
  · obtain ⟨_, _, _, _, _, _, h⟩ := h
    exact h.elim
  · obtain ⟨_, _, _, _, _, _, h⟩ := h
    exact h.elim
/-! ### exceptions -/
/-- an own exception class -/
structure Exc (K : PySem.W.Frag) (mg : Str → Option Value) (c : Str) : Prop where
  ex : ∃ C, mg c = some (.ref C) ∧ PySem.W.excIn K C He.veBase "ValueError.__new__" = true ∧ PySem.W.keepIn K (.ref C) = true ∧ PySem.W.subIn K (.ref C) (.type "BaseException") = some true ∧ PySem.W.typeIn K (.ref C) = some (.type "type")
theorem s_raise {x msg : Str} {j : Nat} {p p2 p3 : Pos} (h : Exc X.K X.mg x) (tk : Takes X G.W) (hc : X.calm = true := by rfl) (hg : Gl X x := by rfl) (hdb : (x == ("__debug__" : Str)) = false := by decide) :
    XS X G (.Raise (some (.Call (.Name x p) [.Constant (.str msg) j p2] [] p3)) none pos) (fun ρ => .ex x ρ) := by
  obtain ⟨C, g, q, kp, sb, ty⟩ := h.ex
  exact ⟨fun ρ => (ps_raise hc tk (pmk_own PySem.F.excBase_ValueError q g kp (raises_own sb ty) hg hdb)).imp fun Dn σ H ⟨H0, S0, S, env, h⟩ => h C σ S H g env⟩
/-- nothing leaves a suite by an error -/
def Out.calm (o : Out) : Out := match o with
  | .ex _ _ => .no
  | o => o
theorem calm_post {o : Out} {H0 : Hp} {S0 : List Addr} {Dn : Ends} (h : SPost K mg G H0 S0 o.calm Dn) : SPost K mg G.blk H0 S0 o Dn := by
  cases o with
  | ex c ρ => exact h.elim
  | _ => exact h
/-- which errors a clause takes -/
def mTry (sub : Str → Option Bool) (mb : Ev → Out) (ms : Ev → Out) : Ev → Out := fun ρ => match mb ρ with
  | .ex c ρ' => match sub c with
    | some true => (ms ρ').calm
    | some false => .ex c ρ'
    | none => .no
  | o => o
theorem s_try {x : Str} {cv : Value} {sub : Str → Option Bool} {body suite : List Stmt} {b₀ : Stmt} {np p2 : Pos} (hc : Names X x cv) (hsub : ∀ c b, sub c = some b → ∀ C, X.mg c = some (.ref C) → PySem.W.exmOne X.K (.ref C) cv = some b) (tk : Takes X G.W)
    (hb : ∀ (W : WX) (pn : List (Addr × Obj)) (xe : Value → Shared → Prop), Takes (X.tr pn xe) W → PassesOwn (model X.prog X.w) X.A X.env xe → XSs (X.tr pn xe) { W := W, xa := G.xa, lm := G.lm } body m1)
    (hsu : ∀ (a : Addr) (oe : Obj) (cls : Value) (d : Option Addr) (pn : List (Addr × Obj)), Zc cls d oe → (∃ vs, oe.data = .fields vs) → XSs (X.suite a ((a, oe) :: pn)) G.blk (b₀ :: suite) m2)
    (hs : X.stack = X.env :: X.outer := by rfl) (hf : X.env.frame = some X.env.locals := by rfl) :
    XS X G (.Try body [.ExceptHandler (some (.Name x np)) none (b₀ :: suite) p2] [] [] pos) (mTry sub m1 m2) := ⟨fun ρ => by
  refine (ps_try_only (tb := fun W => tS X.K X.mg { W := W, xa := G.xa, lm := G.lm } ρ (m1 ρ)) (ts := fun a cls d => fun Dn σ H => ∃ ρ, tS X.K X.mg G.blk ρ (m2 ρ) Dn σ H) hs hf hc tk (fun W pn xe t p => (hb W pn xe t p).ps ρ)
    (fun a oe cls d pn z f => ⟨fun pins s σ H Dn I ⟨ρ, hw⟩ => ((hsu a oe cls d pn z f).ps ρ).run pins s σ H Dn I hw⟩)).imp fun Dn σ H ⟨H0, S0, S, env, h⟩ => ?_
  refine ⟨H0, S0, S, env, ?_⟩
  unfold mTry at h
  generalize m1 ρ = o at h
  cases o with
  | ex c ρ' =>
    intro C σ' S' H' e env'
    have h2 : SPost X.K X.mg G H0 S0 (match sub c with
      | some true => (m2 ρ').calm
      | some false => .ex c ρ'
      | none => .no) Dn := h
    cases es : sub c with
    | none => rw [es] at h2; exact h2.elim
    | some b =>
      rw [es] at h2
      refine ⟨b, hsub c b es C e, fun hb' a na => ?_, fun hb' => ?_⟩
      · subst hb'
        exact ⟨ρ', H0, S0, S', env', calm_post h2⟩
      · subst hb'
        exact h2 C σ' S' H' e env'
  | _ => exact h⟩
/-- no held error is left -/
def noX (ρ : Ev) : Bool := ρ.all fun s => match s with
  | .xc _ => false
  | .fn => false
  | _ => true
def onlyR (i : Nat) : Out → Out
  | .ret d => .ret d
  | .nx ρ => if noX (ρ.set i .un) then .nx (ρ.set i .un) else .no
  | .ct ρ => if noX (ρ.set i .un) then .ct (ρ.set i .un) else .no
  | _ => .no
/-- except .. as n, the suite returning: the error is held while the suite runs -/
def mTryAs (i : Nat) (sub : Str → Option Bool) (mb : Ev → Out) (ms : Ev → Out) : Ev → Out := fun ρ => match mb ρ with
  | .ex c ρ' => match sub c with
    | some true => onlyR i (ms (ρ'.set i (.xc c)))
    | some false => .ex c ρ'
    | none => .no
  | o => o
theorem EnvOk.clr {xa : Option Hx} {H0 H : Hp} {S0 S : List Addr} {σ : L2.St} {ρ : Ev} {i : Nat} (env : EnvOk K xa H0 S0 S H σ ρ) (k : noX (ρ.set i .un) = true) : EnvOk K none H0 S0 S H (σ.set i none) (ρ.set i .un) := by
  have e := env.setAny (o := none) (s := .un) (i := i) trivial fun _ _ z => nomatch z
  exact ⟨e.len, fun j s q => by
    have h := e.sl j s q
    cases s with
    | xc c =>
      have := List.all_eq_true.mp k _ (List.mem_of_getElem? q)
      cases this
    | fn =>
      have := List.all_eq_true.mp k _ (List.mem_of_getElem? q)
      cases this
    | un => trivial
    | d z => exact h
    | ol z => exact h
    | od z => exact h
    | bd z => exact h
    | ot z => exact h, e.sep, e.ex0, e.s0, e.sH, e.s0H, e.fr, e.own, e.sN, e.tb⟩
theorem EnvOk.noxa {xa : Option Hx} {H0 H : Hp} {S0 S : List Addr} {σ : L2.St} {ρ : Ev} (env : EnvOk K none H0 S0 S H σ ρ) : EnvOk K xa H0 S0 S H σ ρ :=
  ⟨env.len, fun i s e => by
    have h := env.sl i s e
    cases s with
    | xc c => obtain ⟨_, _, z⟩ := h; cases z
    | fn => obtain ⟨_, _, _, z, _⟩ := h; cases z
    | un => trivial
    | d z => exact h
    | ol z => exact h
    | od z => exact h
    | bd z => exact h
    | ot z => exact h, env.sep, env.ex0, env.s0, env.sH, env.s0H, env.fr, env.own, env.sN, env.tb⟩
abbrev Gx.held (lm : Bool) (a : Addr) (c : Str) : Gx := { W := fun _ _ _ _ => False, xa := some (.xc a c), lm := lm }
theorem s_tryAs (i : Nat) {x n : Str} {cv : Value} {sub : Str → Option Bool} {body suite : List Stmt} {b₀ : Stmt} {np p2 : Pos} (hN : X.N.Nodup) (hx : G.xa = none) (hc : Names X x cv) (hsub : ∀ c b, sub c = some b → ∀ C, X.mg c = some (.ref C) → PySem.W.exmOne X.K (.ref C) cv = some b) (tk : Takes X G.W)
    (hb : ∀ (W : WX) (pn : List (Addr × Obj)) (xe : Value → Shared → Prop), Takes (X.tr pn xe) W → PassesOwn (model X.prog X.w) X.A X.env xe → XSs (X.tr pn xe) { W := W, xa := none, lm := G.lm } body m1)
    (hsu : ∀ (a : Addr) (oe : Obj) (c : Str) (C : Addr) (pn : List (Addr × Obj)), X.mg c = some (.ref C) → Zc (.ref C) none oe → (∃ vs, oe.data = .fields vs) → XSs (X.suite a ((a, oe) :: pn)) (.held G.lm a c) (b₀ :: suite) m2)
    (hi : X.N[i]? = some n := by rfl) (hln : X.env.kindOf n = some .local := by rfl) (hs : X.stack = X.env :: X.outer := by rfl) (hf : X.env.frame = some X.env.locals := by rfl) :
    XS X G (.Try body [.ExceptHandler (some (.Name x np)) (some n) (b₀ :: suite) p2] [] [] pos) (mTryAs i sub m1 m2) := ⟨fun ρ => by
  refine (ps_try_as (tb := fun W => tS X.K X.mg { W := W, xa := none, lm := G.lm } ρ (m1 ρ)) (ts := fun a cls d => fun Dn σ H => ∃ c C ρ, cls = Value.ref C ∧ d = none ∧ X.mg c = some (.ref C) ∧ tS X.K X.mg (.held G.lm a c) ρ (m2 ρ) Dn σ H) hs hf hN hi hln hc tk (fun W pn xe t p => (hb W pn xe t p).ps ρ)
    (fun a oe cls d pn z f => ⟨fun pins s σ H Dn I ⟨c, C, ρ, e1, e2, e3, hw⟩ => ((hsu a oe c C pn e3 (by rw [← e1, ← e2]; exact z) f).ps ρ).run pins s σ H Dn I hw⟩)).imp fun Dn σ H ⟨H0, S0, S, env, h⟩ => ?_
  rw [hx] at env
  refine ⟨H0, S0, S, env, ?_⟩
  unfold mTryAs at h
  generalize m1 ρ = o at h
  cases o with
  | ex c ρ' =>
    intro C σ' S' H' e env'
    have h2 : SPost X.K X.mg G H0 S0 (match sub c with
      | some true => onlyR i (m2 (ρ'.set i (.xc c)))
      | some false => .ex c ρ'
      | none => .no) Dn := h
    cases es : sub c with
    | none => rw [es] at h2; exact h2.elim
    | some b =>
      rw [es] at h2
      refine ⟨b, hsub c b es C e, fun hb' a na => ?_, fun hb' => ?_⟩
      · subst hb'
        refine ⟨c, C, ρ'.set i (.xc c), rfl, rfl, e, H0, S0, S', ?_, ?_⟩
        · exact (EnvOk.noxa env').setAny ⟨a, rfl, rfl⟩ fun _ z _ => nomatch z
        · have h3 : SPost X.K X.mg G H0 S0 (onlyR i (m2 (ρ'.set i (.xc c)))) Dn := h2
          generalize m2 (ρ'.set i (.xc c)) = o2 at h3
          cases o2 with
          | ret d => exact h3
          | nx ρ2 =>
            by_cases k : noX (ρ2.set i .un) = true
            · rw [show onlyR i (.nx ρ2) = _ from if_pos k] at h3
              exact fun σ2 S2 H2 env2 => h3 (σ2.set i none) S2 H2 (by rw [hx]; exact EnvOk.clr env2 k)
            · rw [show onlyR i (.nx ρ2) = _ from if_neg k] at h3
              exact h3.elim
          | ct ρ2 =>
            by_cases k : noX (ρ2.set i .un) = true
            · rw [show onlyR i (.ct ρ2) = _ from if_pos k] at h3
              exact fun σ2 S2 H2 env2 => h3 (σ2.set i none) S2 H2 (by rw [hx]; exact EnvOk.clr env2 k)
            · rw [show onlyR i (.ct ρ2) = _ from if_neg k] at h3
              exact h3.elim
          | _ => exact h3.elim
      · subst hb'
        exact h2 C σ' S' H' e (by rw [hx]; exact env')
  | nx ρ' => exact fun σ S H env' => h σ S H (by rw [hx]; exact env')
  | bk ρ' => exact fun σ S H env' => h σ S H (by rw [hx]; exact env')
  | ct ρ' => exact fun σ S H env' => h σ S H (by rw [hx]; exact env')
  | ret d => exact h
  | no => exact h⟩
/-- isinstance(e, C), e the error that the suite holds -/
def mIsE (i : Nat) (sub : Str → Option Bool) : Ev → R := fun ρ => match ρ[i]? with
  | some (.xc c) => R.of ((sub c).map .bool)
  | _ => .no
theorem x_isE (i : Nat) {lm : Bool} {a : Addr} {oe : Obj} {c n y : Str} {C C2 : Addr} {pn : List (Addr × Obj)} {sub : Str → Option Bool} {p1 p2 p3 : Pos} (ec : ∀ b, sub c = some b → L2.ExcC X.K C) (hz : Zc (.ref C) none oe) (hd : ∃ vs, oe.data = .fields vs) (hsub : ∀ b, sub c = some b → PySem.W.kitOne X.K (.ref C) (.ref C2) = some b)
    (hy : X.mg y = some (.ref C2)) (hm : X.mg "isinstance" = none) (hi : X.N[i]? = some n := by rfl) (hv : Vis X.env.scope n := by first | exact Or.inl rfl | exact Or.inr (Or.inl rfl) | exact Or.inr (Or.inr rfl)) (hg : Gl X "isinstance" := by rfl) (hgy : Gl X y := by rfl)
    (hdn : (n == ("__debug__" : Str)) = false := by decide) (hcd : (n == ("__classdict__" : Str)) = false := by decide) (hdy : (y == ("__debug__" : Str)) = false := by decide)
    (he : starEach [.Name n p2, .Name y p3] X.env = (false, eval (.Name n p2) X.env) :: starEach [.Name y p3] X.env := by rfl) (he2 : starEach [.Name y p3] X.env = (false, eval (.Name y p3) X.env) :: starEach [] X.env := by rfl) (hpl : (backTo pos (starEach [.Name y p3] X.env)).any (·.1) = false := by rfl) :
    XE (X.suite a ((a, oe) :: pn)) (.held lm a c) (.Call (.Name "isinstance" p1) [.Name n p2, .Name y p3] [] pos) (mIsE i sub) := ⟨fun ρ => by
  cases es : sub c with
  | none =>
    refine ⟨fun pins s σ H Q I ⟨H0, S0, S, env, h⟩ => ?_⟩
    unfold mIsE at h
    split at h
    · rename_i c' er
      obtain ⟨a', e1, e2⟩ := env.sl i _ er
      cases e2
      rw [es] at h
      exact h.elim
    · exact h.elim
  | some b =>
    have p := pe_callB (X := X.suite a ((a, oe) :: pn)) (x := "isinstance") (p := p1) (pos := pos) (call_isE (X := X) (ec b es) hz hd) hg hm PyProof.Rows.boot_isinstance (pa_cons (pe_var (X := X.suite a ((a, oe) :: pn)) (pos := p2) hi hv hdn hcd) (pa_cons (pe_glob (X := X.suite a ((a, oe) :: pn)) (pos := p3) (v := .ref C2) hgy hy rfl hdy) pa_nil he2) he)
    refine p.imp fun σ H Q ⟨H0, S0, S, env, h⟩ => ?_
    unfold mIsE at h
    split at h
    · rename_i c' er
      obtain ⟨a', e1, e2⟩ := env.sl i _ er
      cases e2
      rw [es] at h
      exact ⟨.ref a, e1, .ref C2, .ref C2, b, rfl, fun u r => r, hsub b es, post_val h (.bl b)⟩
    · exact h.elim⟩
end
end FL
/-! built-in functions -/
namespace FL
open PySem PySem.Spec PyProof.Rows L2
variable [TabNames]
section
variable {X : Cx} {K : PySem.W.Frag} {mg : Str → Option Value} {G : Gx} {pos : Pos} {a b c e tg : Expr} {es : List Expr} {ma mb mc ms : Ev → R} {m m1 m2 : Ev → Out}
def CrOk (K : PySem.W.Frag) (r : List V → Hp → VK → Prop) (f : List D → Option D) : Prop := ∀ (S : List Addr) (H : Hp) (xs : List V) (ds : List D) (d : D) (Q : VK), (∀ l ∈ S, H l ≠ none) → DpAll K (hide S H) xs ds → f ds = some d → Post K S H d Q → r xs H Q
def mFun (f : List D → Option D) (ms : Ev → R) : Ev → R := fun ρ => (ms ρ).bind fun x => match x with
  | .list ds => R.of (f ds)
  | _ => .no
theorem fun_of {r : List V → Hp → VK → Prop} {f : List D → Option D} (ok : CrOk K r f) {ρ : Ev} {σ : L2.St} {H : Hp} {Q : VK} (h : tE K mg G ρ (mFun f ms ρ) σ H Q) : tCB r (tAr K mg G ρ (ms ρ)) σ H Q := by
  obtain ⟨H0, S0, S, env, h⟩ := h
  exact tA_bind env h (fun ds H' vs _ x hv h' => by
    obtain ⟨d, e, q⟩ := of_some h'
    exact ok S H' vs ds d Q (env.mono x).sH hv e q) (notList fun d hd => by cases d <;> first | rfl | exact (hd _ rfl).elim)
theorem x_blt {id : String} {r : List V → Hp → VK → Prop} {f : List D → Option D} {x : Str} {p : Pos} (hc : CallR X (.builtin id) r) (ok : CrOk X.K r f) (ha : XA X G (e :: es) ms) (hm : X.mg x = none) (hv : bootBuiltins x = some (.builtin id)) (hg : Gl X x := by rfl) (hn : x ≠ "__name__" := by decide) (hdb : (x == ("__debug__" : Str)) = false := by decide)
    (he : starEach (e :: es) X.env = (false, eval e X.env) :: starEach es X.env := by rfl) (hpl : (backTo pos (starEach es X.env)).any (·.1) = false := by rfl) : XE X G (.Call (.Name x p) (e :: es) [] pos) (mFun f ms) :=
  ⟨fun ρ => (pe_callB hc hg hm hv (ha.pa ρ) hn hdb he hpl).imp fun σ H Q h => fun_of ok h⟩
theorem x_ty {T : String} {r : List V → Hp → VK → Prop} {f : List D → Option D} {x : Str} {p : Pos} (hc : CallR X (.type T) r) (ok : CrOk X.K r f) (ha : XA X G (e :: es) ms) (hm : X.mg x = none) (hv : bootBuiltins x = some (.type T)) (hg : Gl X x := by rfl) (hn : x ≠ "__name__" := by decide) (hdb : (x == ("__debug__" : Str)) = false := by decide)
    (he : starEach (e :: es) X.env = (false, eval e X.env) :: starEach es X.env := by rfl) (hpl : (backTo pos (starEach es X.env)).any (·.1) = false := by rfl) : XE X G (.Call (.Name x p) (e :: es) [] pos) (mFun f ms) :=
  ⟨fun ρ => (pe_callTy hc hg hm hv (ha.pa ρ) hn hdb he hpl).imp fun σ H Q h => fun_of ok h⟩
/-- a module's name for a built-in function (from math import ..) -/
theorem x_fn {id : String} {r : List V → Hp → VK → Prop} {f : List D → Option D} {x : Str} {p : Pos} (hc : CallR X (.builtin id) r) (ok : CrOk X.K r f) (ha : XA X G (e :: es) ms) (hm : X.mg x = some (.builtin id)) (hg : Gl X x := by rfl) (hdb : (x == ("__debug__" : Str)) = false := by decide)
    (he : starEach (e :: es) X.env = (false, eval e X.env) :: starEach es X.env := by rfl) (hpl : (backTo pos (starEach es X.env)).any (·.1) = false := by rfl) : XE X G (.Call (.Name x p) (e :: es) [] pos) (mFun f ms) :=
  ⟨fun ρ => (pe_callBfun hc hg hm (ha.pa ρ) hdb he hpl).imp fun σ H Q h => fun_of ok h⟩
/-! ### abs, min, max, int -/
def absD : List D → Option D
  | [.int i] => some (.int (if i < 0 then -i else i))
  | _ => none
def min2D : List D → Option D
  | [.int i, .int j] => some (.int (if j < i then j else i))
  | _ => none
def max2D : List D → Option D
  | [.int i, .int j] => some (.int (if j > i then j else i))
  | _ => none
def int1D : List D → Option D
  | [.int i] => some (.int i)
  | [.bool k] => some (.int (if k then 1 else 0))
  | _ => none
theorem okAbs : CrOk K (fun xs H Q => ∃ i, xs = [.int i] ∧ Q (.int (if i < 0 then -i else i)) H) absD := by
  intro S H xs ds d Q hS hv e q
  cases hv with
  | nil => cases e
  | cons h1 h2 =>
    cases h2 with
    | nil =>
      cases h1 with
      | int i => cases e; exact ⟨i, rfl, post_val q (.int _)⟩
      | _ => cases e
    | cons _ _ => cases h1 <;> cases e
theorem okMin2 : CrOk K (fun xs H Q => ∃ i j, xs = [.int i, .int j] ∧ Q (.int (if j < i then j else i)) H) min2D := by
  intro S H xs ds d Q hS hv e q
  cases hv with
  | nil => cases e
  | cons h1 h2 =>
    cases h2 with
    | nil => cases h1 <;> cases e
    | cons h2 h3 =>
      cases h3 with
      | nil =>
        cases h1 with
        | int i =>
          cases h2 with
          | int j => cases e; exact ⟨i, j, rfl, post_val q (.int _)⟩
          | _ => cases e
        | _ => cases h2 <;> cases e
      | cons _ _ => cases h1 <;> cases h2 <;> cases e
theorem okMax2 : CrOk K (fun xs H Q => ∃ i j, xs = [.int i, .int j] ∧ Q (.int (if j > i then j else i)) H) max2D := by
  intro S H xs ds d Q hS hv e q
  cases hv with
  | nil => cases e
  | cons h1 h2 =>
    cases h2 with
    | nil => cases h1 <;> cases e
    | cons h2 h3 =>
      cases h3 with
      | nil =>
        cases h1 with
        | int i =>
          cases h2 with
          | int j => cases e; exact ⟨i, j, rfl, post_val q (.int _)⟩
          | _ => cases e
        | _ => cases h2 <;> cases e
      | cons _ _ => cases h1 <;> cases h2 <;> cases e
theorem okInt1 : CrOk K (fun xs H Q => (∃ i, xs = [.int i] ∧ Q (.int i) H) ∨ ∃ k, xs = [.bl k] ∧ Q (.int (if k then 1 else 0)) H) int1D := by
  intro S H xs ds d Q hS hv e q
  cases hv with
  | nil => cases e
  | cons h1 h2 =>
    cases h2 with
    | nil =>
      cases h1 with
      | int i => cases e; exact .inl ⟨i, rfl, post_val q (.int _)⟩
      | bl i => cases e; exact .inr ⟨i, rfl, post_val q (.int _)⟩
      | _ => cases e
    | cons _ _ => cases h1 <;> cases e
theorem boot_dict' : bootBuiltins "dict" = some (.type "dict") := by decide +kernel
theorem boot_list' : bootBuiltins "list" = some (.type "list") := by decide +kernel
theorem boot_tuple' : bootBuiltins "tuple" = some (.type "tuple") := by decide +kernel
theorem boot_int' : bootBuiltins "int" = some (.type "int") := by decide +kernel
theorem boot_bool' : bootBuiltins "bool" = some (.type "bool") := by decide +kernel
theorem boot_str' : bootBuiltins "str" = some (.type "str") := by decide +kernel
theorem bootTuple : bootBuiltins "tuple" = some (.type "tuple") := by decide +kernel
theorem bootInt : bootBuiltins "int" = some (.type "int") := by decide +kernel
variable {p : Pos}
theorem x_abs (ha : XA X G [a] ms) (hm : X.mg "abs" = none) (hg : Gl X "abs" := by rfl) (he : starEach [a] X.env = (false, eval a X.env) :: starEach [] X.env := by rfl) : XE X G (.Call (.Name "abs" p) [a] [] pos) (mFun absD ms) := x_blt call_abs okAbs ha hm boot_abs hg (by decide) (by decide) he
theorem x_min2 (ha : XA X G [a, b] ms) (hm : X.mg "min" = none) (hc : X.calm = true := by rfl) (hg : Gl X "min" := by rfl) (he : starEach [a, b] X.env = (false, eval a X.env) :: starEach [b] X.env := by rfl) (hpl : (backTo pos (starEach [b] X.env)).any (·.1) = false := by rfl) : XE X G (.Call (.Name "min" p) [a, b] [] pos) (mFun min2D ms) := x_blt (call_min2 hc) okMin2 ha hm boot_min hg (by decide) (by decide) he hpl
theorem x_max2 (ha : XA X G [a, b] ms) (hm : X.mg "max" = none) (hc : X.calm = true := by rfl) (hg : Gl X "max" := by rfl) (he : starEach [a, b] X.env = (false, eval a X.env) :: starEach [b] X.env := by rfl) (hpl : (backTo pos (starEach [b] X.env)).any (·.1) = false := by rfl) : XE X G (.Call (.Name "max" p) [a, b] [] pos) (mFun max2D ms) := x_blt (call_max2 hc) okMax2 ha hm boot_max hg (by decide) (by decide) he hpl
theorem x_int1 (ha : XA X G [a] ms) (hm : X.mg "int" = none) (hg : Gl X "int" := by rfl) (he : starEach [a] X.env = (false, eval a X.env) :: starEach [] X.env := by rfl) : XE X G (.Call (.Name "int" p) [a] [] pos) (mFun int1D ms) := x_ty call_int1 okInt1 ha hm bootInt hg (by decide) (by decide) he
/-! ### len -/
def lenD : D → R
  | .list ds => .ok (.int ds.length)
  | .tuple ds => .ok (.int ds.length)
  | .str z => if z.length ≤ sizeLine then .ok (.int z.length) else .no
  | _ => .no
def mLen (ma : Ev → R) : Ev → R := fun ρ => (ma ρ).bind lenD
theorem x_len (ha : XB X G a ma) (hm : X.mg "len" = none) (hg : Gl X "len" := by rfl) (he : starEach [a] X.env = (false, eval a X.env) :: starEach [] X.env := by rfl) : XE X G (.Call (.Name "len" p) [a] [] pos) (mLen ma) :=
  ⟨fun ρ => (pe_callB (call_len_seq.or call_len_str) hg hm boot_len (pa_cons (ha.pe ρ) pa_nil he) (by decide) (by decide) he).imp fun σ H Q ⟨H0, S0, S, env, h⟩ => tB_bind env h fun d H' v _ x hv h' => by
    cases d with
    | list ds =>
      obtain ⟨l, vs, rfl, hl, k⟩ := hv.list
      refine .inl ⟨l, vs, rfl, .inl hl, ?_⟩
      rw [da_length k]
      exact post_val h' (.int _)
    | tuple ds =>
      obtain ⟨l, vs, rfl, hl, k⟩ := hv.tuple
      refine .inl ⟨l, vs, rfl, .inr hl, ?_⟩
      rw [da_length k]
      exact post_val h' (.int _)
    | str z =>
      obtain rfl := hv.str
      by_cases hz : z.length ≤ sizeLine
      · rw [show lenD (.str z) = _ from if_pos hz] at h'
        exact .inr ⟨z, rfl, hz, post_val h' (.int _)⟩
      · rw [show lenD (.str z) = _ from if_neg hz] at h'
        exact h'.elim
    | _ => exact h'.elim⟩
/-! ### isinstance with a built-in type -/
def tyN : D → String
  | .none => "NoneType"
  | .bool _ => "bool"
  | .int _ => "int"
  | .str _ => "str"
  | .list _ => "list"
  | .tuple _ => "tuple"
  | .dict _ => "dict"
def isT (T : String) (d : D) : Bool := tyN d == T || (tyN d == "bool" && T == "int")
def instD (T : String) (d : D) : R := .ok (.bool (isT T d))
def mInst (T : String) (ma : Ev → R) : Ev → R := fun ρ => (ma ρ).bind (instD T)
theorem tyX_of {S : List Addr} {H : Hp} {v : V} {d : D} (h : Dp K (hide S H) v d) : TyX K H v (.type (tyN d)) := by
  cases h with
  | non => exact .base .non
  | bl b => exact .base (.bl b)
  | int i => exact .base (.int i)
  | str s => exact .base (.str s)
  | lst h _ =>
    rcases ex_l hide_sub h with (h | ⟨o, h⟩) | ⟨o, its, n, h1, h2, _⟩
    · exact .base (.lst h)
    · exact .base (.frz h)
    · exact .kList h1 h2
  | tup h _ =>
    rcases ex_t hide_sub h with (h | ⟨o, h⟩) | ⟨o, its, n, h1, h2, _⟩
    · exact .base (.tup h)
    · exact .fTuple h
    · exact .kTuple h1 h2
/-- the types that are asked for -/
def askT (T : String) : Bool := T == "list" || T == "tuple" || T == "int" || T == "bool" || T == "str" || T == "dict"
theorem kit30 : ∀ a ∈ ["NoneType", "bool", "int", "str", "list", "tuple"], ∀ T ∈ ["list", "tuple", "int", "bool", "str", "dict"], kitB a T = some (a == T || (a == "bool" && T == "int")) := by decide +kernel
theorem kit_tyN {T : String} (hT : askT T = true) {d : D} (hd : ∀ kvs, d ≠ .dict kvs) : PySem.W.kitOne K (.type (tyN d)) (.type T) = some (isT T d) := by
  have m5 : T ∈ ["list", "tuple", "int", "bool", "str", "dict"] := by
    unfold askT at hT
    simp only [Bool.or_eq_true, beq_iff_eq] at hT
    simp only [List.mem_cons, List.not_mem_nil, or_false]
    rcases hT with ((((h | h) | h) | h) | h) | h
    · exact .inl h
    · exact .inr (.inl h)
    · exact .inr (.inr (.inl h))
    · exact .inr (.inr (.inr (.inl h)))
    · exact .inr (.inr (.inr (.inr (.inl h))))
    · exact .inr (.inr (.inr (.inr (.inr h))))
  have m6 : tyN d ∈ ["NoneType", "bool", "int", "str", "list", "tuple"] := by
    cases d with
    | dict kvs => exact absurd rfl (hd kvs)
    | _ => simp [tyN]
  exact kit_ty (kit30 _ m6 _ m5)
theorem x_inst {T : String} {y : Str} {p2 : Pos} (ha : XE X G a ma) (hm : X.mg "isinstance" = none) (hy : X.mg y = none) (hb : bootBuiltins y = some (.type T)) (hT : askT T = true := by decide) (hg : Gl X "isinstance" := by rfl) (hgy : Gl X y := by rfl) (hny : y ≠ "__name__" := by decide) (hdy : (y == ("__debug__" : Str)) = false := by decide)
    (he : starEach [a, .Name y p2] X.env = (false, eval a X.env) :: starEach [.Name y p2] X.env := by rfl) (he2 : starEach [.Name y p2] X.env = (false, eval (.Name y p2) X.env) :: starEach [] X.env := by rfl) (hpl : (backTo pos (starEach [.Name y p2] X.env)).any (·.1) = false := by rfl) :
    XE X G (.Call (.Name "isinstance" p) [a, .Name y p2] [] pos) (mInst T ma) :=
  ⟨fun ρ => (pe_callB call_isi hg hm boot_isinstance (pa_cons (ha.pe ρ) (pa_cons (pe_bltn (v := .ty T) hgy hy hb rfl hny hdy) pa_nil he2) he) (by decide) (by decide) he hpl).imp fun σ H Q ⟨H0, S0, S, env, h⟩ => tE_bind env h fun d H' v _ x hv h' => by
    refine ⟨v, .ty T, .type (tyN d), .type T, isT T d, rfl, .ty T, tyX_of hv, kit_tyN hT fun kvs z => ?_, post_val h' (.bl _)⟩
    subst z
    cases hv⟩
/-! ### tuple(x), list(x) -/
def toTupD : List D → Option D
  | [.list ds] => some (.tuple ds)
  | [.tuple ds] => some (.tuple ds)
  | _ => none
def mTupOf (ma : Ev → R) : Ev → R := fun ρ => (ma ρ).bind fun d => R.of (toTupD [d])
theorem x_tupOf (ha : XB X G a ma) (hm : X.mg "tuple" = none) (hg : Gl X "tuple" := by rfl) (he : starEach [a] X.env = (false, eval a X.env) :: starEach [] X.env := by rfl) : XE X G (.Call (.Name "tuple" p) [a] [] pos) (mTupOf ma) :=
  ⟨fun ρ => (pe_callTy call_tuple_of hg hm bootTuple (pa_cons (ha.pe ρ) pa_nil he) (by decide) (by decide) he).imp fun σ H Q ⟨H0, S0, S, env, h⟩ => tB_bind env h fun d H' v _ x hv h' => by
    cases d with
    | list ds =>
      obtain ⟨l, vs, rfl, hl, k⟩ := hv.list
      exact ⟨l, vs, rfl, .inl ⟨hl, fun p np => post_new h' np (new_tup (env.mono x).sH np k)⟩⟩
    | tuple ds =>
      obtain ⟨l, vs, rfl, hl, k⟩ := hv.tuple
      refine ⟨l, vs, rfl, .inr ⟨hl, ?_⟩⟩
      rcases hv with hv | ⟨_, _, _, _, e2, _⟩
      · exact post_val h' hv
      · cases e2
    | _ => exact h'.elim⟩
end
/-! ### the end of a law -/
theorem hide_nil {H : Hp} : hide [] H = H := by
  funext a
  unfold hide
  rw [if_neg (by simp)]
def scriptD (ns : List Int) : D := .list (ns.map .int)
theorem dp_ints {K : PySem.W.Frag} {H : Hp} : ∀ ns : List Int, DpAll K H (ns.map V.int) (ns.map .int)
  | [] => .nil
  | n :: r => .cons (.int n) (dp_ints r)
omit [TabNames] in
theorem walk_end {l : PySem.W.OpenLaw} {n k : Nat} {q : Program} {loose : List Str} {XP : (Str → Option Value) → Heap → Prop} {YP : World → Heap → Prop} {d : DefRec} {x : Str} {f : List D → R}
    (tb : World → TabNames) (hps : ∀ w, (tb w).ps = []) (hn : l.most = some n) (hn2 : n ≤ sizeLine) (hdf : d.params.defaults = []) (hr : Room k callerA)
    (F : ∀ (w : World) (mg : Str → Option Value) (fa : Addr) (h : Heap), YP w h → h.Ns mainGlobals mg → mg d.name = some (.ref fa) →
      ∃ (K : PySem.W.Frag) (fd : FuncData), K.In h ∧ (∀ (s : Shared) (u : Value), BindsTo s fd ⟨[u], []⟩ [(x, u)]) ∧
        ∀ base : Heap, K.In base → base.Ns mainGlobals mg → FnOk l.prog w K mg base (L2.CX l.prog w) k fa fd [x] (@SpF (tb w) K mg 1 f))
    (hf : World → ∀ ns : List Int, ns.length ≤ n → (∀ z ∈ ns, Builtin.Int.intBits z ≤ 1048576) → f [scriptD ns] = .ok (.bool true)) :
    PySem.W.WalkO q loose XP YP l.row.toRowW d [] (fun f vs => PySem.call f vs) := by
  refine Att.attach_callB hn hdf fun w s₀ s₁ mg mb fa o pm cd doc a vs ns Gd Y ho hd hcd hmg hobj hints hlen hbits hg => ?_
  obtain ⟨K, fd, KX, hb, hF⟩ := F w mg fa _ Y Gd.T.g hmg
  letI : TabNames := tb w
  refine law_call KX Gd.T.g Gd.T.b Gd.T.builtins Gd.T.nolimit hg hobj hints (Nat.le_trans hlen hn2) hr hF hb (fun H hO hS => ?_) fun H e s' hx => ?_
  · refine ⟨rfl, fun P m => absurd (hps w ▸ m) (by simp), [], [scriptD ns], fun _ z => (nomatch z), ?_, ?_⟩
    · rw [hide_nil]
      exact .cons (.lst hS (dp_ints ns)) .nil
    · rw [hf w ns hlen hbits]
      intro H' v _ hv
      cases hv
      rfl
  · obtain ⟨_, _, _, _, _, _, _, _, _, _, _, _, z⟩ := hx
    exact z
end FL
/-! the facts that a law's top leaves -/
namespace FL
open PySem PySem.Spec PyProof.Rows L2
abbrev Fk := PySem.W.Frag → Bool
abbrev ObsT : Type := Bool × List He.FnW
def obsK (fs : List Fk) (fn : List He.DefD) (K : PySem.W.Frag) : ObsT := ((fs.all fun f => f K) && (fn.all fun d => d.ok K), fn.map fun d => He.fnW K d.at_)
def wantK (fn : List He.DefD) : ObsT := (true, fn.map He.DefD.val)
def obsG (n : Nat) (fs : List Fk) (fn : List He.DefD) (g : Addr → Option Obj) : ObsT := obsK fs fn (He.frG g (He.asD g n))
def hookK (n : Nat) (fs : List Fk) (fn : List He.DefD) : PySem.W.Hook where
  α := ObsT
  obs s := obsG n fs fn s.heap.get?
  val _ := wantK fn
  says _ h := ∃ K : PySem.W.Frag, K.In h ∧ obsK fs fn K = wantK fn
  of _ _ e := ⟨_, He.frG_in, e⟩
  keeps _ _ _ p k := let ⟨K, hK, c⟩ := p; ⟨K, PySem.W.Frag.In.keeps hK k, c⟩
theorem obsG_eq {n : Nat} {fs : List Fk} {fn : List He.DefD} {g : Addr → Option Obj} {s : Shared} (h : ∀ a, g a = s.heap.get? a) : obsG n fs fn g = (hookK n fs fn).obs s := by
  have e : g = s.heap.get? := funext h
  rw [e]
  rfl
section
variable {fs : List Fk} {fn : List He.DefD} {K : PySem.W.Frag} {h : Heap} {mg : Str → Option Value}
theorem fact_at (c : obsK fs fn K = wantK fn) (i : Nat) {f : Fk} (e : fs[i]? = some f := by rfl) : f K = true := by
  have c1 : ((fs.all fun f => f K) && (fn.all fun d => d.ok K)) = true := congrArg Prod.fst c
  rw [Bool.and_eq_true] at c1
  exact List.all_eq_true.mp c1.1 f (List.mem_of_getElem? e)
theorem def_at (c : obsK fs fn K = wantK fn) (i : Nat) {d : He.DefD} (e : fn[i]? = some d := by rfl) : ∃ fd, FunD K d.name d.qual d.params d.body d.scope (d.dvs K) (d.kws K) (He.fAd K d.at_) fd := by
  have c1 : ((fs.all fun f => f K) && (fn.all fun d => d.ok K)) = true := congrArg Prod.fst c
  rw [Bool.and_eq_true] at c1
  have e1 : fn.map (fun d => He.fnW K d.at_) = fn.map He.DefD.val := congrArg Prod.snd c
  have e2 : (fn.map fun d => He.fnW K d.at_)[i]? = (fn.map He.DefD.val)[i]? := by rw [e1]
  rw [List.getElem?_map, List.getElem?_map, e] at e2
  exact He.DefD.funD (Option.some.inj e2) (List.all_eq_true.mp c1.2 d (List.mem_of_getElem? e))
/-! facts -/
def kFree (x : Str) : Fk := fun K => (He.Fa.free x).ok K
def kGlo (x : Str) : Fk := fun K => (He.Fa.glo x).ok K
def kInt (x : Str) (i : Int) : Fk := fun K => (He.Fa.int x i).ok K
def kStr (x z : Str) : Fk := fun K => (He.Fa.str x z).ok K
def kExc (x : Str) : Fk := fun K => (He.Fa.glo x).ok K && (He.Fa.exc x).ok K
def kExm (x y : Str) (b : Bool) : Fk := fun K => (He.Fa.exm x y b).ok K
def kKit (x y : Str) (b : Bool) : Fk := fun K => decide (PySem.W.kitOne K (.ref (He.ga K x)) (.ref (He.ga K y)) = some b)
def kTup (x : Str) (vs : List He.Dv) : Fk := fun K => (He.Fa.glo x).ok K && He.tupB K x vs
def kBlt (x : Str) (id : String) : Fk := fun K => He.eqO (PySem.W.nsIn K mainGlobals x) (some (some (.builtin id)))
def kExcC (x : Str) : Fk := fun K => He.eqO (PySem.W.findIn K (.ref (He.ga K x)) "__getattribute__") (some (some (.builtin "BaseException.__getattribute__"))) && (He.eqO (PySem.W.findIn K (.ref (He.ga K x)) "__getattr__") (some none) &&
  (decide (PySem.W.subIn K (.ref (He.ga K x)) (.type "BaseException") = some true) && (PySem.W.hasDictIn K (He.ga K x) && (He.eqO (PySem.W.findIn K (.ref (He.ga K x)) "__class__") (some (some (.builtin "object.__class__"))) &&
    (He.eqO (PySem.W.specialIn K (.builtin "object.__class__") "__get__") (some (some (.builtin "getset_descriptor.__get__"))) && (decide (PySem.W.takesIn K (.builtin "object.__class__") = some true) && decide (PySem.W.mroIn K (He.ga K x) (.type "object") = some true)))))))
theorem free_of (X : K.In h) (G : h.Ns mainGlobals mg) {x : Str} (c : kFree x K = true) : mg x = none := He.free_ok X G c
theorem blt_of (X : K.In h) (G : h.Ns mainGlobals mg) {x : Str} {id : String} (c : kBlt x id K = true) : mg x = some (.builtin id) := PySem.W.mg_of X G (He.eqO_ok c)
theorem int_of (X : K.In h) (G : h.Ns mainGlobals mg) {x : Str} {i : Int} (c : kInt x i K = true) : GlD K mg x (.int i) := by
  obtain ⟨t, e⟩ := He.int_ok X G c
  exact ⟨⟨.int i, _, e, ⟨t, rfl⟩, fun H => .int i⟩⟩
theorem str_of (X : K.In h) (G : h.Ns mainGlobals mg) {x z : Str} (c : kStr x z K = true) : GlD K mg x (.str z) := by
  obtain ⟨t, e⟩ := He.str_ok X G c
  exact ⟨⟨.str z, _, e, ⟨t, rfl⟩, fun H => .str z⟩⟩
/-- a written value as data -/
def dvD : He.Dv → D
  | .bl b => .bool b
  | .int i => .int i
  | .str z => .str z
  | _ => .none
def dvOk : He.Dv → Bool
  | .non | .bl _ | .int _ | .str _ => true
  | _ => false
theorem dv_dp {H : Hp} : ∀ {v : He.Dv}, dvOk v = true → Dp K H (v.v K) (dvD v)
  | .non, _ => .non
  | .bl b, _ => .bl b
  | .int i, _ => .int i
  | .str z, _ => .str z
  | .byt _, e => nomatch e
  | .flt _, e => nomatch e
  | .ty _, e => nomatch e
  | .glo _, e => nomatch e
  | .adr _, e => nomatch e
theorem dvs_dp {H : Hp} : ∀ {vs : List He.Dv}, vs.all dvOk = true → DpAll K H (vs.map (He.Dv.v K)) (vs.map dvD)
  | [], _ => .nil
  | v :: vs, e => by
    rw [List.all_cons, Bool.and_eq_true] at e
    exact .cons (dv_dp e.1) (dvs_dp e.2)
theorem tup_of (X : K.In h) (G : h.Ns mainGlobals mg) {x : Str} {vs : List He.Dv} (c : kTup x vs K = true) (hv : vs.all dvOk = true := by decide) : GlD K mg x (.tuple (vs.map dvD)) := by
  obtain ⟨c1, c2⟩ := He.ba (show ((He.Fa.glo x).ok K && He.tupB K x vs) = true from c)
  exact ⟨⟨.ref (He.ga K x), _, He.glo_ok X G c1, rfl, fun H => .tup (He.tupB_ok c2 H) (dvs_dp hv)⟩⟩
theorem exc_of (X : K.In h) (G : h.Ns mainGlobals mg) {x : Str} (c : kExc x K = true) : Exc K mg x := by
  obtain ⟨c1, c2⟩ := He.ba (show ((He.Fa.glo x).ok K && (He.Fa.exc x).ok K) = true from c)
  obtain ⟨h1, h2, h3, h4⟩ := He.exc_ok c2
  exact ⟨⟨_, He.glo_ok X G c1, h1, h2, h3, h4⟩⟩
/-- how the class c stands to the class that is named -/
structure ExcTo (K : PySem.W.Frag) (mg : Str → Option Value) (c y : Str) (b : Bool) : Prop where
  exm : ∀ C D, mg c = some (.ref C) → mg y = some (.ref D) → PySem.W.exmOne K (.ref C) (.ref D) = some b
  kit : ∀ C D, mg c = some (.ref C) → mg y = some (.ref D) → PySem.W.kitOne K (.ref C) (.ref D) = some b
  exc : ∀ C, mg c = some (.ref C) → L2.ExcC K C
def kTo (c y : Str) (b : Bool) : Fk := fun K => (kExc c K && kExc y K) && (kExm c y b K && (kKit c y b K && kExcC c K))
theorem excC_of {x : Str} (c : kExcC x K = true) : L2.ExcC K (He.ga K x) := by
  obtain ⟨c1, c⟩ := He.ba c
  obtain ⟨c2, c⟩ := He.ba c
  obtain ⟨c3, c⟩ := He.ba c
  obtain ⟨c4, c⟩ := He.ba c
  obtain ⟨c5, c⟩ := He.ba c
  obtain ⟨c6, c⟩ := He.ba c
  obtain ⟨c7, c8⟩ := He.ba c
  exact ⟨He.eqO_ok c1, He.eqO_ok c2, of_decide_eq_true c3, c4, He.eqO_ok c5, He.eqO_ok c6, of_decide_eq_true c7, of_decide_eq_true c8⟩
theorem to_of (X : K.In h) (G : h.Ns mainGlobals mg) {c y : Str} {b : Bool} (f : kTo c y b K = true) : ExcTo K mg c y b := by
  obtain ⟨f1, f2⟩ := He.ba f
  obtain ⟨f3, f4⟩ := He.ba f1
  obtain ⟨f5, f6⟩ := He.ba f2
  obtain ⟨f7, f8⟩ := He.ba f6
  have g1 := He.glo_ok X G (He.ba f3).1
  have g2 := He.glo_ok X G (He.ba f4).1
  refine ⟨fun C D e1 e2 => ?_, fun C D e1 e2 => ?_, fun C e1 => ?_⟩
  · rw [g1] at e1
    rw [g2] at e2
    cases e1
    cases e2
    exact He.exm_ok f5
  · rw [g1] at e1
    rw [g2] at e2
    cases e1
    cases e2
    exact of_decide_eq_true f7
  · rw [g1] at e1
    cases e1
    exact excC_of f8
def mkDef (x : Str) (st : Stmt) : He.DefD := ⟨(x, none), x, x, defArgs st, defBody st, defScope st, [], []⟩
theorem defAt_of (X : K.In h) (G : h.Ns mainGlobals mg) {x : Str} {st : Stmt} {ps : List Str} (f : kGlo x K = true) (d : ∃ fd, FunD K x x (defArgs st) (defBody st) (defScope st) ((mkDef x st).dvs K) ((mkDef x st).kws K) (He.fAd K (x, none)) fd)
    (hb : ∀ (kV doc pm : Value) (an : Option Addr) (cdv ct : Value) (us : List Value), us.length = ps.length → bindArgs (PySem.W.fnOf x x (defArgs st) (defBody st) (defScope st) .none kV doc pm an cdv ct) ⟨us, []⟩ = pure (ps.zip us)) :
    ∃ fd, DefAt K mg x st ps (He.ga K x) fd := by
  obtain ⟨fd, F⟩ := d
  exact ⟨fd, F, He.glo_ok X G f, FunD.bindsN F hb⟩
theorem names_of {X : Cx} {x : Str} {C : Addr} (e : X.mg x = some (.ref C)) (hg : Gl X x := by rfl) (hd : (x == ("__debug__" : Str)) = false := by decide) : Names X x (.ref C) := ⟨hg, hd, .inl e⟩
end
end FL
/-! plain evaluation: how the mirrors reduce -/
namespace FL
open PySem PySem.Spec PyProof.Rows L2
section
variable {d x y : D} {f : D → R} {k : D → Out} {r r2 : R} {o o2 : Out} {ρ : Ev} {i j : Int} {b c : Bool} {P : Prop} [Decidable P]
@[simp] theorem ev_bok : (R.ok d).bind f = f d := Eq.trans rfl rfl
@[simp] theorem ev_bex {z : Str} : (R.ex z).bind f = .ex z := Eq.trans rfl rfl
@[simp] theorem ev_bno : R.no.bind f = .no := Eq.trans rfl rfl
@[simp] theorem ev_bif : (if P then r else r2).bind f = if P then r.bind f else r2.bind f := by split <;> rfl
@[simp] theorem ev_gok : (R.ok d).go ρ k = k d := Eq.trans rfl rfl
@[simp] theorem ev_gex {z : Str} : (R.ex z).go ρ k = .ex z ρ := Eq.trans rfl rfl
@[simp] theorem ev_gno : R.no.go ρ k = .no := Eq.trans rfl rfl
@[simp] theorem ev_gif : (if P then r else r2).go ρ k = if P then r.go ρ k else r2.go ρ k := by split <;> rfl
@[simp] theorem ev_ofs : R.of (some d) = .ok d := Eq.trans rfl rfl
@[simp] theorem ev_ofn : R.of none = .no := Eq.trans rfl rfl
@[simp] theorem ev_tnx {m : Ev → Out} : (Out.nx ρ).then m = m ρ := Eq.trans rfl rfl
@[simp] theorem ev_trt {m : Ev → Out} : (Out.ret d).then m = .ret d := Eq.trans rfl rfl
@[simp] theorem ev_tex {m : Ev → Out} {z : Str} : (Out.ex z ρ).then m = .ex z ρ := Eq.trans rfl rfl
@[simp] theorem ev_tbk {m : Ev → Out} : (Out.bk ρ).then m = .bk ρ := Eq.trans rfl rfl
@[simp] theorem ev_tct {m : Ev → Out} : (Out.ct ρ).then m = .ct ρ := Eq.trans rfl rfl
@[simp] theorem ev_tno {m : Ev → Out} : Out.no.then m = .no := Eq.trans rfl rfl
@[simp] theorem ev_tif {m : Ev → Out} : (if P then o else o2).then m = if P then o.then m else o2.then m := by split <;> rfl
@[simp] theorem ev_yrt : bodyR (.ret d) = .ok d := Eq.trans rfl rfl
@[simp] theorem ev_ynx : bodyR (.nx ρ) = .ok .none := Eq.trans rfl rfl
@[simp] theorem ev_yex {z : Str} : bodyR (.ex z ρ) = .ex z := Eq.trans rfl rfl
@[simp] theorem ev_yif : bodyR (if P then o else o2) = if P then bodyR o else bodyR o2 := by split <;> rfl
/-! names and constants -/
def getV : Option Sl → R
  | some (.d x) => .ok x
  | _ => .no
@[simp] theorem ev_getV : getV (some (.d x)) = .ok x := Eq.trans rfl rfl
@[simp] theorem ev_var {n : Nat} : mVar n ρ = getV ρ[n]? := Eq.trans rfl rfl
def getB : Option Sl → R
  | some (.d x) => .ok x
  | some (.ol xs) => .ok (.list xs)
  | _ => .no
@[simp] theorem ev_getB : getB (some (.d x)) = .ok x := Eq.trans rfl rfl
@[simp] theorem ev_getB2 {xs : List D} : getB (some (.ol xs)) = .ok (.list xs) := Eq.trans rfl rfl
@[simp] theorem ev_varB {n : Nat} : mVarB n ρ = getB ρ[n]? := Eq.trans rfl rfl
@[simp] theorem ev_c : mC d ρ = .ok d := Eq.trans rfl rfl
/-! operators -/
variable {ma mb mc : Ev → R} {g h : D → D → Option D}
@[simp] theorem ev_bin : mBin g ma mb ρ = (ma ρ).bind fun x => (mb ρ).bind fun y => R.of (g x y) := Eq.trans rfl rfl
@[simp] theorem ev_add : mAdd = mBin addD := Eq.trans rfl rfl
@[simp] theorem ev_sub : mSub = mBin subD := Eq.trans rfl rfl
@[simp] theorem ev_mul : mMul = mBin mulD := Eq.trans rfl rfl
@[simp] theorem ev_fdiv : mFdiv = mBin fdivD := Eq.trans rfl rfl
@[simp] theorem ev_mod : mMod = mBin modD := Eq.trans rfl rfl
@[simp] theorem ev_shl : mShl = mBin shlD := Eq.trans rfl rfl
@[simp] theorem ev_shr : mShr = mBin shrD := Eq.trans rfl rfl
@[simp] theorem ev_and_ : mAnd = mBin andD := Eq.trans rfl rfl
@[simp] theorem ev_mEq : mEq = mBin eqD := Eq.trans rfl rfl
@[simp] theorem ev_mNe : mNe = mBin neD := Eq.trans rfl rfl
@[simp] theorem ev_mIn : mIn = mBin (memD false) := Eq.trans rfl rfl
@[simp] theorem ev_mNotIn : mNotIn = mBin (memD true) := Eq.trans rfl rfl
@[simp] theorem ev_mIs : mIs = mBin (isD false) := Eq.trans rfl rfl
@[simp] theorem ev_mIsNot : mIsNot = mBin (isD true) := Eq.trans rfl rfl
@[simp] theorem ev_cmpI {p : Int → Int → Bool} : cmpI p (.int i) (.int j) = some (.bool (p i j)) := Eq.trans rfl rfl
@[simp] theorem ev_addI : addD (.int i) (.int j) = some (.int (i + j)) := Eq.trans rfl rfl
@[simp] theorem ev_subI : subD (.int i) (.int j) = some (.int (i - j)) := Eq.trans rfl rfl
@[simp] theorem ev_addT {xs ys : List D} (q : xs.length + ys.length ≤ sizeLine) : addD (.tuple xs) (.tuple ys) = some (.tuple (xs ++ ys)) := if_pos q
@[simp] theorem ev_addL {xs ys : List D} (q : xs.length + ys.length ≤ sizeLine) : addD (.list xs) (.list ys) = some (.list (xs ++ ys)) := if_pos q
@[simp] theorem ev_subB : subD (.bool b) (.bool c) = some (.int (b2i b - b2i c)) := Eq.trans rfl rfl
theorem bits_le {n : Nat} (q : i.natAbs < 2 ^ n) : Builtin.Int.intBits i ≤ n := by
  unfold Builtin.Int.intBits
  split
  · omega
  · rename_i e
    have ne : i.natAbs ≠ 0 := fun z => e (by rw [Int.natAbs_eq_zero.mp z]; rfl)
    exact (Nat.log2_lt ne).mpr q
theorem ev_mulr (q1 : -18446744073709551616 < j) (q2 : j < 18446744073709551616) : mulB i j = true := decide_eq_true (IntMulOk.of_right (bits_le (by omega)))
theorem ev_mull (q1 : -18446744073709551616 < i) (q2 : i < 18446744073709551616) : mulB i j = true := decide_eq_true (IntMulOk.of_left (bits_le (by omega)))
theorem ev_mulN (n m : Nat) (q1 : i.natAbs < 2 ^ n) (q2 : j.natAbs < 2 ^ m) (q : n + m ≤ 134217728) : mulB i j = true := by
  refine decide_eq_true fun z => ?_
  have a1 := bits_le q1
  have a2 := bits_le q2
  rw [Bool.and_eq_true] at z
  have z2 : ((Builtin.Int.intBits i + Builtin.Int.intBits j : Nat) : Int) > (bitsLine : Nat) := of_decide_eq_true z.2
  have z3 : bitsLine = 134217728 := rfl
  omega
@[simp] theorem ev_mulI (q : mulB i j = true) : mulD (.int i) (.int j) = some (.int (i * j)) := if_pos q
@[simp] theorem ev_mulIl (q1 : -18446744073709551616 < i) (q2 : i < 18446744073709551616) : mulD (.int i) (.int j) = some (.int (i * j)) := if_pos (ev_mull q1 q2)
@[simp] theorem ev_mulIr (q1 : -18446744073709551616 < j) (q2 : j < 18446744073709551616) : mulD (.int i) (.int j) = some (.int (i * j)) := if_pos (ev_mulr q1 q2)
theorem divB_lit (q : j.natAbs < 2 ^ 9000) : divB i j = true := by
  unfold divB
  by_cases q0 : j.natAbs = 0
  · rw [q0]
    rfl
  · rw [decide_eq_true ((Nat.log2_lt q0).mpr q), Bool.or_true, Bool.true_or]
theorem ev_divI (q0 : 0 < j) (q : divB i j = true) : fdivD (.int i) (.int j) = some (.int (i / j)) := (if_pos q0).trans (if_pos q)
@[simp] theorem ev_divIl (q0 : 0 < j) (q : j < 1606938044258990275541962092341162602522202993782792835301376) : fdivD (.int i) (.int j) = some (.int (i / j)) := ev_divI q0 (divB_lit (Nat.lt_of_lt_of_le (by omega : j.natAbs < 1606938044258990275541962092341162602522202993782792835301376) (Nat.le_trans (by decide : 1606938044258990275541962092341162602522202993782792835301376 ≤ 2 ^ 200) (Nat.pow_le_pow_right (by decide) (by decide)))))
@[simp] theorem ev_modI (q0 : 0 < j) : modD (.int i) (.int j) = some (.int (i % j)) := if_pos q0
@[simp] theorem ev_shrI (q0 : 0 ≤ j) : shrD (.int i) (.int j) = some (.int (i / 2 ^ j.toNat)) := if_pos q0
theorem ev_shlI (q : shlB i j = true) : shlD (.int i) (.int j) = some (.int (i * 2 ^ j.toNat)) := if_pos q
theorem shl_ok {n m : Nat} (q1 : i.natAbs < 2 ^ n) (q2 : 0 ≤ j) (q3 : j ≤ m) (q : n + m ≤ 134217728) : shlB i j = true := by
  have a1 := bits_le q1
  unfold shlB
  rw [Bool.and_eq_true]
  exact ⟨decide_eq_true q2, decide_eq_true (by omega)⟩
@[simp] theorem ev_andI : andD (.int i) (.int j) = some (.int (Builtin.bitAnd i j)) := Eq.trans rfl rfl
/-! equality -/
@[simp] theorem shp_n : shp .none = true := Eq.trans rfl rfl
@[simp] theorem shp_b : shp (.bool b) = true := Eq.trans rfl rfl
@[simp] theorem shp_i : shp (.int i) = true := Eq.trans rfl rfl
theorem eqD_ok (q1 : shp x = true) (q2 : shp y = true) : eqD x y = some (.bool (PyData.eqv x y)) := if_pos (by rw [q1, q2]; rfl)
theorem neD_ok (q1 : shp x = true) (q2 : shp y = true) : neD x y = some (.bool (!PyData.eqv x y)) := if_pos (by rw [q1, q2]; rfl)
@[simp] theorem ev_eqI : eqD (.int i) (.int j) = some (.bool (decide (i = j))) := by
  rw [eqD_ok rfl rfl, PyData.eqv]
  exact congrArg (fun z => some (PyData.bool z)) (by by_cases e : i = j <;> simp [e])
@[simp] theorem ev_neI : neD (.int i) (.int j) = some (.bool (!decide (i = j))) := by
  rw [neD_ok rfl rfl, PyData.eqv]
  exact congrArg (fun z => some (PyData.bool !z)) (by by_cases e : i = j <;> simp [e])
@[simp] theorem ev_eqB : eqD (.bool b) (.bool c) = some (.bool (b == c)) := by rw [eqD_ok rfl rfl, PyData.eqv]
@[simp] theorem ev_neB : neD (.bool b) (.bool c) = some (.bool (!(b == c))) := by rw [neD_ok rfl rfl, PyData.eqv]
@[simp] theorem ev_isB {n : Bool} : isD n (.bool b) (.bool c) = some (.bool (n != decide (b = c))) := Eq.trans rfl rfl
@[simp] theorem ev_isN {n : Bool} : isD n .none .none = some (.bool (n != true)) := Eq.trans rfl rfl
@[simp] theorem ev_isNi {n : Bool} : isD n (.int i) .none = some (.bool (n != false)) := Eq.trans rfl rfl
@[simp] theorem ev_isNb {n : Bool} : isD n (.bool b) .none = some (.bool (n != false)) := Eq.trans rfl rfl
@[simp] theorem ev_isNs {n : Bool} {z : Str} : isD n (.str z) .none = some (.bool (n != false)) := Eq.trans rfl rfl
@[simp] theorem ev_isNt {n : Bool} {xs : List D} : isD n (.tuple xs) .none = some (.bool (n != false)) := Eq.trans rfl rfl
@[simp] theorem ev_isNl {n : Bool} {xs : List D} : isD n (.list xs) .none = some (.bool (n != false)) := Eq.trans rfl rfl
@[simp] theorem ev_eqN : eqD .none .none = some (.bool true) := by rw [eqD_ok rfl rfl, PyData.eqv]
def lowD : Nat → D → Prop
  | 0, d => match d with
    | .none | .bool _ | .int _ => True
    | .str z => shp (.str z) = true
    | _ => False
  | k + 1, d => match d with
    | .none | .bool _ | .int _ => True
    | .str z => shp (.str z) = true
    | .list ds => ds.length < 1000000 ∧ ∀ x ∈ ds, lowD k x
    | .tuple ds => ds.length < 1000000 ∧ ∀ x ∈ ds, lowD k x
    | _ => False
theorem eqv_str (z : Str) : PyData.eqv (.str z) (.str z) = true := by simp [PyData.eqv]
theorem mem_range {m : Nat} {x : D} (h : x ∈ rangeD 0 m) : ∃ j : Nat, j < m ∧ x = .int (j : Int) := by
  unfold rangeD at h
  obtain ⟨j, hj, rfl⟩ := List.mem_map.mp h
  exact ⟨j, List.mem_range.mp hj, by simp⟩
@[simp] theorem len_range {lo : Int} {m : Nat} : (rangeD lo m).length = m := by simp [rangeD]
theorem low_ok : ∀ {k : Nat} {d : D}, lowD k d → d.canLay0 = true ∧ d.depth ≤ k ∧ PyData.eqv d d = true
  | k, .none, _ => ⟨rfl, Nat.zero_le _, by simp [PyData.eqv]⟩
  | k, .bool b, _ => ⟨rfl, Nat.zero_le _, by simp [PyData.eqv]⟩
  | k, .int b, _ => ⟨rfl, Nat.zero_le _, by simp [PyData.eqv]⟩
  | 0, .str z, h => ⟨(Bool.and_eq_true_iff.mp (show (_ && _) = true from h)).1, Nat.zero_le _, eqv_str z⟩
  | k + 1, .str z, h => ⟨(Bool.and_eq_true_iff.mp (show (_ && _) = true from h)).1, Nat.zero_le _, eqv_str z⟩
  | 0, .list ds, h => h.elim
  | 0, .tuple ds, h => h.elim
  | 0, .dict ds, h => h.elim
  | k + 1, .dict ds, h => h.elim
  | k + 1, .list ds, h => by
    have z : ∀ ds : List D, (∀ x ∈ ds, lowD k x) → PyData.canLayAll0 ds = true ∧ PyData.depthAll ds ≤ k ∧ PyData.eqvAll ds ds = true := by
      intro ds
      induction ds with
      | nil => exact fun _ => ⟨rfl, Nat.zero_le _, by rw [PyData.eqvAll]⟩
      | cons x xs ih =>
        intro q
        obtain ⟨a1, a2, a3⟩ := low_ok (q x (List.mem_cons_self ..))
        obtain ⟨b1, b2, b3⟩ := ih fun y hy => q y (List.mem_cons_of_mem _ hy)
        refine ⟨?_, ?_, ?_⟩
        · rw [PyData.canLayAll0, a1, b1]
          rfl
        · rw [PyData.depthAll]
          omega
        · rw [PyData.eqvAll, a3, b3]
          rfl
    obtain ⟨a1, a2, a3⟩ := z ds h.2
    refine ⟨?_, ?_, ?_⟩
    · rw [PyData.canLay0, a1]
    · rw [PyData.depth]
      omega
    · rw [PyData.eqv, a3]
  | k + 1, .tuple ds, h => by
    have z : ∀ ds : List D, (∀ x ∈ ds, lowD k x) → PyData.canLayAll0 ds = true ∧ PyData.depthAll ds ≤ k ∧ PyData.eqvAll ds ds = true := by
      intro ds
      induction ds with
      | nil => exact fun _ => ⟨rfl, Nat.zero_le _, by rw [PyData.eqvAll]⟩
      | cons x xs ih =>
        intro q
        obtain ⟨a1, a2, a3⟩ := low_ok (q x (List.mem_cons_self ..))
        obtain ⟨b1, b2, b3⟩ := ih fun y hy => q y (List.mem_cons_of_mem _ hy)
        refine ⟨?_, ?_, ?_⟩
        · rw [PyData.canLayAll0, a1, b1]
          rfl
        · rw [PyData.depthAll]
          omega
        · rw [PyData.eqvAll, a3, b3]
          rfl
    obtain ⟨a1, a2, a3⟩ := z ds h.2
    refine ⟨?_, ?_, ?_⟩
    · rw [PyData.canLay0, a1]
    · rw [PyData.depth]
      omega
    · rw [PyData.eqv, a3]
theorem shp_low {k : Nat} (h : lowD k x) (q : k ≤ 64 := by decide) : shp x = true := by
  obtain ⟨a1, a2, _⟩ := low_ok h
  show (_ && _) = true
  rw [a1, decide_eq_true (Nat.le_trans a2 q)]
  rfl
theorem eq_low {k : Nat} (h : lowD k x) (q : k ≤ 64 := by decide) : eqD x x = some (.bool true) := by rw [eqD_ok (shp_low h q) (shp_low h q), (low_ok h).2.2]
theorem ne_low {k : Nat} (h : lowD k x) (q : k ≤ 64 := by decide) : neD x x = some (.bool false) := by
  rw [neD_ok (shp_low h q) (shp_low h q), (low_ok h).2.2]
  rfl
theorem low_up : ∀ {k : Nat} {d : D}, lowD k d → lowD (k + 1) d
  | k, .none, _ => trivial
  | k, .bool _, _ => trivial
  | k, .int _, _ => trivial
  | 0, .str z, h => h
  | k + 1, .str z, h => h
  | 0, .list _, h => h.elim
  | 0, .tuple _, h => h.elim
  | k + 1, .list _, h => ⟨h.1, fun x hx => low_up (h.2 x hx)⟩
  | k + 1, .tuple _, h => ⟨h.1, fun x hx => low_up (h.2 x hx)⟩
  | 0, .dict _, h => h.elim
  | k + 1, .dict _, h => h.elim
/-! tests -/
def chK (g h : D → D → Option D) (r : R) (x y : D) : R := match g x y with
  | some (.bool true) => r.bind fun z => R.of (h y z)
  | some (.bool false) => .ok (.bool false)
  | _ => .no
@[simp] theorem ev_chain : mChain g h ma mb mc ρ = (ma ρ).bind fun x => (mb ρ).bind fun y => chK g h (mc ρ) x y := Eq.trans rfl rfl
@[simp] theorem ev_chK {p q : Int → Int → Bool} {u : Int} : chK (cmpI p) (cmpI q) (.ok (.int u)) (.int i) (.int j) = .ok (.bool (p i j && q j u)) := by
  unfold chK
  rw [ev_cmpI]
  cases p i j <;> rfl
def andK (r : R) : D → R
  | .bool true => r
  | .bool false => .ok (.bool false)
  | _ => .no
def orK (r : R) : D → R
  | .bool false => r
  | .bool true => .ok (.bool true)
  | _ => .no
@[simp] theorem ev_and2 : mAnd2 ma mb ρ = (ma ρ).bind (andK (mb ρ)) := Eq.trans rfl rfl
@[simp] theorem ev_or2 : mOr2 ma mb ρ = (ma ρ).bind (orK (mb ρ)) := Eq.trans rfl rfl
@[simp] theorem ev_andK : andK (.ok (.bool c)) (.bool b) = .ok (.bool (b && c)) := by cases b <;> rfl
@[simp] theorem ev_orK : orK (.ok (.bool c)) (.bool b) = .ok (.bool (b || c)) := by cases b <;> rfl
@[simp] theorem ev_andF : andK r (.bool false) = .ok (.bool false) := Eq.trans rfl rfl
@[simp] theorem ev_andT : andK r (.bool true) = r := Eq.trans rfl rfl
@[simp] theorem ev_orT : orK r (.bool true) = .ok (.bool true) := Eq.trans rfl rfl
@[simp] theorem ev_orF : orK r (.bool false) = r := Eq.trans rfl rfl
theorem ev_andI2 : andK r (.bool b) = if b = true then r else .ok (.bool false) := by cases b <;> rfl
theorem ev_orI2 : orK r (.bool b) = if b = true then .ok (.bool true) else r := by cases b <;> rfl
@[simp] theorem ev_not : mNot ma ρ = (ma ρ).bind notD := Eq.trans rfl rfl
@[simp] theorem ev_notD : notD (.bool b) = .ok (.bool !b) := Eq.trans rfl rfl
@[simp] theorem ev_neg : mNeg ma ρ = (ma ρ).bind negD := Eq.trans rfl rfl
@[simp] theorem ev_negD : negD (.int i) = .ok (.int (-i)) := Eq.trans rfl rfl
def ifK (r r2 : R) : D → R
  | .bool true => r
  | .bool false => r2
  | _ => .no
@[simp] theorem ev_if : mIf mc ma mb ρ = (mc ρ).bind (ifK (ma ρ) (mb ρ)) := Eq.trans rfl rfl
@[simp] theorem ev_ifK : ifK r r2 (.bool b) = if b = true then r else r2 := by cases b <;> rfl
def ifO (r r2 : Out) : D → Out
  | .bool true => r
  | .bool false => r2
  | _ => .no
variable {m1 m2 : Ev → Out}
@[simp] theorem ev_ifS : mIfS mc m1 m2 ρ = (mc ρ).go ρ (ifO (m1 ρ) (m2 ρ)) := Eq.trans rfl rfl
@[simp] theorem ev_ifO : ifO o o2 (.bool b) = if b = true then o else o2 := by cases b <;> rfl
/-! rows of values -/
variable {ds xs ys : List D}
@[simp] theorem ev_nil : mNil ρ = .ok (.list []) := Eq.trans rfl rfl
@[simp] theorem ev_cons : mCons ma mb ρ = (ma ρ).bind fun x => (mb ρ).bind fun y => consD x y := Eq.trans rfl rfl
@[simp] theorem ev_consD : consD x (.list ds) = .ok (.list (x :: ds)) := Eq.trans rfl rfl
@[simp] theorem ev_tup : mTup ma ρ = (ma ρ).bind tupD := Eq.trans rfl rfl
@[simp] theorem ev_tupD (q : ds.length ≤ sizeLine) : tupD (.list ds) = .ok (.tuple ds) := if_pos q
@[simp] theorem ev_lst : mLst ma ρ = (ma ρ).bind lstD := Eq.trans rfl rfl
@[simp] theorem ev_lstD (q : ds.length ≤ sizeLine) : lstD (.list ds) = .ok (.list ds) := if_pos q
@[simp] theorem ev_ix : mIx ma mb ρ = (ma ρ).bind fun x => (mb ρ).bind fun y => ixD x y := Eq.trans rfl rfl
@[simp] theorem ev_ixL : ixD (.list ds) (.int i) = R.of (atI ds i) := Eq.trans rfl rfl
@[simp] theorem ev_ixT : ixD (.tuple ds) (.int i) = R.of (atI ds i) := Eq.trans rfl rfl
theorem atI_nat {n : Nat} (q : n < ds.length) : atI ds (n : Int) = some ds[n] := by
  unfold atI ixN
  rw [if_pos (Int.natCast_nonneg n), if_pos (by omega)]
  simp [q]
theorem atI_of (q1 : 0 ≤ i) (q2 : i < ds.length) : atI ds i = ds[i.toNat]? := by
  unfold atI ixN
  rw [if_pos q1, if_pos q2]
  rfl
@[simp] theorem atI_0 : atI (x :: ds) 0 = some x := (atI_nat (n := 0) (by simp)).trans rfl
theorem atI_s {n : Nat} : atI (x :: ds) ((n + 1 : Nat) : Int) = atI ds (n : Int) := by
  unfold atI ixN
  rw [if_pos (Int.natCast_nonneg _), if_pos (Int.natCast_nonneg _)]
  by_cases e : n < ds.length
  · rw [if_pos (by simp; omega), if_pos (by omega)]
    rfl
  · rw [if_neg (by simp; omega), if_neg (by omega)]
    rfl
variable {x0 x1 x2 x3 x4 x5 x6 x7 x8 : D}
@[simp] theorem atI_1 : atI (x0 :: x1 :: ds) 1 = some x1 := (atI_s (n := 0)).trans atI_0
@[simp] theorem atI_2 : atI (x0 :: x1 :: x2 :: ds) 2 = some x2 := (atI_s (n := 1)).trans atI_1
@[simp] theorem atI_3 : atI (x0 :: x1 :: x2 :: x3 :: ds) 3 = some x3 := (atI_s (n := 2)).trans atI_2
@[simp] theorem atI_4 : atI (x0 :: x1 :: x2 :: x3 :: x4 :: ds) 4 = some x4 := (atI_s (n := 3)).trans atI_3
@[simp] theorem atI_5 : atI (x0 :: x1 :: x2 :: x3 :: x4 :: x5 :: ds) 5 = some x5 := (atI_s (n := 4)).trans atI_4
@[simp] theorem atI_6 : atI (x0 :: x1 :: x2 :: x3 :: x4 :: x5 :: x6 :: ds) 6 = some x6 := (atI_s (n := 5)).trans atI_5
@[simp] theorem atI_7 : atI (x0 :: x1 :: x2 :: x3 :: x4 :: x5 :: x6 :: x7 :: ds) 7 = some x7 := (atI_s (n := 6)).trans atI_6
/-- an index within an exhaustive list -/
theorem atI_mem (q1 : 0 ≤ i) (q2 : i < ds.length) : ∃ d ∈ ds, atI ds i = some d := by
  rw [atI_of q1 q2]
  have q3 : i.toNat < ds.length := by omega
  exact ⟨ds[i.toNat], List.getElem_mem q3, List.getElem?_eq_getElem q3⟩
@[simp] theorem ev_mint : mInt ma ρ = (ma ρ).bind intD := Eq.trans rfl rfl
@[simp] theorem ev_intD : intD (.int i) = .ok (.int i) := Eq.trans rfl rfl
@[simp] theorem ev_sl {ml mh : Ev → R} : mSl ma ml mh ρ = (ma ρ).bind fun x => (ml ρ).bind fun l => (mh ρ).bind fun h => slD x (partD l) (partD h) := Eq.trans rfl rfl
@[simp] theorem ev_rev : mRev ma ρ = (ma ρ).bind revD := Eq.trans rfl rfl
@[simp] theorem ev_revD : revD (.list ds) = .ok (.list ds.reverse) := Eq.trans rfl rfl
@[simp] theorem ev_len : mLen ma ρ = (ma ρ).bind lenD := Eq.trans rfl rfl
@[simp] theorem ev_lenL : lenD (.list ds) = .ok (.int ds.length) := Eq.trans rfl rfl
@[simp] theorem ev_lenT : lenD (.tuple ds) = .ok (.int ds.length) := Eq.trans rfl rfl
@[simp] theorem ev_inst {T : String} : mInst T ma ρ = (ma ρ).bind (instD T) := Eq.trans rfl rfl
@[simp] theorem ev_instD {T : String} : instD T d = .ok (.bool (isT T d)) := Eq.trans rfl rfl
@[simp] theorem isT_n {T : String} : isT T .none = (("NoneType" == T) || false) := by simp [isT, tyN]
@[simp] theorem isT_b {T : String} : isT T (.bool b) = (("bool" == T) || (T == "int")) := by simp [isT, tyN]
@[simp] theorem isT_i {T : String} : isT T (.int i) = (("int" == T) || false) := by simp [isT, tyN]
@[simp] theorem isT_s {T : String} {z : Str} : isT T (.str z) = (("str" == T) || false) := by simp [isT, tyN]
@[simp] theorem isT_l {T : String} : isT T (.list ds) = (("list" == T) || false) := by simp [isT, tyN]
@[simp] theorem isT_t {T : String} : isT T (.tuple ds) = (("tuple" == T) || false) := by simp [isT, tyN]
@[simp] theorem ev_tupOf : mTupOf ma ρ = (ma ρ).bind fun d => R.of (toTupD [d]) := Eq.trans rfl rfl
@[simp] theorem ev_toTup : toTupD [.list ds] = some (.tuple ds) := Eq.trans rfl rfl
@[simp] theorem ev_toTup2 : toTupD [.tuple ds] = some (.tuple ds) := Eq.trans rfl rfl
def argK (f : List D → R) : D → R
  | .list ds => f ds
  | _ => .no
@[simp] theorem ev_call {f : List D → R} : mCall f ma ρ = (ma ρ).bind (argK f) := Eq.trans rfl rfl
@[simp] theorem ev_argK {f : List D → R} : argK f (.list ds) = f ds := Eq.trans rfl rfl
@[simp] theorem ev_fun {f : List D → Option D} : mFun f ma ρ = (ma ρ).bind (argK fun ds => R.of (f ds)) := Eq.trans rfl rfl
@[simp] theorem ev_abs : absD [.int i] = some (.int (if i < 0 then -i else i)) := Eq.trans rfl rfl
@[simp] theorem ev_min : min2D [.int i, .int j] = some (.int (if j < i then j else i)) := Eq.trans rfl rfl
@[simp] theorem ev_max : max2D [.int i, .int j] = some (.int (if j > i then j else i)) := Eq.trans rfl rfl
@[simp] theorem ev_int1 : int1D [.int i] = some (.int i) := Eq.trans rfl rfl
@[simp] theorem ev_int2 : int1D [.bool b] = some (.int (if b then 1 else 0)) := Eq.trans rfl rfl
/-! statements -/
@[simp] theorem ev_seq : mSeq m1 m2 ρ = (m1 ρ).then m2 := Eq.trans rfl rfl
@[simp] theorem ev_nx : mNx ρ = .nx ρ := Eq.trans rfl rfl
@[simp] theorem ev_ret : mRet ma ρ = (ma ρ).go ρ .ret := Eq.trans rfl rfl
def retK : Option Sl → Out
  | some (.d x) => .ret x
  | some (.ol xs) => .ret (.list xs)
  | _ => .no
@[simp] theorem ev_retO {n : Nat} : mRetO n ρ = retK ρ[n]? := Eq.trans rfl rfl
@[simp] theorem ev_retK : retK (some (.d x)) = .ret x := Eq.trans rfl rfl
@[simp] theorem ev_retK2 : retK (some (.ol xs)) = .ret (.list xs) := Eq.trans rfl rfl
@[simp] theorem ev_set {n : Nat} : mSet n ma ρ = (ma ρ).go ρ fun d => .nx (ρ.set n (.d d)) := Eq.trans rfl rfl
def setLK (ρ : Ev) (n : Nat) : D → Out
  | .list ds => .nx (ρ.set n (.ol ds))
  | _ => .no
@[simp] theorem ev_setL {n : Nat} : mSetL n ma ρ = (ma ρ).go ρ (setLK ρ n) := Eq.trans rfl rfl
@[simp] theorem ev_setLK {n : Nat} : setLK ρ n (.list ds) = .nx (ρ.set n (.ol ds)) := Eq.trans rfl rfl
def appK (ρ : Ev) (n : Nat) (r : R) : Option Sl → Out
  | some (.ol xs) => r.go ρ fun d => if xs.length < sizeLine then .nx (ρ.set n (.ol (xs ++ [d]))) else .no
  | _ => .no
@[simp] theorem ev_app {n : Nat} : mApp n ma ρ = appK ρ n (ma ρ) ρ[n]? := Eq.trans rfl rfl
@[simp] theorem ev_appK {n : Nat} : appK ρ n r (some (.ol xs)) = r.go ρ fun d => if xs.length < sizeLine then .nx (ρ.set n (.ol (xs ++ [d]))) else .no := Eq.trans rfl rfl
def popK (ρ : Ev) (n : Nat) : Option Sl → Out
  | some (.ol xs) => if xs = [] then .no else .nx (ρ.set n (.ol xs.dropLast))
  | _ => .no
@[simp] theorem ev_pop {n : Nat} : mPop n ρ = popK ρ n ρ[n]? := Eq.trans rfl rfl
@[simp] theorem ev_popK {n : Nat} : popK ρ n (some (.ol xs)) = if xs = [] then .no else .nx (ρ.set n (.ol xs.dropLast)) := Eq.trans rfl rfl
def nxK (ρ : Ev) (n : Nat) : Option D → Out
  | some z => .nx (ρ.set n (.d z))
  | none => .no
def augK (ρ : Ev) (n : Nat) (g : D → D → Option D) (r : R) : Option Sl → Out
  | some (.d x) => r.go ρ fun y => nxK ρ n (g x y)
  | _ => .no
@[simp] theorem ev_aug {n : Nat} : mAug n g ma ρ = augK ρ n g (ma ρ) ρ[n]? := Eq.trans rfl rfl
@[simp] theorem ev_augK {n : Nat} : augK ρ n g r (some (.d x)) = r.go ρ fun y => nxK ρ n (g x y) := Eq.trans rfl rfl
@[simp] theorem ev_nxK {n : Nat} : nxK ρ n (some x) = .nx (ρ.set n (.d x)) := Eq.trans rfl rfl
@[simp] theorem ev_addII : addI (.int i) (.int j) = some (.int (i + j)) := Eq.trans rfl rfl
@[simp] theorem ev_subII : subI (.int i) (.int j) = some (.int (i - j)) := Eq.trans rfl rfl
@[simp] theorem ev_mulII (q : mulB i j = true) : mulI (.int i) (.int j) = some (.int (i * j)) := if_pos q
@[simp] theorem ev_mulIIl (q1 : -18446744073709551616 < i) (q2 : i < 18446744073709551616) : mulI (.int i) (.int j) = some (.int (i * j)) := if_pos (ev_mull q1 q2)
@[simp] theorem ev_mulIIr (q1 : -18446744073709551616 < j) (q2 : j < 18446744073709551616) : mulI (.int i) (.int j) = some (.int (i * j)) := if_pos (ev_mulr q1 q2)
/-! targets -/
def toNx : Option Ev → Out
  | some ρ' => .nx ρ'
  | none => .no
@[simp] theorem ev_toNx : toNx (some ρ) = .nx ρ := Eq.trans rfl rfl
@[simp] theorem ev_goE {kb : D → Option Ev} : r.goE ρ kb = r.go ρ fun d => toNx (kb d) := Eq.trans rfl rfl
@[simp] theorem ev_asg {bt : Ev → D → Option Ev} : mAsg ma bt ρ = (ma ρ).go ρ fun d => toNx (bt ρ d) := Eq.trans rfl rfl
@[simp] theorem ev_bName {n : Nat} : bName n ρ d = some (ρ.set n (.d d)) := Eq.trans rfl rfl
@[simp] theorem ev_bsNil : bsNil ρ [] = some ρ := Eq.trans rfl rfl
@[simp] theorem ev_bsCons {b1 : Ev → D → Option Ev} {b2 : Ev → List D → Option Ev} : bsCons b1 b2 ρ (d :: ds) = (b1 ρ d).bind fun ρ' => b2 ρ' ds := Eq.trans rfl rfl
@[simp] theorem ev_bTup {n : Nat} {b2 : Ev → List D → Option Ev} (q : ds.length = n) : bTup n b2 ρ (.tuple ds) = b2 ρ ds := if_pos q
/-! walks -/
@[simp] theorem ev_iter : mIter ma ρ = (ma ρ).bind iterD := Eq.trans rfl rfl
@[simp] theorem ev_iterL : iterD (.list ds) = .ok (.list ds) := Eq.trans rfl rfl
@[simp] theorem ev_iterT : iterD (.tuple ds) = .ok (.list ds) := Eq.trans rfl rfl
@[simp] theorem ev_rng1 : mRng1 ma ρ = (ma ρ).bind rng1D := Eq.trans rfl rfl
@[simp] theorem ev_rng2 : mRng2 ma ρ = (ma ρ).bind rng2D := Eq.trans rfl rfl
@[simp] theorem ev_rng1D (q1 : -4611686018427387904 ≤ j) (q2 : j < 4611686018427387904) : rng1D (.list [.int j]) = .ok (.list (rangeD 0 j.toNat)) := if_pos (by unfold big62; rw [Bool.and_eq_true]; exact ⟨decide_eq_true q1, decide_eq_true q2⟩)
@[simp] theorem ev_rng2D (q1 : -4611686018427387904 ≤ j) (q2 : j < 4611686018427387904) (q3 : -4611686018427387904 ≤ i) (q4 : i < 4611686018427387904) : rng2D (.list [.int i, .int j]) = .ok (.list (rangeD i (j - i).toNat)) :=
  if_pos (by unfold big62; rw [Bool.and_eq_true, Bool.and_eq_true, Bool.and_eq_true]; exact ⟨⟨decide_eq_true q3, decide_eq_true q4⟩, decide_eq_true q1, decide_eq_true q2⟩)
theorem ev_rngLen {m : Nat} (q : m < 1000000) : rng1D (.list [.int (m : Int)]) = .ok (.list (rangeD 0 m)) := ev_rng1D (by omega) (by omega)
@[simp] theorem ev_enum : mEnum ma ρ = (ma ρ).bind enumD := Eq.trans rfl rfl
@[simp] theorem ev_enumD : enumD (.list [.list ds]) = .ok (.list (zipD (rangeD 0 ds.length) ds)) := Eq.trans rfl rfl
def forK (bt : Ev → D → Option Ev) (m1 : Ev → Out) (ρ : Ev) : D → Out
  | .list ds => forD bt m1 ds ρ
  | _ => .no
@[simp] theorem ev_for {bt : Ev → D → Option Ev} : mFor ma bt m1 ρ = (ma ρ).go ρ (forK bt m1 ρ) := Eq.trans rfl rfl
@[simp] theorem ev_forK {bt : Ev → D → Option Ev} : forK bt m1 ρ (.list ds) = forD bt m1 ds ρ := Eq.trans rfl rfl
@[simp] theorem ev_cok : (R.ok d).calm = .ok d := Eq.trans rfl rfl
@[simp] theorem ev_cno : R.no.calm = .no := Eq.trans rfl rfl
def compK (bt : Ev → D → Option Ev) (mb mc : Ev → R) (vs : List Nat) (ρ : Ev) : D → R
  | .list ds => if ds.length ≤ sizeLine then (compD (bt (wipeE ρ vs)) mb mc ds).calm else .no
  | _ => .no
@[simp] theorem ev_comp {bt : Ev → D → Option Ev} {vs : List Nat} : mComp ma bt mb mc vs ρ = (ma ρ).bind (compK bt mb mc vs ρ) := Eq.trans rfl rfl
@[simp] theorem ev_compK {bt : Ev → D → Option Ev} {vs : List Nat} (q : ds.length ≤ sizeLine) : compK bt mb mc vs ρ (.list ds) = (compD (bt (wipeE ρ vs)) mb mc ds).calm := if_pos q
@[simp] theorem ev_wipe0 : wipeE ρ [] = ρ := Eq.trans rfl rfl
@[simp] theorem ev_wipe1 {v : Nat} {vs : List Nat} : wipeE ρ (v :: vs) = (wipeE ρ vs).set v .un := Eq.trans rfl rfl
/-- a comprehension whose parts are known -/
theorem comp_ok {bt : D → Option Ev} {mt me : Ev → R} (p : D → Bool) (g : D → D) : ∀ {ds : List D}, (∀ d ∈ ds, ∃ ρ1, bt d = some ρ1 ∧ mt ρ1 = .ok (.bool (p d)) ∧ (p d = true → me ρ1 = .ok (g d))) → compD bt mt me ds = .ok (.list ((ds.filter p).map g))
  | [], _ => rfl
  | d :: ds, k => by
    obtain ⟨ρ1, h1, h2, h3⟩ := k d (List.mem_cons_self ..)
    have ih := comp_ok p g (bt := bt) (mt := mt) (me := me) (ds := ds) fun z hz => k z (List.mem_cons_of_mem _ hz)
    unfold compD
    rw [h1]
    show (mt ρ1).bind _ = _
    rw [h2]
    cases e : p d with
    | false =>
      rw [List.filter_cons_of_neg (by rw [e]; decide)]
      exact ih
    | true =>
      rw [List.filter_cons_of_pos e]
      show (me ρ1).bind _ = _
      rw [h3 e, ih]
      rfl
theorem comp_all {bt : D → Option Ev} {mt me : Ev → R} (g : D → D) {ds : List D} (k : ∀ d ∈ ds, ∃ ρ1, bt d = some ρ1 ∧ mt ρ1 = .ok (.bool true) ∧ me ρ1 = .ok (g d)) : compD bt mt me ds = .ok (.list (ds.map g)) := by
  have z := comp_ok (bt := bt) (mt := mt) (me := me) (fun _ => true) g (ds := ds) fun d h => by
    obtain ⟨ρ1, h1, h2, h3⟩ := k d h
    exact ⟨ρ1, h1, h2, fun _ => h3⟩
  rw [z, List.filter_eq_self.mpr fun _ _ => rfl]
/-- nothing passes the test -/
theorem comp_none {bt : D → Option Ev} {mt me : Ev → R} {ds : List D} (k : ∀ d ∈ ds, ∃ ρ1, bt d = some ρ1 ∧ mt ρ1 = .ok (.bool false)) : compD bt mt me ds = .ok (.list []) := by
  have z := comp_ok (bt := bt) (mt := mt) (me := me) (fun _ => false) (fun d => d) (ds := ds) fun d h => by
    obtain ⟨ρ1, h1, h2⟩ := k d h
    exact ⟨ρ1, h1, h2, fun e => nomatch e⟩
  rw [z, List.filter_eq_nil_iff.mpr fun _ _ => by decide]
  rfl
/-! exceptions -/
def tryK (sub : Str → Option Bool) (m1 : Ev → Out) : Out → Out
  | .ex c ρ' => match sub c with
    | some true => (m1 ρ').calm
    | some false => .ex c ρ'
    | none => .no
  | o => o
@[simp] theorem ev_try {sub : Str → Option Bool} : mTry sub m1 m2 ρ = tryK sub m2 (m1 ρ) := by
  unfold mTry tryK
  cases m1 ρ <;> rfl
def tryAsK (n : Nat) (sub : Str → Option Bool) (m1 : Ev → Out) : Out → Out
  | .ex c ρ' => match sub c with
    | some true => onlyR n (m1 (ρ'.set n (.xc c)))
    | some false => .ex c ρ'
    | none => .no
  | o => o
@[simp] theorem ev_tryAs {n : Nat} {sub : Str → Option Bool} : mTryAs n sub m1 m2 ρ = tryAsK n sub m2 (m1 ρ) := by
  unfold mTryAs tryAsK
  cases m1 ρ <;> rfl
section
variable {n : Nat} {sub : Str → Option Bool} {z : Str}
@[simp] theorem ev_try1 : tryK sub m1 (.nx ρ) = .nx ρ := Eq.trans rfl rfl
@[simp] theorem ev_try2 : tryK sub m1 (.ret d) = .ret d := Eq.trans rfl rfl
@[simp] theorem ev_try3 (q : sub z = some true) : tryK sub m1 (.ex z ρ) = (m1 ρ).calm := by unfold tryK; simp only [q]
@[simp] theorem ev_try4 (q : sub z = some false) : tryK sub m1 (.ex z ρ) = .ex z ρ := by unfold tryK; simp only [q]
@[simp] theorem ev_tryif : tryK sub m1 (if P then o else o2) = if P then tryK sub m1 o else tryK sub m1 o2 := by split <;> rfl
@[simp] theorem ev_tryA1 : tryAsK n sub m1 (.nx ρ) = .nx ρ := Eq.trans rfl rfl
@[simp] theorem ev_tryA2 : tryAsK n sub m1 (.ret d) = .ret d := Eq.trans rfl rfl
@[simp] theorem ev_tryA3 (q : sub z = some true) : tryAsK n sub m1 (.ex z ρ) = onlyR n (m1 (ρ.set n (.xc z))) := by
  unfold tryAsK
  simp only [q]
@[simp] theorem ev_tryA4 (q : sub z = some false) : tryAsK n sub m1 (.ex z ρ) = .ex z ρ := by unfold tryAsK; simp only [q]
@[simp] theorem ev_tryAif : tryAsK n sub m1 (if P then o else o2) = if P then tryAsK n sub m1 o else tryAsK n sub m1 o2 := by split <;> rfl
@[simp] theorem ev_onlyR : onlyR n (.ret d) = .ret d := Eq.trans rfl rfl
@[simp] theorem ev_onlyN (q : noX (ρ.set n .un) = true) : onlyR n (.nx ρ) = .nx (ρ.set n .un) := if_pos q
@[simp] theorem ev_onlyRif : onlyR n (if P then o else o2) = if P then onlyR n o else onlyR n o2 := by split <;> rfl
@[simp] theorem ev_calmR : (Out.ret d).calm = .ret d := Eq.trans rfl rfl
@[simp] theorem ev_calmN : (Out.nx ρ).calm = .nx ρ := Eq.trans rfl rfl
@[simp] theorem ev_calmif : (if P then o else o2).calm = if P then o.calm else o2.calm := by split <;> rfl
def xcK (sub : Str → Option Bool) : Option Sl → R
  | some (.xc c) => R.of ((sub c).map .bool)
  | _ => .no
@[simp] theorem ev_isE : mIsE n sub ρ = xcK sub ρ[n]? := Eq.trans rfl rfl
@[simp] theorem ev_xcK : xcK sub (some (.xc z)) = R.of ((sub z).map .bool) := Eq.trans rfl rfl
end
/-! bodies -/
theorem body_of {N n : Nat} {m : Ev → Out} {ds : List D} (q : ds.length = n) : bodyF N n m ds = bodyR (m (startE N ds)) := if_pos q
@[simp] theorem ev_size : sizeLine = 16777216 := by decide
end
end FL
/-! step by step -/
namespace FL
open PySem PySem.Spec PyProof.Rows L2
variable [TabNames]
section
variable {d x y : D} {r : R} {o : Out} {ρ ρ' : Ev} {N n i : Nat} {m m1 m2 : Ev → Out} {e mc : Ev → R} {ds : List D} {b : Bool} {c : Str}
theorem f_ret (hl : ds.length = n) (h : m (startE N ds) = .ret d) : bodyF N n m ds = .ok d := (if_pos hl).trans (by rw [h]; rfl)
theorem f_ex (hl : ds.length = n) (h : m (startE N ds) = .ex c ρ) : bodyF N n m ds = .ex c := (if_pos hl).trans (by rw [h]; rfl)
theorem o_set (h : e ρ = .ok d) (k : m (ρ.set i (.d d)) = o) : mSeq (mSet i e) m ρ = o := by
  show ((e ρ).go ρ _).then m = o
  rw [h]
  exact k
theorem o_setL (h : e ρ = .ok (.list ds)) (k : m (ρ.set i (.ol ds)) = o) : mSeq (mSetL i e) m ρ = o := by
  show ((e ρ).go ρ _).then m = o
  rw [h]
  exact k
theorem o_nx (h : m1 ρ = .nx ρ') (k : m ρ' = o) : mSeq m1 m ρ = o := by
  show (m1 ρ).then m = o
  rw [h]
  exact k
theorem o_skip (h : mc ρ = .ok (.bool false)) (k : m ρ = o) : mSeq (mIfS mc m1 mNx) m ρ = o := by
  show ((mc ρ).go ρ _).then m = o
  rw [h]
  exact k
theorem o_take (h : mc ρ = .ok (.bool true)) (k : mSeq m1 m ρ = o) : mSeq (mIfS mc m1 m2) m ρ = o := by
  show ((mc ρ).go ρ _).then m = o
  rw [h]
  exact k
theorem o_else (h : mc ρ = .ok (.bool false)) (k : mSeq m2 m ρ = o) : mSeq (mIfS mc m1 m2) m ρ = o := by
  show ((mc ρ).go ρ _).then m = o
  rw [h]
  exact k
theorem o_stop (h : m1 ρ = .ret d) : mSeq m1 m ρ = .ret d := by
  show (m1 ρ).then m = _
  rw [h]
  rfl
theorem o_stopx (h : m1 ρ = .ex c ρ') : mSeq m1 m ρ = .ex c ρ' := by
  show (m1 ρ).then m = _
  rw [h]
  rfl
theorem o_ret (h : e ρ = .ok d) : mRet e ρ = .ret d := by
  show (e ρ).go ρ _ = _
  rw [h]
  rfl
theorem o_assoc (k : mSeq m1 (mSeq m2 m) ρ = o) : mSeq (mSeq m1 m2) m ρ = o := by
  rw [← k]
  show ((m1 ρ).then m2).then m = (m1 ρ).then (mSeq m2 m)
  cases m1 ρ <;> rfl
theorem o_nxP {P : Ev → Prop} (h : ∃ ρ', m1 ρ = .nx ρ' ∧ P ρ') (k : ∀ ρ', P ρ' → m ρ' = o) : mSeq m1 m ρ = o := by
  obtain ⟨ρ', h1, h2⟩ := h
  exact o_nx h1 (k ρ' h2)
theorem o_ifT (h : mc ρ = .ok (.bool true)) (k : m1 ρ = o) : mIfS mc m1 m2 ρ = o := by
  show (mc ρ).go ρ _ = o
  rw [h]
  exact k
theorem o_ifF (h : mc ρ = .ok (.bool false)) (k : m2 ρ = o) : mIfS mc m1 m2 ρ = o := by
  show (mc ρ).go ρ _ = o
  rw [h]
  exact k
/-! a loop over a row of values, with a state of its own -/
theorem for_ok {A : Type} {bt : Ev → D → Option Ev} {mb : Ev → Out} (E : A → Ev) (E1 : A → D → Ev) (st : A → D → A) (P : A → List D → Prop)
    (hb : ∀ a d ds, P a (d :: ds) → bt (E a) d = some (E1 a d)) (hs : ∀ a d ds, P a (d :: ds) → (mb (E1 a d) = .nx (E (st a d)) ∨ mb (E1 a d) = .ct (E (st a d))) ∧ P (st a d) ds) :
    ∀ (ds : List D) (a : A), P a ds → forD bt mb ds (E a) = .nx (E (ds.foldl st a))
  | [], a, _ => rfl
  | d :: ds, a, h => by
    obtain ⟨h1, h2⟩ := hs a d ds h
    unfold forD
    rw [hb a d ds h]
    show (match mb (E1 a d) with
      | .nx ρ' => forD bt mb ds ρ'
      | .ct ρ' => forD bt mb ds ρ'
      | .bk ρ' => .nx ρ'
      | o => o) = _
    rcases h1 with h1 | h1 <;> rw [h1] <;> exact for_ok E E1 st P hb hs ds _ h2
end
/-! whole numbers -/
theorem ediv_is {s q l : Int} (h : 0 < q) (h1 : l * q ≤ s) (h2 : s < (l + 1) * q) : s / q = l := by
  have a1 : l ≤ s / q := (Int.le_ediv_iff_mul_le h).mpr h1
  have a2 : s / q < l + 1 := (Int.ediv_lt_iff_lt_mul h).mpr h2
  omega
theorem floor_ok {s q : Int} (h : 0 < q) : s / q * q ≤ s ∧ s < s / q * q + q := by
  have a1 := Int.ediv_mul_le s (Int.ne_of_gt h)
  have a2 := Int.lt_ediv_add_one_mul_self s h
  rw [Int.add_mul, Int.one_mul] at a2
  exact ⟨a1, a2⟩
theorem ceil_ok {s q : Int} (h : 0 < q) : s ≤ -(-s / q) * q ∧ -(-s / q) * q < s + q := by
  obtain ⟨a1, a2⟩ := floor_ok (s := -s) h
  rw [Int.neg_mul]
  omega
theorem ceil_eq {s q : Int} (h : 0 < q) : -(-s / q) = s / q + (if s / q * q = s then 0 else 1) := by
  obtain ⟨a1, a2⟩ := floor_ok (s := s) h
  split
  · rename_i e
    rw [ediv_is (l := -(s / q)) h]
    · omega
    · rw [Int.neg_mul]; omega
    · rw [Int.add_mul, Int.neg_mul]; omega
  · rename_i e
    rw [ediv_is (l := -(s / q) - 1) h]
    · omega
    · rw [Int.sub_mul, Int.neg_mul]; omega
    · rw [Int.add_mul, Int.sub_mul, Int.neg_mul]; omega
theorem div_bd {s q M : Int} (h : 0 < q) (h0 : 0 ≤ M) (h1 : -M ≤ s) (h2 : s ≤ M) : -M ≤ s / q ∧ s / q ≤ M := by
  have e : M * 1 ≤ M * q := Int.mul_le_mul_of_nonneg_left h h0
  refine ⟨(Int.le_ediv_iff_mul_le h).mpr ?_, Int.lt_add_one_iff.mp ((Int.ediv_lt_iff_lt_mul h).mpr ?_)⟩
  · rw [Int.neg_mul]; omega
  · rw [Int.add_mul]; omega
theorem pow_pos2 (k : Nat) : (0 : Int) < 2 ^ k := Int.pow_pos (by decide)
theorem pow_le2 {k m : Nat} (h : k ≤ m) : (2 : Int) ^ k ≤ 2 ^ m := by
  exact_mod_cast Nat.pow_le_pow_right (n := 2) (by decide) h
theorem mul_bd {p t M N : Int} (h0 : 0 ≤ M) (h1 : -M ≤ p) (h2 : p ≤ M) (t0 : 0 ≤ t) (h3 : t ≤ N) : -(M * N) ≤ p * t ∧ p * t ≤ M * N := by
  have a1 : M * t ≤ M * N := Int.mul_le_mul_of_nonneg_left h3 h0
  have a2 : p * t ≤ M * t := Int.mul_le_mul_of_nonneg_right h2 t0
  have a3 : -M * t ≤ p * t := Int.mul_le_mul_of_nonneg_right h1 t0
  rw [Int.neg_mul] at a3
  omega
theorem shl_b {x k : Int} (h1 : x.natAbs < 2 ^ 250) (h2 : 0 ≤ k) (h3 : k ≤ 1000) : shlD (.int x) (.int k) = some (.int (x * 2 ^ k.toNat)) := ev_shlI (shl_ok (n := 250) (m := 1000) h1 h2 h3 (by decide))
theorem low_t2 (a b : Int) : lowD 5 (.tuple [.int a, .int b]) := ⟨by simp, by simp [lowD]⟩
theorem low_t3 (a b c : Int) : lowD 5 (.tuple [.int a, .int b, .int c]) := ⟨by simp, by simp [lowD]⟩
theorem abs_ok (x : Int) : ∃ A, (if x < 0 then -x else x) = A ∧ 0 ≤ A := ⟨_, rfl, by split <;> omega⟩
theorem up_eq {x b c : Int} (h : b ≤ c) : (if 0 ≤ b - c then x / 2 ^ (b - c).toNat else x * 2 ^ (-(b - c)).toNat) = x * 2 ^ (c - b).toNat := by
  by_cases e : b = c
  · subst e
    simp
  · rw [if_neg (by omega), show -(b - c) = c - b by omega]
theorem shr_up {x b c : Int} (h : ¬ b ≤ c) : (if 0 ≤ b - c then x / 2 ^ (b - c).toNat else x * 2 ^ (-(b - c)).toNat) = x / 2 ^ (b - c).toNat := if_pos (by omega)
end FL
/-! texts, rows of ints, roots -/
namespace FL
open PySem PySem.Spec PyProof.Rows L2
variable [TabNames]
section
variable {X : Cx} {K : PySem.W.Frag} {mg : Str → Option Value} {G : Gx} {pos : Pos} {a b c e o tg : Expr} {es : List Expr} {ma mb mc ms mo : Ev → R} {m m1 m2 : Ev → Out}
/-! one argument -/
theorem okOne {r : List V → Hp → VK → Prop} {f : List D → Option D} (hf : ∀ ds d, f ds = some d → ∃ x, ds = [x]) (k : ∀ (S : List Addr) (H : Hp) (v : V) (x d : D) (Q : VK), (∀ l ∈ S, H l ≠ none) → Dp K (hide S H) v x → f [x] = some d → Post K S H d Q → r [v] H Q) : CrOk K r f := by
  intro S H xs ds d Q hS hv e q
  obtain ⟨x, rfl⟩ := hf ds d e
  cases hv with
  | cons h1 h2 => cases h2; exact k S H _ x d Q hS h1 e q
def strB (i : Int) : Bool := decide (i.natAbs.log2 < 1920)
def strD : List D → Option D
  | [.int i] => if strB i then some (.str (toString i)) else none
  | _ => none
theorem okStr : CrOk K (fun xs H Q => ∃ i : Int, xs = [.int i] ∧ i.natAbs.log2 < 1920 ∧ Q (.str (toString i)) H) strD :=
  okOne (fun ds d e => by
    unfold strD at e
    split at e
    · exact ⟨_, rfl⟩
    · cases e) fun S H v x d Q hS hv e q => by
    cases hv with
    | int i =>
      obtain ⟨k, rfl⟩ := ok_of_if e
      exact ⟨i, rfl, of_decide_eq_true k, post_val q (.str _)⟩
    | _ => cases e
theorem x_str1 {p : Pos} (ha : XA X G (e :: es) ms) (hm : X.mg "str" = none) (hg : Gl X "str" := by rfl) (he : starEach (e :: es) X.env = (false, eval e X.env) :: starEach es X.env := by rfl) (hpl : (backTo pos (starEach es X.env)).any (·.1) = false := by rfl) :
    XE X G (.Call (.Name "str" p) (e :: es) [] pos) (mFun strD ms) := x_ty call_str_int okStr ha hm boot_str' hg (by decide) (by decide) he hpl
def intSB (a : Str) : Bool := decide (a.length ≤ 640)
def intSD : List D → Option D
  | [.str a] => if intSB a then (PySem.intText? a).map .int else none
  | _ => none
theorem okIntS : CrOk K (fun xs H Q => ∃ (a : Str) (n : Int), xs = [.str a] ∧ PySem.intText? a = some n ∧ a.length ≤ 640 ∧ Q (.int n) H) intSD :=
  okOne (fun ds d e => by
    unfold intSD at e
    split at e
    · exact ⟨_, rfl⟩
    · cases e) fun S H v x d Q hS hv e q => by
    cases hv with
    | str z =>
      unfold intSD at e
      by_cases k : intSB z = true
      · simp only [k, if_true, Option.map_eq_some_iff] at e
        obtain ⟨i, h1, rfl⟩ := e
        exact ⟨z, i, rfl, h1, of_decide_eq_true k, post_val q (.int _)⟩
      · simp only [k] at e
        cases e
    | _ => cases e
theorem x_intS {p : Pos} (ha : XA X G (e :: es) ms) (hm : X.mg "int" = none) (hg : Gl X "int" := by rfl) (he : starEach (e :: es) X.env = (false, eval e X.env) :: starEach es X.env := by rfl) (hpl : (backTo pos (starEach es X.env)).any (·.1) = false := by rfl) :
    XE X G (.Call (.Name "int" p) (e :: es) [] pos) (mFun intSD ms) := x_ty call_int_str okIntS ha hm bootInt hg (by decide) (by decide) he hpl
/-! a row of ints -/
def intsOf : List D → Option (List Int)
  | [] => some []
  | .int i :: r => (intsOf r).map (i :: ·)
  | _ => none
theorem ints_of {H : Hp} : ∀ {ds : List D} {vs : List V} {ns : List Int}, DpAll K H vs ds → intsOf ds = some ns → vs = ns.map V.int
  | [], _, _, .nil, e => by cases e; rfl
  | .int i :: r, _, _, .cons h k, e => by
    unfold intsOf at e
    rw [Option.map_eq_some_iff] at e
    obtain ⟨ms, h1, rfl⟩ := e
    cases h
    rw [ints_of k h1]
    rfl
  | .none :: r, _, _, _, e => by cases e
  | .bool _ :: r, _, _, _, e => by cases e
  | .str _ :: r, _, _, _, e => by cases e
  | .list _ :: r, _, _, _, e => by cases e
  | .tuple _ :: r, _, _, _, e => by cases e
  | .dict _ :: r, _, _, _, e => by cases e
def minI : List Int → Option Int
  | [] => none
  | x :: r => some (r.foldl (fun m y => if y < m then y else m) x)
def maxI : List Int → Option Int
  | [] => none
  | x :: r => some (r.foldl (fun m y => if m < y then y else m) x)
theorem fold_min : ∀ (r : List Int) (x : Int), r.foldl (fun m y => if y < m then y else m) x ≤ x ∧ (∀ y ∈ r, r.foldl (fun m y => if y < m then y else m) x ≤ y) ∧ r.foldl (fun m y => if y < m then y else m) x ∈ x :: r
  | [], x => ⟨Int.le_refl _, (fun _ h => nomatch h), List.mem_cons_self ..⟩
  | z :: r, x => by
    obtain ⟨h1, h2, h3⟩ := fold_min r (if z < x then z else x)
    rw [List.foldl_cons]
    generalize r.foldl (fun m y => if y < m then y else m) (if z < x then z else x) = w at *
    refine ⟨?_, fun y hy => ?_, ?_⟩
    · split at h1 <;> omega
    · rcases List.mem_cons.mp hy with rfl | hy
      · split at h1 <;> omega
      · exact h2 y hy
    · rcases List.mem_cons.mp h3 with e | h
      · rw [e]
        split
        · exact List.mem_cons_of_mem _ (List.mem_cons_self ..)
        · exact List.mem_cons_self ..
      · exact List.mem_cons_of_mem _ (List.mem_cons_of_mem _ h)
theorem fold_max : ∀ (r : List Int) (x : Int), x ≤ r.foldl (fun m y => if m < y then y else m) x ∧ (∀ y ∈ r, y ≤ r.foldl (fun m y => if m < y then y else m) x) ∧ r.foldl (fun m y => if m < y then y else m) x ∈ x :: r
  | [], x => ⟨Int.le_refl _, (fun _ h => nomatch h), List.mem_cons_self ..⟩
  | z :: r, x => by
    obtain ⟨h1, h2, h3⟩ := fold_max r (if x < z then z else x)
    rw [List.foldl_cons]
    generalize r.foldl (fun m y => if m < y then y else m) (if x < z then z else x) = w at *
    refine ⟨?_, fun y hy => ?_, ?_⟩
    · split at h1 <;> omega
    · rcases List.mem_cons.mp hy with rfl | hy
      · split at h1 <;> omega
      · exact h2 y hy
    · rcases List.mem_cons.mp h3 with e | h
      · rw [e]
        split
        · exact List.mem_cons_of_mem _ (List.mem_cons_self ..)
        · exact List.mem_cons_self ..
      · exact List.mem_cons_of_mem _ (List.mem_cons_of_mem _ h)
theorem minI_ok {ns : List Int} {m : Int} (h : minI ns = some m) : m ∈ ns ∧ ∀ y ∈ ns, m ≤ y := by
  cases ns with
  | nil => cases h
  | cons x r =>
    obtain ⟨h1, h2, h3⟩ := fold_min r x
    cases h
    exact ⟨h3, fun y hy => by
      rcases List.mem_cons.mp hy with rfl | hy
      · exact h1
      · exact h2 y hy⟩
theorem maxI_ok {ns : List Int} {m : Int} (h : maxI ns = some m) : m ∈ ns ∧ ∀ y ∈ ns, y ≤ m := by
  cases ns with
  | nil => cases h
  | cons x r =>
    obtain ⟨h1, h2, h3⟩ := fold_max r x
    cases h
    exact ⟨h3, fun y hy => by
      rcases List.mem_cons.mp hy with rfl | hy
      · exact h1
      · exact h2 y hy⟩
def minLD : List D → Option D
  | [.list ds] => ((intsOf ds).bind minI).map .int
  | _ => none
def maxLD : List D → Option D
  | [.list ds] => ((intsOf ds).bind maxI).map .int
  | _ => none
def sumD : List D → Option D
  | [.list ds] => (intsOf ds).map fun ns => .int ns.sum
  | _ => none
theorem okMinL : CrOk K (rMin K) minLD :=
  okOne (fun ds d e => by
    unfold minLD at e
    split at e
    · exact ⟨_, rfl⟩
    · cases e) fun S H v x d Q hS hv e q => by
    cases hv with
    | lst hl k =>
      unfold minLD at e
      simp only [Option.map_eq_some_iff, Option.bind_eq_some_iff] at e
      obtain ⟨m, ⟨ns, h1, h2⟩, rfl⟩ := e
      have e2 := ints_of k h1
      subst e2
      obtain ⟨h3, h4⟩ := minI_ok h2
      refine ⟨_, ns, rfl, ex_l hide_sub hl, List.length_pos_of_mem h3, fun m' h5 h6 => ?_⟩
      have e3 : m' = m := Int.le_antisymm (h6 m h3) (h4 m' h5)
      rw [e3]
      exact post_val q (.int _)
    | _ => cases e
theorem okMaxL : CrOk K (rMax K) maxLD :=
  okOne (fun ds d e => by
    unfold maxLD at e
    split at e
    · exact ⟨_, rfl⟩
    · cases e) fun S H v x d Q hS hv e q => by
    cases hv with
    | lst hl k =>
      unfold maxLD at e
      simp only [Option.map_eq_some_iff, Option.bind_eq_some_iff] at e
      obtain ⟨m, ⟨ns, h1, h2⟩, rfl⟩ := e
      have e2 := ints_of k h1
      subst e2
      obtain ⟨h3, h4⟩ := maxI_ok h2
      refine ⟨_, ns, rfl, ex_l hide_sub hl, List.length_pos_of_mem h3, fun m' h5 h6 => ?_⟩
      have e3 : m' = m := Int.le_antisymm (h4 m' h5) (h6 m h3)
      rw [e3]
      exact post_val q (.int _)
    | _ => cases e
theorem okSum : CrOk K (rSum K) sumD :=
  okOne (fun ds d e => by
    unfold sumD at e
    split at e
    · exact ⟨_, rfl⟩
    · cases e) fun S H v x d Q hS hv e q => by
    cases hv with
    | lst hl k =>
      unfold sumD at e
      rw [Option.map_eq_some_iff] at e
      obtain ⟨ns, h1, rfl⟩ := e
      have e2 := ints_of k h1
      subst e2
      exact ⟨_, ns, rfl, ex_l hide_sub hl, post_val q (.int _)⟩
    | _ => cases e
theorem x_minL {p : Pos} (ha : XA X G (e :: es) ms) (hm : X.mg "min" = none) (hc : X.calm = true := by rfl) (hg : Gl X "min" := by rfl) (he : starEach (e :: es) X.env = (false, eval e X.env) :: starEach es X.env := by rfl) (hpl : (backTo pos (starEach es X.env)).any (·.1) = false := by rfl) :
    XE X G (.Call (.Name "min" p) (e :: es) [] pos) (mFun minLD ms) := x_blt (cr_min hc) okMinL ha hm boot_min hg (by decide) (by decide) he hpl
theorem x_maxL {p : Pos} (ha : XA X G (e :: es) ms) (hm : X.mg "max" = none) (hc : X.calm = true := by rfl) (hg : Gl X "max" := by rfl) (he : starEach (e :: es) X.env = (false, eval e X.env) :: starEach es X.env := by rfl) (hpl : (backTo pos (starEach es X.env)).any (·.1) = false := by rfl) :
    XE X G (.Call (.Name "max" p) (e :: es) [] pos) (mFun maxLD ms) := x_blt (cr_max hc) okMaxL ha hm boot_max hg (by decide) (by decide) he hpl
theorem x_sum {p : Pos} (ha : XA X G (e :: es) ms) (hm : X.mg "sum" = none) (hc : X.calm = true := by rfl) (hg : Gl X "sum" := by rfl) (he : starEach (e :: es) X.env = (false, eval e X.env) :: starEach es X.env := by rfl) (hpl : (backTo pos (starEach es X.env)).any (·.1) = false := by rfl) :
    XE X G (.Call (.Name "sum" p) (e :: es) [] pos) (mFun sumD ms) := x_blt (cr_sum hc) okSum ha hm boot_sum hg (by decide) (by decide) he hpl
/-! roots, gcd -/
def isqB (i : Int) : Bool := decide (0 ≤ i) && decide (i.toNat.log2 ≤ 13000)
def isqrtD : List D → Option D
  | [.int i] => if isqB i then some (.int (Float64.isqrt i.toNat : Nat)) else none
  | _ => none
theorem cr_isqrt : CallR X (.builtin "math.isqrt") (fun xs H Q => ∃ i : Int, xs = [.int i] ∧ 0 ≤ i ∧ i.toNat.log2 ≤ 13000 ∧ Q (.int (Float64.isqrt i.toNat : Nat)) H) := by
  intro pins s σ H xs us Q I r h
  obtain ⟨i, rfl, h0, h1, q⟩ := h
  obtain ⟨u, rfl, t, rfl⟩ := vals1 r
  exact call_function_meets PySem.W.MGF.kind_isqrt PySem.W.MGF.plain_isqrt PySem.W.MGF.entry_isqrt (PySem.W.MGF.args_isqrt _) (PySem.W.mg_run_isqrt i t (by omega) (by omega) (by omega)).meets ⟨.int _, H, I.tok _, ⟨_, rfl⟩, q⟩
theorem okIsqrt : CrOk K (fun xs H Q => ∃ i : Int, xs = [.int i] ∧ 0 ≤ i ∧ i.toNat.log2 ≤ 13000 ∧ Q (.int (Float64.isqrt i.toNat : Nat)) H) isqrtD :=
  okOne (fun ds d e => by
    unfold isqrtD at e
    split at e
    · exact ⟨_, rfl⟩
    · cases e) fun S H v x d Q hS hv e q => by
    cases hv with
    | int i =>
      obtain ⟨k, rfl⟩ := ok_of_if e
      have k2 := Bool.and_eq_true_iff.mp k
      exact ⟨i, rfl, of_decide_eq_true k2.1, of_decide_eq_true k2.2, post_val q (.int _)⟩
    | _ => cases e
def gcdD : List D → Option D
  | [.int i, .int j] => some (.int (Nat.gcd i.natAbs j.natAbs : Nat))
  | _ => none
theorem okGcd : CrOk K rGcd gcdD := by
  intro S H xs ds d Q hS hv e q
  cases hv with
  | nil => cases e
  | cons h1 h2 =>
    cases h2 with
    | nil => cases h1 <;> cases e
    | cons h2 h3 =>
      cases h3 with
      | nil =>
        cases h1 with
        | int i =>
          cases h2 with
          | int j => cases e; exact ⟨i, j, rfl, post_val q (.int _)⟩
          | _ => cases e
        | _ => cases h2 <;> cases e
      | cons _ _ => cases h1 <;> cases h2 <;> cases e
/-! methods of a text -/
def MtOk (K : PySem.W.Frag) (r : V → List V → Hp → VK → Prop) (f : Str → D → Option D) : Prop := ∀ (S : List Addr) (H : Hp) (z : Str) (y d : D) (v : V) (Q : VK), (∀ l ∈ S, H l ≠ none) → Dp K (hide S H) v y → f z y = some d → Post K S H d Q → r (.str z) [v] H Q
def m1K (f : Str → D → Option D) (r : R) : D → R
  | .str z => r.bind fun y => R.of (f z y)
  | _ => .no
def mM1 (f : Str → D → Option D) (mo ma : Ev → R) : Ev → R := fun ρ => (mo ρ).bind (m1K f (ma ρ))
theorem x_m1 {id : String} {name : Str} {apos : Pos} {r : V → List V → Hp → VK → Prop} {f : Str → D → Option D} (slot : Slot "str" name id) (ty : typeOf (.builtin id) = pure (.type "method_descriptor")) (rule : MtR X id r) (ok : MtOk X.K r f) (ho : XE X G o mo) (ha : XE X G a ma)
    (hs : starEach [a] X.env = [(false, eval a X.env)] := by rfl) (hbase : attributeBase o name X.env (eval o X.env) = eval o X.env := by rfl) (hline : (apos.endLine == pos.line) = true := by rfl) : XE X G (.Call (.Attribute o name apos) [a] [] pos) (mM1 f mo ma) :=
  ⟨fun ρ => (pe_m1 slot ty rule (ho.pe ρ) (ha.pe ρ) hs hbase hline).imp fun σ H Q ⟨H0, S0, S, env, h⟩ => tE_bind env h fun d H1 v _ x1 hv h1 => by
    cases hv with
    | str z =>
      refine ⟨⟨z, rfl⟩, tE_bind (env.mono x1) h1 fun y H2 u _ x2 hu h2 => ?_⟩
      obtain ⟨d, e, q⟩ := of_some h2
      exact ok S H2 z y d u Q ((env.mono x1).mono x2).sH hu e q
    | _ => exact h1.elim⟩
def findD (z : Str) : D → Option D
  | .str b => some (.int (Txt.find z b))
  | _ => none
theorem x_find {apos : Pos} (ho : XE X G o mo) (ha : XE X G a ma) (hs : starEach [a] X.env = [(false, eval a X.env)] := by rfl) (hbase : attributeBase o "find" X.env (eval o X.env) = eval o X.env := by rfl) (hline : (apos.endLine == pos.line) = true := by rfl) :
    XE X G (.Call (.Attribute o "find" apos) [a] [] pos) (mM1 findD mo ma) := x_m1 F.slot_str_find F.type_str_find mt_find (fun S H z y d v Q hS hv e q => by
    cases hv with
    | str b => cases e; exact ⟨z, b, rfl, rfl, post_val q (.int _)⟩
    | _ => cases e) ho ha hs hbase hline
def startswithD (z : Str) : D → Option D
  | .str b => some (.bool (Txt.startswith z b))
  | _ => none
theorem x_startswith {apos : Pos} (ho : XE X G o mo) (ha : XE X G a ma) (hs : starEach [a] X.env = [(false, eval a X.env)] := by rfl) (hbase : attributeBase o "startswith" X.env (eval o X.env) = eval o X.env := by rfl) (hline : (apos.endLine == pos.line) = true := by rfl) :
    XE X G (.Call (.Attribute o "startswith" apos) [a] [] pos) (mM1 startswithD mo ma) := x_m1 F.slot_str_startswith F.type_str_startswith mt_startswith (fun S H z y d v Q hS hv e q => by
    cases hv with
    | str b => cases e; exact ⟨z, b, rfl, rfl, post_val q (.bl _)⟩
    | _ => cases e) ho ha hs hbase hline
def lineB (z : Str) : Bool := decide (z.length + 2 ≤ sizeLine)
def removeprefixD (z : Str) : D → Option D
  | .str b => if lineB z then some (.str (Txt.removeprefix z b)) else none
  | _ => none
theorem lineB_ok {z : Str} (h : lineB z = true) : z.length ≤ sizeLine := by have := of_decide_eq_true h; omega
theorem x_removeprefix {apos : Pos} (ho : XE X G o mo) (ha : XE X G a ma) (hs : starEach [a] X.env = [(false, eval a X.env)] := by rfl) (hbase : attributeBase o "removeprefix" X.env (eval o X.env) = eval o X.env := by rfl) (hline : (apos.endLine == pos.line) = true := by rfl) :
    XE X G (.Call (.Attribute o "removeprefix" apos) [a] [] pos) (mM1 removeprefixD mo ma) := x_m1 F.slot_str_removeprefix F.type_str_removeprefix mt_removeprefix (fun S H z y d v Q hS hv e q => by
    cases hv with
    | str b =>
      obtain ⟨k, rfl⟩ := ok_of_if e
      exact ⟨z, b, rfl, rfl, lineB_ok k, post_val q (.str _)⟩
    | _ => cases e) ho ha hs hbase hline
def rstripD (z : Str) : D → Option D
  | .str b => if lineB z then some (.str (Txt.rstripChars z b)) else none
  | _ => none
theorem x_rstrip {apos : Pos} (ho : XE X G o mo) (ha : XE X G a ma) (hs : starEach [a] X.env = [(false, eval a X.env)] := by rfl) (hbase : attributeBase o "rstrip" X.env (eval o X.env) = eval o X.env := by rfl) (hline : (apos.endLine == pos.line) = true := by rfl) :
    XE X G (.Call (.Attribute o "rstrip" apos) [a] [] pos) (mM1 rstripD mo ma) := x_m1 F.slot_str_rstrip F.type_str_rstrip mt_rstripChars (fun S H z y d v Q hS hv e q => by
    cases hv with
    | str b =>
      obtain ⟨k, rfl⟩ := ok_of_if e
      exact ⟨z, b, rfl, rfl, lineB_ok k, post_val q (.str _)⟩
    | _ => cases e) ho ha hs hbase hline
def splitB (z b : Str) : Bool := !(b.length == 0) && lineB z
def splitD (z : Str) : D → Option D
  | .str b => if splitB z b then some (.list ((Txt.split z b).map .str)) else none
  | _ => none
theorem dp_strs {H : Hp} : ∀ ys : List Str, DpAll K H (ys.map V.str) (ys.map .str)
  | [] => .nil
  | y :: r => .cons (.str y) (dp_strs r)
theorem x_split {apos : Pos} (ho : XE X G o mo) (ha : XE X G a ma) (hs : starEach [a] X.env = [(false, eval a X.env)] := by rfl) (hbase : attributeBase o "split" X.env (eval o X.env) = eval o X.env := by rfl) (hline : (apos.endLine == pos.line) = true := by rfl) :
    XE X G (.Call (.Attribute o "split" apos) [a] [] pos) (mM1 splitD mo ma) := x_m1 F.slot_str_split F.type_str_split mt_split (fun S H z y d v Q hS hv e q => by
    cases hv with
    | str b =>
      obtain ⟨k, rfl⟩ := ok_of_if e
      have k2 := Bool.and_eq_true_iff.mp k
      exact ⟨z, b, rfl, rfl, by simpa using k2.1, of_decide_eq_true k2.2, fun p np => post_new q np (new_lst hS np (dp_strs _))⟩
    | _ => cases e) ho ha hs hbase hline
def strsOf : List D → Option (List Str)
  | [] => some []
  | .str i :: r => (strsOf r).map (i :: ·)
  | _ => none
theorem strs_of {H : Hp} : ∀ {ds : List D} {vs : List V} {ns : List Str}, DpAll K H vs ds → strsOf ds = some ns → vs = ns.map V.str
  | [], _, _, .nil, e => by cases e; rfl
  | .str i :: r, _, _, .cons h k, e => by
    unfold strsOf at e
    rw [Option.map_eq_some_iff] at e
    obtain ⟨ms, h1, rfl⟩ := e
    cases h
    rw [strs_of k h1]
    rfl
  | .none :: r, _, _, _, e => by cases e
  | .bool _ :: r, _, _, _, e => by cases e
  | .int _ :: r, _, _, _, e => by cases e
  | .list _ :: r, _, _, _, e => by cases e
  | .tuple _ :: r, _, _, _, e => by cases e
  | .dict _ :: r, _, _, _, e => by cases e
def joinB (z : Str) (ys : List Str) : Bool := decide ((ys.map (·.length)).sum + ys.length * z.length ≤ 16777216)
def joinK (z : Str) : Option (List Str) → Option D
  | some ys => if joinB z ys then some (.str (Txt.join z ys)) else none
  | none => none
def joinD (z : Str) : D → Option D
  | .list ds => joinK z (strsOf ds)
  | _ => none
theorem x_join {apos : Pos} (ho : XE X G o mo) (ha : XE X G a ma) (hs : starEach [a] X.env = [(false, eval a X.env)] := by rfl) (hbase : attributeBase o "join" X.env (eval o X.env) = eval o X.env := by rfl) (hline : (apos.endLine == pos.line) = true := by rfl) :
    XE X G (.Call (.Attribute o "join" apos) [a] [] pos) (mM1 joinD mo ma) := x_m1 F.slot_str_join F.type_str_join mt_join (fun S H z y d v Q hS hv e q => by
    cases hv with
    | @lst aa xs ds hl k =>
      have e : joinK z (strsOf ds) = some d := e
      cases es : strsOf ds with
      | none => rw [es] at e; cases e
      | some ys =>
        rw [es] at e
        obtain ⟨k2, rfl⟩ := ok_of_if e
        have e2 := strs_of k es
        subst e2
        exact ⟨z, _, ys, rfl, rfl, .inl (ex_l hide_sub hl), of_decide_eq_true k2, post_val q (.str _)⟩
    | _ => cases e) ho ha hs hbase hline
/-! x.bit_length() -/
def bitsD : D → R
  | .int i => .ok (.int (Builtin.Int.intBits i : Nat))
  | _ => .no
def mBits (mo : Ev → R) : Ev → R := fun ρ => (mo ρ).bind bitsD
theorem x_bits {apos : Pos} (ho : XE X G o mo) (hbase : attributeBase o "bit_length" X.env (eval o X.env) = eval o X.env := by rfl) (hline : (apos.endLine == pos.line) = true := by rfl) : XE X G (.Call (.Attribute o "bit_length" apos) [] [] pos) (mBits mo) :=
  ⟨fun ρ => (pe_bits (ho.pe ρ) hbase hline).imp fun σ H Q ⟨H0, S0, S, env, h⟩ => tE_bind env h fun d H1 v _ x1 hv h1 => by
    cases hv with
    | int i => exact ⟨i, rfl, post_val h1 (.int _)⟩
    | _ => exact h1.elim⟩
/-! f-strings -/
def fmtB (z : Str) : Bool := decide (z.length ≤ sizeLine)
def fmtD : D → R
  | .str z => if fmtB z then .ok (.str z) else .no
  | .int i => if strB i then .ok (.str (toString i)) else .no
  | _ => .no
def mFmt (ma : Ev → R) : Ev → R := fun ρ => (ma ρ).bind fmtD
theorem x_fmt (ha : XE X G a ma) : XE X G (.FormattedValue a (-1) none pos) (mFmt ma) :=
  ⟨fun ρ => (pe_fmt (ha.pe ρ)).imp fun σ H Q ⟨H0, S0, S, env, h⟩ => tE_bind env h fun d H1 v _ x1 hv h1 => by
    cases hv with
    | str z =>
      by_cases k : fmtB z = true
      · rw [show fmtD (.str z) = _ from if_pos k] at h1
        exact .inl ⟨z, rfl, of_decide_eq_true k, post_val h1 (.str _)⟩
      · rw [show fmtD (.str z) = _ from if_neg k] at h1
        exact h1.elim
    | int i =>
      by_cases k : strB i = true
      · rw [show fmtD (.int i) = _ from if_pos k] at h1
        exact .inr ⟨i, rfl, of_decide_eq_true k, post_val h1 (.str _)⟩
      · rw [show fmtD (.int i) = _ from if_neg k] at h1
        exact h1.elim
    | _ => exact h1.elim⟩
def jK (k : Str → R) (acc : Str) : D → R
  | .str y => if fmtB (acc ++ y) then k (acc ++ y) else .no
  | _ => .no
def jD : List (Ev → R) → Ev → Str → R
  | [], _, acc => .ok (.str acc)
  | m :: ms, ρ, acc => (m ρ).bind (jK (jD ms ρ) acc)
def mJ (ms : List (Ev → R)) : Ev → R := fun ρ => jD ms ρ Str.empty
inductive XJ (X : Cx) (G : Gx) : List Expr → List (Ev → R) → Prop where
  | nil : XJ X G [] []
  | cons {e : Expr} {m : Ev → R} {es : List Expr} {ms : List (Ev → R)} (h : XE X G e m) (r : XJ X G es ms) : XJ X G (e :: es) (m :: ms)
theorem xj_pj {es : List Expr} {ms : List (Ev → R)} (h : XJ X G es ms) (ρ : Ev) : PJ X es (ms.map fun m => tE X.K X.mg G ρ (m ρ)) := by
  induction h with
  | nil => exact .nil
  | cons h _ ih => exact .cons (h.pe ρ) ih
theorem tJs_of {H0 : Hp} {S0 S : List Addr} {ρ : Ev} {σ : L2.St} {Q : VK} : ∀ {ms : List (Ev → R)} {acc : Str} {H : Hp}, EnvOk K G.xa H0 S0 S H σ ρ → RPost K mg G S H σ (jD ms ρ acc) Q → tJs (ms.map fun m => tE K mg G ρ (m ρ)) acc σ H fun out H1 => Q (.str out) H1
  | [], acc, H, env, h => post_val (K := K) (S := S) h (.str _)
  | m :: ms, acc, H, env, h => tE_bind env h fun d H1 v _ x1 hv h1 => by
    cases hv with
    | str y =>
      by_cases k : fmtB (acc ++ y) = true
      · rw [show jK (jD ms ρ) acc (.str y) = _ from if_pos k] at h1
        exact ⟨y, rfl, of_decide_eq_true k, tJs_of (env.mono x1) h1⟩
      · rw [show jK (jD ms ρ) acc (.str y) = _ from if_neg k] at h1
        exact h1.elim
    | _ => exact h1.elim
theorem x_joined {v1 v2 : Expr} {rest : List Expr} {ms : List (Ev → R)} (h : XJ X G (v1 :: v2 :: rest) ms) : XE X G (.JoinedStr (v1 :: v2 :: rest) pos) (mJ ms) :=
  ⟨fun ρ => (pe_joined (xj_pj h ρ)).imp fun σ H Q ⟨H0, S0, S, env, h⟩ => tJs_of env h⟩
end
end FL
/-! reversed ranges, xs[k] = e, comprehensions of two clauses -/
namespace FL
open PySem PySem.Spec PyProof.Rows L2
variable [TabNames]
section
variable {X : Cx} {K : PySem.W.Frag} {mg : Str → Option Value} {G : Gx} {pos : Pos} {a b c e o tg : Expr} {es : List Expr} {ma mb mc ms mo mk : Ev → R} {m m1 m2 : Ev → Out}
def revR1D : D → R
  | .int j => if big62 j then .ok (.list (revRangeD 0 (j - 0).toNat)) else .no
  | _ => .no
def mRevR1 (ma : Ev → R) : Ev → R := fun ρ => (ma ρ).bind revR1D
theorem iE_of {r : R} {f : D → R} {ρ : Ev} {σ : L2.St} {H H0 : Hp} {S0 S : List Addr} {Q : It → Hp → Prop} {Q' : VK} (env : EnvOk K G.xa H0 S0 S H σ ρ) (h : IPost K mg G S H σ (r.bind f) Q)
    (k : ∀ d H' v, Ex H H' → Dp K (hide S H') v d → IPost K mg G S H' σ (f d) Q → Q' v H') : tE K mg G ρ r σ H Q' := by
  refine ⟨H0, S0, S, env, ?_⟩
  cases r with
  | ok d =>
    refine fun H' v x hv => k d H' v x hv ?_
    have h' : IPost K mg G S H σ (f d) Q := h
    generalize f d = r2 at h'
    cases r2 with
    | ok y =>
      cases y with
      | list zs => exact fun H2 J x2 w => h' H2 J (x.trans x2) w
      | _ => exact h'
    | ex c => exact fun C H2 e x2 => h' C H2 e (x.trans x2)
    | no => exact h'
  | ex c => exact h
  | no => exact h
theorem x_revR1 {p p2 pos2 : Pos} (ha : XE X G a ma) (hm : X.mg "reversed" = none) (hm2 : X.mg "range" = none) (hg : Gl X "reversed" := by rfl) (hg2 : Gl X "range" := by rfl) (na : starEach [a] X.env = (false, eval a X.env) :: starEach [] X.env := by rfl)
    (hs : starEach [.Call (.Name "range" p) [a] [] pos] X.env = (false, eval (.Call (.Name "range" p) [a] [] pos) X.env) :: starEach [] X.env := by rfl) : XI X G tg (.Call (.Name "reversed" p2) [.Call (.Name "range" p) [a] [] pos] [] pos2) (mRevR1 ma) :=
  ⟨fun ρ => (pi_revR hg hm (prg_1 hg2 hm2 (ha.pe ρ) na) hs).imp fun σ H Q ⟨H0, S0, S, env, h⟩ => iE_of env h fun d H' v x hv h' => by
    cases hv with
    | int j =>
      by_cases k : big62 j = true
      · rw [show revR1D (.int j) = _ from if_pos k] at h'
        have k2 := big62_ok k
        exact ⟨j, rfl, by decide, by decide, k2.1, k2.2, h' H' _ (Ex.refl _) walkRR⟩
      · rw [show revR1D (.int j) = _ from if_neg k] at h'
        exact h'.elim
    | _ => exact h'.elim⟩
/-! xs[k] = e, xs of the frame's own -/
theorem s_setIx (i : Nat) {x : Str} {p p2 : Pos} (hk : XE X G b mk) (ha : XE X G a ma) (hi : X.N[i]? = some x := by rfl) (hv : Vis X.env.scope x := by first | exact Or.inl rfl | exact Or.inr (Or.inl rfl) | exact Or.inr (Or.inr rfl)) (hd : (x == ("__debug__" : Str)) = false := by decide)
    (hcd : (x == ("__classdict__" : Str)) = false := by decide) (hs : swapsWithSole [.Subscript (.Name x p) b p2] a pos.line X.env = pure false := by rfl) (hw : swappedStores [.Subscript (.Name x p) b p2] a X.env = pure none := by rfl)
    (h1 : (assignEach [.Subscript (.Name x p) b p2] X.env).map (·.2) = [assign (.Subscript (.Name x p) b p2) X.env] := by rfl)
    (hq : ∀ v, assign (.Subscript (.Name x p) b p2) X.env v = (do
      let ov ← holding [v] (eval (.Name x p) X.env)
      let iv ← holding [v, ov] (eval b X.env)
      standAt p2
      holding [v, ov, iv] (setItem ov iv v)
      release [v, ov, iv] []) := by intro _; rfl) :
    XS X G (.Assign [.Subscript (.Name x p) b p2] a pos) (mSetIx i mk ma) := ⟨fun ρ => (ps_asg (ha.pe ρ) (pg_sub (pe_var hi hv hd hcd) (hk.pe ρ) set_list hq) hs hw h1).imp fun Dn σ H ⟨H0, S0, S, env, h⟩ => by
  unfold mSetIx at h
  split at h
  · rename_i xs er
    refine go_tE env h fun d H' v _ xx hv h' => ?_
    have env' := env.mono xx
    obtain ⟨l, vs, e1, lS, hl, k⟩ := own_get env' er
    refine ⟨.ref l, e1, go_tE env' h' fun n H2 u _ x2 hu h2 => ?_⟩
    cases hu with
    | int n =>
      cases ej : ixN xs.length n with
      | none => simp only [ej] at h2; exact h2.elim
      | some j =>
        simp only [ej] at h2
        have lk := da_length k
        refine ⟨l, vs, n, j, rfl, rfl, x2.lst hl, by rw [lk]; exact ej, h2 σ S _ ((env'.mono x2).updO e1 er (da_set (dp_mono (hide_mono x2) hv) j (da_mono (hide_mono x2) k)))⟩
    | _ => exact h2.elim
  · exact h.elim⟩
/-! comprehensions of two clauses -/
def catD : D → D → R
  | .list xs, .list ys => .ok (.list (xs ++ ys))
  | _, _ => .no
def comp2D (bt : D → Option Ev) (mt inner : Ev → R) : List D → R
  | [] => .ok (.list [])
  | d :: ds => match bt d with
    | none => .no
    | some ρ1 => (mt ρ1).bind fun b => match b with
      | .bool true => (inner ρ1).bind fun y => (comp2D bt mt inner ds).bind fun r => catD y r
      | .bool false => comp2D bt mt inner ds
      | _ => .no
def innerD (mi1 : Ev → R) (bt1 : Ev → D → Option Ev) (mt1 me : Ev → R) (vs1 : List Nat) (ρ1 : Ev) : R := (mi1 ρ1).bind fun x => match x with
  | .list es => compD (bt1 (wipeE ρ1 vs1)) mt1 me es
  | _ => .no
def capD : R → R
  | .ok (.list rs) => if rs.length ≤ sizeLine then .ok (.list rs) else .no
  | _ => .no
def mComp2 (mi : Ev → R) (i0 : Nat) (mt mi1 : Ev → R) (bt1 : Ev → D → Option Ev) (mt1 me : Ev → R) (vs vs1 : List Nat) : Ev → R := fun ρ => (mi ρ).bind fun x => match x with
  | .list ds => capD (comp2D (bName i0 (wipeE ρ vs)) mt (innerD mi1 bt1 mt1 me vs1) ds)
  | _ => .no
theorem comp2D_list {bt : D → Option Ev} {mt inner : Ev → R} : ∀ {ds : List D} {d : D}, comp2D bt mt inner ds = .ok d → ∃ rs, d = .list rs
  | [], d, h => by cases h; exact ⟨[], rfl⟩
  | x :: ds, d, h => by
    unfold comp2D at h
    cases eb : bt x with
    | none => rw [eb] at h; cases h
    | some ρ1 =>
      rw [eb] at h
      dsimp only at h
      cases et : mt ρ1 with
      | ok z =>
        rw [et] at h
        cases z with
        | bool b =>
          cases b with
          | true =>
            change ((inner ρ1).bind fun y => (comp2D bt mt inner ds).bind fun r => catD y r) = _ at h
            cases em : inner ρ1 with
            | ok y =>
              rw [em] at h
              change ((comp2D bt mt inner ds).bind fun r => catD y r) = _ at h
              cases ec : comp2D bt mt inner ds with
              | ok r =>
                rw [ec] at h
                change catD y r = _ at h
                cases y with
                | list ys =>
                  cases r with
                  | list rs' => exact ⟨ys ++ rs', by change R.ok (.list (ys ++ rs')) = _ at h; cases h; rfl⟩
                  | _ => cases h
                | _ => cases h
              | ex c => rw [ec] at h; cases h
              | no => rw [ec] at h; cases h
            | ex c => rw [em] at h; cases h
            | no => rw [em] at h; cases h
          | false => exact comp2D_list (ds := ds) h
        | _ => cases h
      | ex c => rw [et] at h; cases h
      | no => rw [et] at h; cases h
theorem comp2D_cons {bt : D → Option Ev} {mt inner : Ev → R} {d : D} {ds rs : List D} (h : comp2D bt mt inner (d :: ds) = .ok (.list rs)) :
    ∃ ρ1, bt d = some ρ1 ∧ ((mt ρ1 = .ok (.bool true) ∧ ∃ xs rs', inner ρ1 = .ok (.list xs) ∧ comp2D bt mt inner ds = .ok (.list rs') ∧ rs = xs ++ rs') ∨ (mt ρ1 = .ok (.bool false) ∧ comp2D bt mt inner ds = .ok (.list rs))) := by
  unfold comp2D at h
  cases eb : bt d with
  | none => rw [eb] at h; cases h
  | some ρ1 =>
    rw [eb] at h
    refine ⟨ρ1, rfl, ?_⟩
    dsimp only at h
    cases et : mt ρ1 with
    | ok z =>
      rw [et] at h
      cases z with
      | bool b =>
        cases b with
        | true =>
          refine .inl ⟨rfl, ?_⟩
          change ((inner ρ1).bind fun y => (comp2D bt mt inner ds).bind fun r => catD y r) = _ at h
          cases em : inner ρ1 with
          | ok y =>
            rw [em] at h
            change ((comp2D bt mt inner ds).bind fun r => catD y r) = _ at h
            cases ec : comp2D bt mt inner ds with
            | ok r =>
              rw [ec] at h
              change catD y r = _ at h
              cases y with
              | list ys =>
                cases r with
                | list rs' =>
                  change R.ok (.list (ys ++ rs')) = _ at h
                  cases h
                  exact ⟨ys, rs', rfl, rfl, rfl⟩
                | _ => cases h
              | _ => cases h
            | ex c => rw [ec] at h; cases h
            | no => rw [ec] at h; cases h
          | ex c => rw [em] at h; cases h
          | no => rw [em] at h; cases h
        | false => exact .inr ⟨rfl, h⟩
      | _ => cases h
    | ex c => rw [et] at h; cases h
    | no => rw [et] at h; cases h
theorem innerD_ok {mi1 : Ev → R} {bt1 : Ev → D → Option Ev} {mt1 me : Ev → R} {vs1 : List Nat} {ρ1 : Ev} {xs : List D} (h : innerD mi1 bt1 mt1 me vs1 ρ1 = .ok (.list xs)) : ∃ es, mi1 ρ1 = .ok (.list es) ∧ compD (bt1 (wipeE ρ1 vs1)) mt1 me es = .ok (.list xs) := by
  unfold innerD at h
  cases em : mi1 ρ1 with
  | ok y =>
    rw [em] at h
    cases y with
    | list es => exact ⟨es, rfl, h⟩
    | _ => cases h
  | ex c => rw [em] at h; cases h
  | no => rw [em] at h; cases h
theorem capD_ok {r : R} {d : D} (h : capD r = .ok d) : ∃ rs, r = .ok (.list rs) ∧ rs.length ≤ sizeLine ∧ d = .list rs := by
  cases r with
  | ok y =>
    cases y with
    | list rs =>
      by_cases z : rs.length ≤ sizeLine
      · rw [show capD (.ok (.list rs)) = _ from if_pos z] at h
        cases h
        exact ⟨rs, rfl, z, rfl⟩
      · rw [show capD (.ok (.list rs)) = _ from if_neg z] at h
        cases h
    | _ => cases h
  | ex c => cases h
  | no => cases h
theorem capD_no {r : R} : (∃ d, capD r = .ok d) ∨ capD r = .no := by
  cases r with
  | ok y =>
    cases y with
    | list rs =>
      by_cases z : rs.length ≤ sizeLine
      · exact .inl ⟨_, if_pos z⟩
      · exact .inr (if_neg z)
    | _ => exact .inr rfl
  | ex c => exact .inr rfl
  | no => exact .inr rfl
variable {σ : L2.St} {ρ : Ev} {H H0 : Hp} {S0 S : List Addr}
theorem tLc2_of {i0 : Nat} {js1 vs vs1 : List Nat} {mi mt mi1 mt1 me : Ev → R} {bt1 : Ev → D → Option Ev} {Q : VK} (hj : i0 ∈ vs) (hj1 : ∀ j ∈ js1, j ∈ vs1) (hw : tL K mg G ρ (mComp2 mi i0 mt mi1 bt1 mt1 me vs vs1 ρ) σ H Q) :
    tLc2 (tI K mg G ρ (mi ρ)) (fun v σ H Q => ∃ ρ, tG K G.xa [i0] ρ (bName i0 ρ) v σ H Q) (fun σ H Q => ∃ ρ, tT K mg G.blk ρ (mt ρ) σ H Q) (fun σ H Q => ∃ ρ, tI K mg G.blk ρ (mi1 ρ) σ H Q) (fun v σ H Q => ∃ ρ, tG K G.xa js1 ρ (bt1 ρ) v σ H Q) (fun σ H Q => ∃ ρ, tT K mg G.blk ρ (mt1 ρ) σ H Q) (fun σ H Q => ∃ ρ, tE K mg G.blk ρ (me ρ) σ H Q) vs vs1 σ H Q := by
  obtain ⟨H0, S0, S, env, h⟩ := hw
  refine ⟨H0, S0, S, env, ?_⟩
  unfold mComp2 at h
  generalize mi ρ = r at h
  cases r with
  | ok x =>
    cases x with
    | list ds =>
      intro H1 J x1 wd D nD
      have h1 : LPost K mg G S H σ (capD (comp2D (bName i0 (wipeE ρ vs)) mt (innerD mi1 bt1 mt1 me vs1) ds)) Q := h
      rcases capD_no (r := comp2D (bName i0 (wipeE ρ vs)) mt (innerD mi1 bt1 mt1 me vs1) ds) with ⟨d0, ed⟩ | ed
      · obtain ⟨ys, ec, hz, rfl⟩ := capD_ok ed
        rw [ed] at h1
        have env1 := env.mono x1
        have n0 : H0 D = none := fresh_back env1.ex0 nD
        have noD : ∀ i, ¬ OwnAt (L2.wipe σ vs) (wipeE ρ vs) i D := fun i o => by
          obtain ⟨_, u, hl, _⟩ := (env1.wipe vs).at_own o
          rw [nD] at hl
          cases hl
        have envS := ((env1.wipe vs).more (p := D) nD (Ex.new (o := .lst []) nD) upd_same trivial)
        refine ⟨fun i k H2 => k = ds.length - i ∧ i ≤ ds.length ∧ ∃ acc outs rest, EnvOk K G.xa H0 S0 (D :: S) H2 (L2.wipe σ vs) (wipeE ρ vs) ∧ H2 D = some (.lst acc) ∧ DpAll K (hide (D :: S) H2) acc outs ∧
          comp2D (bName i0 (wipeE ρ vs)) mt (innerD mi1 bt1 mt1 me vs1) (ds.drop i) = .ok (.list rest) ∧ outs ++ rest = ys ∧ Ex H1 H2, ⟨ds.length, rfl, Nat.zero_le _, [], [], ys, envS, upd_same, .nil, ec, rfl, Ex.new nD⟩, ?_⟩
        rintro i k H2 ⟨rfl, hi, acc, outs, rest, env2, hD, ka, er, ey, kp⟩
        have sn : Ek (hide S H1) (hide (D :: S) H2) := hide_fresh nD kp
        by_cases hlt : i < ds.length
        · refine .inr ⟨wd.goes i H2 hlt (sn.trans hide_sub), fun H3 => ∃ acc outs rest, EnvOk K G.xa H0 S0 (D :: S) H3 (L2.wipe σ vs) (wipeE ρ vs) ∧ H3 D = some (.lst acc) ∧ DpAll K (hide (D :: S) H3) acc outs ∧
            comp2D (bName i0 (wipeE ρ vs)) mt (innerD mi1 bt1 mt1 me vs1) (ds.drop (i + 1)) = .ok (.list rest) ∧ outs ++ rest = ys ∧ Ex H1 H3, fun H3 z => ⟨ds.length - (i + 1), by omega, rfl, hlt, z⟩, fun v H3 hy => ?_⟩
          obtain ⟨x3, d, hd, kd⟩ := wd.yields i H2 v H3 hlt (sn.trans hide_sub) hy
          have ed : ds.drop i = d :: ds.drop (i + 1) := by
            rw [List.drop_eq_getElem_cons hlt]
            congr 1
            rw [List.getElem?_eq_getElem hlt] at hd
            exact Option.some.inj hd
          rw [ed] at er
          obtain ⟨ρ1, eb, hb⟩ := comp2D_cons er
          have eb1 : (wipeE ρ vs).set i0 (.d d) = ρ1 := Option.some.inj eb
          have env3 := env2.mono x3
          refine ⟨wipeE ρ vs, H0, S0, D :: S, d, env3, kd (D :: S) env2.sH (sn.trans (hide_mono x3)), ρ1, eb, fun σ4 l4 s4 env4 => ⟨?_, ρ1, H0, S0, D :: S, env4, ?_⟩⟩
          · exact (wipe_get l4 fun j hj' => s4 j fun z => hj' (by rw [List.mem_singleton.mp z]; exact hj)).trans (wipe_idem σ vs)
          · have noD4 : ∀ i, ¬ OwnAt σ4 ρ1 i D := fun i o => by
              obtain ⟨e1, xs, e2, ew⟩ := o
              have ne : i ≠ i0 := fun z => by
                rw [← eb1, z, List.getElem?_set_self'] at e2
                cases ez : (wipeE ρ vs)[i0]? with
                | none => rw [ez] at e2; cases e2
                | some _ => rw [ez] at e2; cases e2; cases ew
              rw [← eb1, List.getElem?_set_ne (Ne.symm ne)] at e2
              rw [s4 i fun z => ne (List.mem_singleton.mp z)] at e1
              exact noD i ⟨e1, xs, e2, ew⟩
            rcases hb with ⟨et, xs, rs', em, ec', rfl⟩ | ⟨et, ec'⟩
            · rw [et]
              intro H4 x4
              obtain ⟨fs, ei, ex1⟩ := innerD_ok em
              refine iteT ⟨ρ1, H0, S0, D :: S, env4.mono x4, ?_⟩
              rw [ei]
              intro H5 J1 x5 wd1
              have x25 : Ex H2 H5 := (x3.trans x4).trans x5
              refine ⟨fun j k H6 => k = fs.length - j ∧ j ≤ fs.length ∧ ∃ acc outs rest1, EnvOk K G.xa H0 S0 (D :: S) H6 σ4 ρ1 ∧ EnvOk K G.xa H0 S0 (D :: S) H6 (L2.wipe σ vs) (wipeE ρ vs) ∧ H6 D = some (.lst acc) ∧ DpAll K (hide (D :: S) H6) acc outs ∧
                compD (bt1 (wipeE ρ1 vs1)) mt1 me (fs.drop j) = .ok (.list rest1) ∧ outs ++ (rest1 ++ rs') = ys ∧ Ex H1 H6 ∧ Ek (hide (D :: S) H5) (hide (D :: S) H6), ⟨fs.length, rfl, Nat.zero_le _, acc, outs, xs, (env4.mono x4).mono x5, env2.mono x25, x25.lst hD, da_mono (hide_mono x25) ka, ex1, ey, kp.trans x25, Ek.refl _⟩, ?_⟩
              rintro j k H6 ⟨rfl, hj6, acc6, outs6, rest6, env6, env6', hD6, ka6, er6, ey6, kp6, kp56⟩
              have sn6 : Ek (hide (D :: S) H5) (hide (D :: S) H6) := kp56
              by_cases hlt6 : j < fs.length
              · refine .inr ⟨wd1.goes j H6 hlt6 (sn6.trans hide_sub), fun H7 => ∃ acc outs rest1, EnvOk K G.xa H0 S0 (D :: S) H7 σ4 ρ1 ∧ EnvOk K G.xa H0 S0 (D :: S) H7 (L2.wipe σ vs) (wipeE ρ vs) ∧ H7 D = some (.lst acc) ∧ DpAll K (hide (D :: S) H7) acc outs ∧
                  compD (bt1 (wipeE ρ1 vs1)) mt1 me (fs.drop (j + 1)) = .ok (.list rest1) ∧ outs ++ (rest1 ++ rs') = ys ∧ Ex H1 H7 ∧ Ek (hide (D :: S) H5) (hide (D :: S) H7), fun H7 z => ⟨fs.length - (j + 1), by omega, rfl, hlt6, z⟩, fun v1 H7 hy1 => ?_⟩
                obtain ⟨x7, d1, hd1, kd1⟩ := wd1.yields j H6 v1 H7 hlt6 (sn6.trans hide_sub) hy1
                have ed1 : fs.drop j = d1 :: fs.drop (j + 1) := by
                  rw [List.drop_eq_getElem_cons hlt6]
                  congr 1
                  rw [List.getElem?_eq_getElem hlt6] at hd1
                  exact Option.some.inj hd1
                rw [ed1] at er6
                obtain ⟨ρ2, eb2, hb2⟩ := compD_cons er6
                refine ⟨wipeE ρ1 vs1, H0, S0, D :: S, d1, (env6.wipe vs1).mono x7, kd1 (D :: S) env6.sH (sn6.trans (hide_mono x7)), ρ2, eb2, fun σ5 l5 s5 env5 => ⟨(wipe_get l5 fun j hj' => s5 j fun z => hj' (hj1 j z)).trans (wipe_idem σ4 vs1), ρ2, H0, S0, D :: S, env5, ?_⟩⟩
                rcases hb2 with ⟨et2, y, rs2, em2, ec2, rfl⟩ | ⟨et2, ec2⟩
                · rw [et2]
                  intro H8 x8
                  refine iteT ⟨ρ2, H0, S0, D :: S, env5.mono x8, ?_⟩
                  rw [em2]
                  intro H9 w x9 kw
                  have x69 : Ex H6 H9 := (x7.trans x8).trans x9
                  refine ⟨acc6, x69.lst hD6, ?_, acc6 ++ [w], outs6 ++ [y], rs2, (env6.mono x69).updHid List.mem_cons_self n0 (x69.lst hD6) trivial trivial noD4, (env6'.mono x69).updHid List.mem_cons_self n0 (x69.lst hD6) trivial trivial noD, upd_same, ?_, ec2, by rw [List.append_assoc]; exact ey6, (kp6.trans x69).mut nD (x69.lst hD6) trivial, by rw [hide_upd List.mem_cons_self]; exact kp56.trans (hide_mono x69)⟩
                  · have := congrArg List.length ey6
                    simp only [List.length_append, List.length_cons] at this
                    have := da_length ka6
                    omega
                  · rw [hide_upd List.mem_cons_self]
                    exact da_app1 (da_mono (hide_mono x69) ka6) kw
                · rw [et2]
                  intro H8 x8
                  have x68 : Ex H6 H8 := x7.trans x8
                  exact iteF ⟨acc6, outs6, rest6, env6.mono x68, env6'.mono x68, x68.lst hD6, da_mono (hide_mono x68) ka6, ec2, ey6, kp6.trans x68, kp56.trans (hide_mono x68)⟩
              · have e : j = fs.length := by omega
                subst e
                rw [List.drop_length] at er6
                have er' : rest6 = [] := by
                  have z : R.ok (PyData.list []) = .ok (.list rest6) := er6
                  cases z
                  rfl
                subst er'
                exact .inl ⟨wd1.stops H6 (sn6.trans hide_sub), acc6, outs6, rs', env6', hD6, ka6, ec', by simpa using ey6, kp6⟩
            · rw [et]
              intro H4 x4
              have x34 : Ex H2 H4 := x3.trans x4
              exact iteF ⟨acc, outs, rest, env2.mono x34, x34.lst hD, da_mono (hide_mono x34) ka, ec', ey, kp.trans x34⟩
        · have e : i = ds.length := by omega
          subst e
          rw [List.drop_length] at er
          have er' : rest = [] := by
            have z : R.ok (PyData.list []) = .ok (.list rest) := er
            cases z
            rfl
          subst er'
          rw [List.append_nil] at ey
          subst ey
          refine .inl ⟨wd.stops H2 (sn.trans hide_sub), h1 H2 D acc (fresh_back x1 nD) (x1.trans kp) hD ka⟩
      · rw [ed] at h1
        exact h1.elim
    | _ => exact h
  | ex c => exact h
  | no => exact h
theorem mComp2_list {i0 : Nat} {vs vs1 : List Nat} {mi mt mi1 mt1 me : Ev → R} {bt1 : Ev → D → Option Ev} {ρ : Ev} {d : D} (h : mComp2 mi i0 mt mi1 bt1 mt1 me vs vs1 ρ = .ok d) : ∃ ds, d = .list ds := by
  unfold mComp2 at h
  cases er : mi ρ with
  | ok x =>
    rw [er] at h
    cases x with
    | list ds =>
      obtain ⟨rs, _, _, e⟩ := capD_ok (show capD (comp2D (bName i0 (wipeE ρ vs)) mt (innerD mi1 bt1 mt1 me vs1) ds) = .ok d from h)
      exact ⟨rs, e⟩
    | _ => cases h
  | ex c => rw [er] at h; cases h
  | no => rw [er] at h; cases h
theorem xl_comp2 {elt iter tg1 iter1 : Expr} {ifs ifs1 : List Expr} {scope : Scope} {own : List (Str × Nat)} {i0 : Nat} {js1 vs1 : List Nat} {mi mt mi1 mt1 me : Ev → R} {bt1 : Ev → D → Option Ev} (hN : X.N.Nodup) (hi : XI X G tg iter mi) (ok : BlkOk X.N X.env.scope scope own)
    (hg : ∀ (s : Shared) (H : Hp) (C : Addr) (cl : List (Str × Addr)) (fp : List Addr), XG (X.blk s H scope (compEnvC scope cl C X.env) fp) G.xa tg [i0] (bName i0))
    (ht : ∀ (s : Shared) (H : Hp) (C : Addr) (cl : List (Str × Addr)) (fp : List Addr), XTs (X.blk s H scope (compEnvC scope cl C X.env) fp) G.blk ifs mt)
    (hi1 : ∀ (s : Shared) (H : Hp) (C : Addr) (cl : List (Str × Addr)) (fp : List Addr), XI (X.blk s H scope (compEnvC scope cl C X.env) fp) G.blk tg1 iter1 mi1)
    (hg1 : ∀ (s : Shared) (H : Hp) (C : Addr) (cl : List (Str × Addr)) (fp : List Addr), XG (X.blk s H scope (compEnvC scope cl C X.env) fp) G.xa tg1 js1 bt1)
    (ht1 : ∀ (s : Shared) (H : Hp) (C : Addr) (cl : List (Str × Addr)) (fp : List Addr), XTs (X.blk s H scope (compEnvC scope cl C X.env) fp) G.blk ifs1 mt1)
    (he : ∀ (s : Shared) (H : Hp) (C : Addr) (cl : List (Str × Addr)) (fp : List Addr), XE (X.blk s H scope (compEnvC scope cl C X.env) fp) G.blk elt me)
    (hj : i0 ∈ own.map (·.2) := by decide) (hj1 : ∀ j ∈ js1, j ∈ vs1 := by decide) (hv : ∀ i ∈ vs1, i ∈ own.map (·.2) := by decide) (hc : X.calm = true := by rfl) (hs : ∀ x, foldedSetIterable iter X.env x = pure x := by intro _; rfl) (hs1 : ∀ env x, foldedSetIterable iter1 env x = pure x := by intro _ _; rfl) :
    XL X G (.ListComp elt [⟨tg, iter, ifs, 0⟩, ⟨tg1, iter1, ifs1, 0⟩] scope pos) (mComp2 mi i0 mt mi1 bt1 mt1 me (own.map (·.2)) vs1) :=
  ⟨fun ρ => (pe_lc2 hc hN (hi.pi ρ) ok hv (g := fun v σ H Q => ∃ ρ, tG X.K G.xa [i0] ρ (bName i0 ρ) v σ H Q) (tt := fun σ H Q => ∃ ρ, tT X.K X.mg G.blk ρ (mt ρ) σ H Q) (wi1 := fun σ H Q => ∃ ρ, tI X.K X.mg G.blk ρ (mi1 ρ) σ H Q) (g1 := fun v σ H Q => ∃ ρ, tG X.K G.xa js1 ρ (bt1 ρ) v σ H Q) (tt1 := fun σ H Q => ∃ ρ, tT X.K X.mg G.blk ρ (mt1 ρ) σ H Q) (te := fun σ H Q => ∃ ρ, tE X.K X.mg G.blk ρ (me ρ) σ H Q)
    (fun s H C cl fp => ⟨fun pins s' σ H' v u Q I r ⟨ρ, hw⟩ => ((hg s H C cl fp).pg ρ).run pins s' σ H' v u Q I r hw⟩)
    (fun s H C cl fp => ⟨fun pins s' σ H' Q I ⟨ρ, hw⟩ => ((ht s H C cl fp).pt ρ).run pins s' σ H' Q I hw⟩)
    (fun s H C cl fp => ⟨fun pins s' σ H' Q I ⟨ρ, hw⟩ => ((hi1 s H C cl fp).pi ρ).run pins s' σ H' Q I hw⟩)
    (fun s H C cl fp => ⟨fun pins s' σ H' v u Q I r ⟨ρ, hw⟩ => ((hg1 s H C cl fp).pg ρ).run pins s' σ H' v u Q I r hw⟩)
    (fun s H C cl fp => ⟨fun pins s' σ H' Q I ⟨ρ, hw⟩ => ((ht1 s H C cl fp).pt ρ).run pins s' σ H' Q I hw⟩)
    (fun s H C cl fp => ⟨fun pins s' σ H' Q I ⟨ρ, hw⟩ => ((he s H C cl fp).pe ρ).run pins s' σ H' Q I hw⟩) hs hs1).imp fun σ H Q h => tLc2_of hj hj1 h, fun ρ d h => mComp2_list h⟩
/-- name = [..] on one line -/
theorem s_setLc2D (i : Nat) {y : Str} {py spos : Pos} {elt iter tg1 iter1 : Expr} {ifs ifs1 : List Expr} {scope : Scope} {own : List (Str × Nat)} {i0 : Nat} {js1 vs1 : List Nat} {mi mt mi1 mt1 me : Ev → R} {bt1 : Ev → D → Option Ev} (hN : X.N.Nodup) (hi : XI X G tg iter mi) (ok : BlkOk X.N X.env.scope scope own)
    (hg : ∀ (s : Shared) (H : Hp) (C : Addr) (cl : List (Str × Addr)) (fp : List Addr), XG (X.blk s H scope (compEnvC scope cl C X.env) fp) G.xa tg [i0] (bName i0))
    (ht : ∀ (s : Shared) (H : Hp) (C : Addr) (cl : List (Str × Addr)) (fp : List Addr), XTs (X.blk s H scope (compEnvC scope cl C X.env) fp) G.blk ifs mt)
    (hi1 : ∀ (s : Shared) (H : Hp) (C : Addr) (cl : List (Str × Addr)) (fp : List Addr), XI (X.blk s H scope (compEnvC scope cl C X.env) fp) G.blk tg1 iter1 mi1)
    (hg1 : ∀ (s : Shared) (H : Hp) (C : Addr) (cl : List (Str × Addr)) (fp : List Addr), XG (X.blk s H scope (compEnvC scope cl C X.env) fp) G.xa tg1 js1 bt1)
    (ht1 : ∀ (s : Shared) (H : Hp) (C : Addr) (cl : List (Str × Addr)) (fp : List Addr), XTs (X.blk s H scope (compEnvC scope cl C X.env) fp) G.blk ifs1 mt1)
    (he : ∀ (s : Shared) (H : Hp) (C : Addr) (cl : List (Str × Addr)) (fp : List Addr), XE (X.blk s H scope (compEnvC scope cl C X.env) fp) G.blk elt me)
    (hj : i0 ∈ own.map (·.2) := by decide) (hj1 : ∀ j ∈ js1, j ∈ vs1 := by decide) (hv : ∀ i ∈ vs1, i ∈ own.map (·.2) := by decide) (hc : X.calm = true := by rfl) (hs : ∀ x, foldedSetIterable iter X.env x = pure x := by intro _; rfl) (hs1 : ∀ env x, foldedSetIterable iter1 env x = pure x := by intro _ _; rfl)
    (hi2 : X.N[i]? = some y := by rfl) (hyl : X.env.scope.names.lookup y = some .local := by rfl) (hsw : swapsWith (.ListComp elt [⟨tg, iter, ifs, 0⟩, ⟨tg1, iter1, ifs1, 0⟩] scope pos) (some (.Name y py)) spos.line X.env = pure true := by exact sw_true rfl rfl rfl (by decide +kernel)) :
    XS X G (.Assign [.Name y py] (.ListComp elt [⟨tg, iter, ifs, 0⟩, ⟨tg1, iter1, ifs1, 0⟩] scope pos) spos) (mSet i (mComp2 mi i0 mt mi1 bt1 mt1 me (own.map (·.2)) vs1)) :=
  ⟨fun ρ => (ps_setLc2 hc hN hi2 hyl hsw (hi.pi ρ) ok hv (g := fun v σ H Q => ∃ ρ, tG X.K G.xa [i0] ρ (bName i0 ρ) v σ H Q) (tt := fun σ H Q => ∃ ρ, tT X.K X.mg G.blk ρ (mt ρ) σ H Q) (wi1 := fun σ H Q => ∃ ρ, tI X.K X.mg G.blk ρ (mi1 ρ) σ H Q) (g1 := fun v σ H Q => ∃ ρ, tG X.K G.xa js1 ρ (bt1 ρ) v σ H Q) (tt1 := fun σ H Q => ∃ ρ, tT X.K X.mg G.blk ρ (mt1 ρ) σ H Q) (te := fun σ H Q => ∃ ρ, tE X.K X.mg G.blk ρ (me ρ) σ H Q)
    (fun s H C cl fp => ⟨fun pins s' σ H' v u Q I r ⟨ρ, hw⟩ => ((hg s H C cl fp).pg ρ).run pins s' σ H' v u Q I r hw⟩)
    (fun s H C cl fp => ⟨fun pins s' σ H' Q I ⟨ρ, hw⟩ => ((ht s H C cl fp).pt ρ).run pins s' σ H' Q I hw⟩)
    (fun s H C cl fp => ⟨fun pins s' σ H' Q I ⟨ρ, hw⟩ => ((hi1 s H C cl fp).pi ρ).run pins s' σ H' Q I hw⟩)
    (fun s H C cl fp => ⟨fun pins s' σ H' v u Q I r ⟨ρ, hw⟩ => ((hg1 s H C cl fp).pg ρ).run pins s' σ H' v u Q I r hw⟩)
    (fun s H C cl fp => ⟨fun pins s' σ H' Q I ⟨ρ, hw⟩ => ((ht1 s H C cl fp).pt ρ).run pins s' σ H' Q I hw⟩)
    (fun s H C cl fp => ⟨fun pins s' σ H' Q I ⟨ρ, hw⟩ => ((he s H C cl fp).pe ρ).run pins s' σ H' Q I hw⟩) hs hs1).imp fun Dn σ H ⟨H0, S0, S, env, h⟩ => tLc2_of hj hj1 (setD_of env (fun ρ d h => mComp2_list h) h)⟩
end
end FL
/-! plain evaluation, more -/
namespace FL
open PySem PySem.Spec PyProof.Rows L2
variable [TabNames]
section
variable {d x y : D} {ds es xs ys : List D} {f : D → R} {r r2 : R} {ρ ρ1 : Ev} {i j : Int} {b c : Bool} {ma mb mc mo : Ev → R} {ns : List Int} {z w : Str}
@[simp] theorem ev_strD (q : strB i = true) : strD [.int i] = some (.str (toString i)) := if_pos q
theorem strB_ok (q : i.natAbs < 2 ^ 1920) : strB i = true := by
  refine decide_eq_true ?_
  by_cases e : i.natAbs = 0
  · rw [e]; decide
  · exact (Nat.log2_lt e).mpr q
theorem strB_s (q1 : -100000000000000000000 < i) (q2 : i < 100000000000000000000) : strB i = true := strB_ok (Nat.lt_of_lt_of_le (by omega : i.natAbs < 100000000000000000000) (Nat.le_trans (by decide : 100000000000000000000 ≤ 2 ^ 67) (Nat.pow_le_pow_right (by decide) (by decide))))
@[simp] theorem ints_nil : intsOf [] = some [] := by rw [intsOf]
@[simp] theorem ints_cons : intsOf (.int i :: ds) = (intsOf ds).map (i :: ·) := by rw [intsOf]
@[simp] theorem ints_map : intsOf (ns.map .int) = some ns := by
  induction ns with
  | nil => exact ints_nil
  | cons i r ih => rw [List.map_cons, ints_cons, ih]; exact Eq.trans rfl rfl
@[simp] theorem ev_minL : minLD [.list ds] = ((intsOf ds).bind minI).map .int := by rw [minLD]
@[simp] theorem ev_maxL : maxLD [.list ds] = ((intsOf ds).bind maxI).map .int := by rw [maxLD]
@[simp] theorem ev_sumL : sumD [.list ds] = (intsOf ds).map fun ns => .int ns.sum := by rw [sumD]
theorem minI_some (h : ns ≠ []) : ∃ m, minI ns = some m := by
  cases ns with
  | nil => exact absurd rfl h
  | cons x r => exact ⟨_, rfl⟩
theorem maxI_some (h : ns ≠ []) : ∃ m, maxI ns = some m := by
  cases ns with
  | nil => exact absurd rfl h
  | cons x r => exact ⟨_, rfl⟩
@[simp] theorem ev_isqrt (q : isqB i = true) : isqrtD [.int i] = some (.int (Float64.isqrt i.toNat : Nat)) := if_pos q
theorem isqB_ok (q0 : 0 ≤ i) (q : i.natAbs < 2 ^ 13000) : isqB i = true := by
  unfold isqB
  rw [decide_eq_true q0, Bool.true_and]
  refine decide_eq_true ?_
  have e2 : i.toNat = i.natAbs := by omega
  rw [e2]
  by_cases e : i.natAbs = 0
  · rw [e]; decide
  · exact Nat.le_of_lt ((Nat.log2_lt e).mpr q)
theorem isqrt_int (h : 0 ≤ i) : ∃ r : Int, ((Float64.isqrt i.toNat : Nat) : Int) = r ∧ 0 ≤ r ∧ r * r ≤ i ∧ i < (r + 1) * (r + 1) := by
  obtain ⟨h1, h2⟩ := Float64.isqrt_spec i.toNat
  refine ⟨_, rfl, Int.natCast_nonneg _, ?_, ?_⟩
  · have : (((Float64.isqrt i.toNat * Float64.isqrt i.toNat : Nat)) : Int) ≤ (i.toNat : Int) := by exact_mod_cast h1
    rw [Int.natCast_mul] at this
    omega
  · have : (i.toNat : Int) < (((Float64.isqrt i.toNat + 1) * (Float64.isqrt i.toNat + 1) : Nat) : Int) := by exact_mod_cast h2
    rw [Int.natCast_mul, Int.natCast_add, Int.natCast_one] at this
    omega
@[simp] theorem ev_gcd : gcdD [.int i, .int j] = some (.int (Nat.gcd i.natAbs j.natAbs : Nat)) := Eq.trans rfl rfl
@[simp] theorem ev_m1 {g : Str → D → Option D} : mM1 g mo ma ρ = (mo ρ).bind (m1K g (ma ρ)) := Eq.trans rfl rfl
@[simp] theorem ev_m1K {g : Str → D → Option D} : m1K g r (.str z) = r.bind fun y => R.of (g z y) := Eq.trans rfl rfl
@[simp] theorem ev_find : findD z (.str w) = some (.int (Txt.find z w)) := Eq.trans rfl rfl
@[simp] theorem ev_startswith : startswithD z (.str w) = some (.bool (Txt.startswith z w)) := Eq.trans rfl rfl
@[simp] theorem ev_removeprefix (q : lineB z = true) : removeprefixD z (.str w) = some (.str (Txt.removeprefix z w)) := if_pos q
@[simp] theorem ev_rstrip (q : lineB z = true) : rstripD z (.str w) = some (.str (Txt.rstripChars z w)) := if_pos q
@[simp] theorem ev_split (q : splitB z w = true) : splitD z (.str w) = some (.list ((Txt.split z w).map .str)) := if_pos q
@[simp] theorem strs_nil : strsOf [] = some [] := by rw [strsOf]
@[simp] theorem strs_cons : strsOf (.str z :: ds) = (strsOf ds).map (z :: ·) := by rw [strsOf]
@[simp] theorem strs_map {zs : List Str} : strsOf (zs.map .str) = some zs := by
  induction zs with
  | nil => exact strs_nil
  | cons i r ih => rw [List.map_cons, strs_cons, ih]; exact Eq.trans rfl rfl
@[simp] theorem ev_join : joinD z (.list ds) = joinK z (strsOf ds) := Eq.trans rfl rfl
@[simp] theorem ev_joinK {zs : List Str} (q : joinB z zs = true) : joinK z (some zs) = some (.str (Txt.join z zs)) := if_pos q
@[simp] theorem ev_bits : mBits mo ρ = (mo ρ).bind bitsD := Eq.trans rfl rfl
@[simp] theorem ev_bitsD : bitsD (.int i) = .ok (.int (Builtin.Int.intBits i : Nat)) := Eq.trans rfl rfl
@[simp] theorem ev_fmt : mFmt ma ρ = (ma ρ).bind fmtD := Eq.trans rfl rfl
@[simp] theorem ev_fmtS (q : fmtB z = true) : fmtD (.str z) = .ok (.str z) := if_pos q
@[simp] theorem ev_fmtI (q : strB i = true) : fmtD (.int i) = .ok (.str (toString i)) := if_pos q
@[simp] theorem ev_J {ms : List (Ev → R)} : mJ ms ρ = jD ms ρ Str.empty := Eq.trans rfl rfl
@[simp] theorem ev_jD0 {acc : Str} : jD [] ρ acc = .ok (.str acc) := by rw [jD]
@[simp] theorem ev_jD1 {acc : Str} {m : Ev → R} {ms : List (Ev → R)} : jD (m :: ms) ρ acc = (m ρ).bind (jK (jD ms ρ) acc) := by rw [jD]
@[simp] theorem ev_jK {k : Str → R} (q : fmtB (w ++ z) = true) : jK k w (.str z) = k (w ++ z) := if_pos q
@[simp] theorem ev_revR1 : mRevR1 ma ρ = (ma ρ).bind revR1D := Eq.trans rfl rfl
@[simp] theorem ev_revR1D (q1 : -4611686018427387904 ≤ j) (q2 : j < 4611686018427387904) : revR1D (.int j) = .ok (.list (revRangeD 0 (j - 0).toNat)) := if_pos (by unfold big62; rw [Bool.and_eq_true]; exact ⟨decide_eq_true q1, decide_eq_true q2⟩)
/-! comprehensions over what is written -/
def ckB (e r : R) : D → R
  | .bool true => e.bind fun y => r.bind fun z => consD y z
  | .bool false => r
  | _ => .no
def ckK (mt me : Ev → R) (r : R) : Option Ev → R
  | some ρ1 => (mt ρ1).bind (ckB (me ρ1) r)
  | none => .no
@[simp] theorem compD_0 {bt : D → Option Ev} {mt me : Ev → R} : compD bt mt me [] = .ok (.list []) := by rw [compD]
theorem compD_c {bt : D → Option Ev} {mt me : Ev → R} : compD bt mt me (d :: ds) = ckK mt me (compD bt mt me ds) (bt d) := by
  rw [compD]
  cases bt d with
  | none => exact Eq.trans rfl rfl
  | some ρ1 =>
    show R.bind _ _ = R.bind _ _
    congr 1
@[simp] theorem ev_ckK {mt me : Ev → R} : ckK mt me r (some ρ1) = (mt ρ1).bind (ckB (me ρ1) r) := Eq.trans rfl rfl
@[simp] theorem ev_ckB : ckB r r2 (.bool b) = if b = true then r.bind fun y => r2.bind fun z => consD y z else r2 := by cases b <;> exact Eq.trans rfl rfl
def c2B (e r : R) : D → R
  | .bool true => e.bind fun y => r.bind fun z => catD y z
  | .bool false => r
  | _ => .no
def c2K (mt inner : Ev → R) (r : R) : Option Ev → R
  | some ρ1 => (mt ρ1).bind (c2B (inner ρ1) r)
  | none => .no
@[simp] theorem comp2D_0 {bt : D → Option Ev} {mt me : Ev → R} : comp2D bt mt me [] = .ok (.list []) := by rw [comp2D]
theorem comp2D_c {bt : D → Option Ev} {mt me : Ev → R} : comp2D bt mt me (d :: ds) = c2K mt me (comp2D bt mt me ds) (bt d) := by
  rw [comp2D]
  cases bt d with
  | none => exact Eq.trans rfl rfl
  | some ρ1 =>
    show R.bind _ _ = R.bind _ _
    congr 1
@[simp] theorem ev_c2K {mt me : Ev → R} : c2K mt me r (some ρ1) = (mt ρ1).bind (c2B (me ρ1) r) := Eq.trans rfl rfl
@[simp] theorem ev_c2B : c2B r r2 (.bool b) = if b = true then r.bind fun y => r2.bind fun z => catD y z else r2 := by cases b <;> exact Eq.trans rfl rfl
@[simp] theorem ev_catD : catD (.list xs) (.list ys) = .ok (.list (xs ++ ys)) := Eq.trans rfl rfl
@[simp] theorem ev_capD (q : ds.length ≤ sizeLine) : capD (.ok (.list ds)) = .ok (.list ds) := if_pos q
def comp2K (i0 : Nat) (mt mi1 : Ev → R) (bt1 : Ev → D → Option Ev) (mt1 me : Ev → R) (vs vs1 : List Nat) (ρ : Ev) : D → R
  | .list ds => capD (comp2D (bName i0 (wipeE ρ vs)) mt (innerD mi1 bt1 mt1 me vs1) ds)
  | _ => .no
section
variable {i0 : Nat} {mi mt mi1 mt1 me : Ev → R} {bt1 : Ev → D → Option Ev} {vs vs1 : List Nat}
@[simp] theorem ev_comp2 : mComp2 mi i0 mt mi1 bt1 mt1 me vs vs1 ρ = (mi ρ).bind (comp2K i0 mt mi1 bt1 mt1 me vs vs1 ρ) := Eq.trans rfl rfl
@[simp] theorem ev_comp2K : comp2K i0 mt mi1 bt1 mt1 me vs vs1 ρ (.list ds) = capD (comp2D (bName i0 (wipeE ρ vs)) mt (innerD mi1 bt1 mt1 me vs1) ds) := Eq.trans rfl rfl
def innK (bt1 : Ev → D → Option Ev) (mt1 me : Ev → R) (vs1 : List Nat) (ρ1 : Ev) : D → R
  | .list es => compD (bt1 (wipeE ρ1 vs1)) mt1 me es
  | _ => .no
@[simp] theorem ev_inner : innerD mi1 bt1 mt1 me vs1 ρ = (mi1 ρ).bind (innK bt1 mt1 me vs1 ρ) := Eq.trans rfl rfl
@[simp] theorem ev_innK : innK bt1 mt1 me vs1 ρ (.list ds) = compD (bt1 (wipeE ρ vs1)) mt1 me ds := Eq.trans rfl rfl
end
def setJK (ρ : Ev) (n : Nat) (xs : List D) (d : D) : Option Nat → Out
  | some j => .nx (ρ.set n (.ol (xs.set j d)))
  | none => .no
def setIK (ρ : Ev) (n : Nat) (xs : List D) (d : D) : D → Out
  | .int k => setJK ρ n xs d (ixN xs.length k)
  | _ => .no
def setXK (ρ : Ev) (n : Nat) (rk r : R) : Option Sl → Out
  | some (.ol xs) => r.go ρ fun d => rk.go ρ (setIK ρ n xs d)
  | _ => .no
@[simp] theorem ev_setIx {n : Nat} : mSetIx n mb ma ρ = setXK ρ n (mb ρ) (ma ρ) ρ[n]? := by
  unfold mSetIx setXK
  generalize ρ[n]? = q
  cases q with
  | none => rfl
  | some s => cases s <;> rfl
@[simp] theorem ev_setXK {n : Nat} : setXK ρ n r2 r (some (.ol xs)) = r.go ρ fun d => r2.go ρ (setIK ρ n xs d) := Eq.trans rfl rfl
@[simp] theorem ev_setIK {n : Nat} : setIK ρ n xs d (.int i) = setJK ρ n xs d (ixN xs.length i) := Eq.trans rfl rfl
@[simp] theorem ev_setJK {n j : Nat} : setJK ρ n xs d (some j) = .nx (ρ.set n (.ol (xs.set j d))) := Eq.trans rfl rfl
/-! a quotient of any signs -/
def fl (p q : Int) : Int := if q < 0 then -p / -q else p / q
theorem fdiv_fl {p q : Int} (h : q ≠ 0) (h2 : q.natAbs < 2 ^ 200) : fdivD (.int p) (.int q) = some (.int (fl p q)) := by
  have g : divB p q = true := divB_lit (Nat.lt_of_lt_of_le h2 (Nat.pow_le_pow_right (by decide) (by decide)))
  unfold fl
  by_cases e : q < 0
  · rw [if_pos e]
    show (if 0 < q then _ else if q < 0 then (if divB p q then some (PyData.int (p.fdiv q)) else none) else none) = _
    rw [if_neg (by omega), if_pos e, if_pos g]
    have z : p.fdiv q = -p / -q := by
      have := Int.neg_fdiv_neg p q
      rw [← this, Int.fdiv_eq_ediv_of_nonneg _ (by omega)]
    rw [z]
  · rw [if_neg e]
    exact ev_divI (by omega) g
theorem min_perm {xs ys : List Int} {a b : Int} (h1 : minI xs = some a) (h2 : minI ys = some b) (e : ∀ z, z ∈ xs ↔ z ∈ ys) : a = b := by
  obtain ⟨a1, a2⟩ := minI_ok h1
  obtain ⟨b1, b2⟩ := minI_ok h2
  exact Int.le_antisymm (a2 b ((e b).mpr b1)) (b2 a ((e a).mp a1))
theorem max_perm {xs ys : List Int} {a b : Int} (h1 : maxI xs = some a) (h2 : maxI ys = some b) (e : ∀ z, z ∈ xs ↔ z ∈ ys) : a = b := by
  obtain ⟨a1, a2⟩ := maxI_ok h1
  obtain ⟨b1, b2⟩ := maxI_ok h2
  exact Int.le_antisymm (b2 a ((e a).mp a1)) (a2 b ((e b).mpr b1))
end
end FL
/-! loops, tuples -/
namespace FL
open PySem PySem.Spec PyProof.Rows L2
variable [TabNames]
section
variable {d x y : D} {ds es xs ys : List D} {r r2 : R} {o : Out} {ρ ρ1 ρ2 ρ' : Ev} {i j : Int} {n : Nat} {b c : Bool} {ma mb mc mi : Ev → R} {m m1 m2 : Ev → Out} {bt : Ev → D → Option Ev}
theorem o_for (h : mi ρ = .ok (.list ds)) (h2 : forD bt m1 ds ρ = .nx ρ') (k : m ρ' = o) : mSeq (mFor mi bt m1) m ρ = o := by
  show ((mi ρ).go ρ _).then m = o
  rw [h]
  show (forD bt m1 ds ρ).then m = o
  rw [h2]
  exact k
theorem f_nil : forD bt m1 [] ρ = .nx ρ := rfl
theorem f_cons (h1 : bt ρ d = some ρ1) (h2 : m1 ρ1 = .nx ρ2) (k : forD bt m1 ds ρ2 = o) : forD bt m1 (d :: ds) ρ = o := by
  unfold forD
  rw [h1]
  show (match m1 ρ1 with
    | .nx ρ' => forD bt m1 ds ρ'
    | .ct ρ' => forD bt m1 ds ρ'
    | .bk ρ' => .nx ρ'
    | o => o) = o
  rw [h2]
  exact k
theorem f_consx {z : Str} (h1 : bt ρ d = some ρ1) (h2 : m1 ρ1 = .ex z ρ2) : forD bt m1 (d :: ds) ρ = .ex z ρ2 := by
  unfold forD
  rw [h1]
  show (match m1 ρ1 with
    | .nx ρ' => forD bt m1 ds ρ'
    | .ct ρ' => forD bt m1 ds ρ'
    | .bk ρ' => .nx ρ'
    | o => o) = _
  rw [h2]
theorem f_exE {N : Nat} {z : Str} (hl : ds.length = n) (h : ∃ ρ, m (startE N ds) = .ex z ρ) : bodyF N n m ds = .ex z := by
  obtain ⟨ρ, h⟩ := h
  exact f_ex hl h
/-- a loop with an invariant over places -/
theorem for_inv {P : Nat → Ev → Prop} (h0 : P 0 ρ) (hs : ∀ k ρ (hk : k < ds.length), P k ρ → ∃ ρ1 ρ2, bt ρ ds[k] = some ρ1 ∧ (m1 ρ1 = .nx ρ2 ∨ m1 ρ1 = .ct ρ2) ∧ P (k + 1) ρ2) : ∃ ρ', forD bt m1 ds ρ = .nx ρ' ∧ P ds.length ρ' := by
  have main : ∀ (l : List D) (k : Nat) (ρ : Ev), k + l.length = ds.length → (∀ j (hj : j < l.length), l[j]? = ds[k + j]?) → P k ρ → ∃ ρ', forD bt m1 l ρ = .nx ρ' ∧ P ds.length ρ' := by
    intro l
    induction l with
    | nil =>
      intro k ρ e _ p
      have e2 : k = ds.length := by simpa using e
      subst e2
      exact ⟨ρ, rfl, p⟩
    | cons x l ih =>
      intro k ρ e q p
      have hk : k < ds.length := by simp at e; omega
      have e0 := q 0 (by simp)
      simp at e0
      have ex : x = ds[k] := by
        rw [List.getElem?_eq_getElem hk] at e0
        exact Option.some.inj e0
      obtain ⟨ρ1, ρ2, h1, h2, h3⟩ := hs k ρ hk p
      obtain ⟨ρ', h4, h5⟩ := ih (k + 1) ρ2 (by simp at e; omega) (fun j hj => by
        have := q (j + 1) (by simp; omega)
        simp at this
        rw [this]
        congr 1
        omega) h3
      refine ⟨ρ', ?_, h5⟩
      unfold forD
      rw [ex, h1]
      show (match m1 ρ1 with
        | .nx ρ' => forD bt m1 l ρ'
        | .ct ρ' => forD bt m1 l ρ'
        | .bk ρ' => .nx ρ'
        | o => o) = _
      rcases h2 with h2 | h2 <;> rw [h2] <;> exact h4
  exact main ds 0 ρ (by simp) (fun j _ => by simp) h0
/-- a loop that an exception ends at place i -/
theorem for_ex {P : Nat → Ev → Prop} {z : Str} (h0 : P 0 ρ) (i : Nat) (hi : i < ds.length) (hs : ∀ k ρ (hk : k < ds.length), k < i → P k ρ → ∃ ρ1 ρ2, bt ρ ds[k] = some ρ1 ∧ (m1 ρ1 = .nx ρ2 ∨ m1 ρ1 = .ct ρ2) ∧ P (k + 1) ρ2) (hx : ∀ ρ, P i ρ → ∃ ρ1 ρ2, bt ρ ds[i] = some ρ1 ∧ m1 ρ1 = .ex z ρ2) : ∃ ρ', forD bt m1 ds ρ = .ex z ρ' := by
  have main : ∀ (l : List D) (k : Nat) (ρ : Ev), k ≤ i → k + l.length = ds.length → (∀ j (hj : j < l.length), l[j]? = ds[k + j]?) → P k ρ → ∃ ρ', forD bt m1 l ρ = .ex z ρ' := by
    intro l
    induction l with
    | nil =>
      intro k ρ a e _ p
      simp at e
      omega
    | cons x l ih =>
      intro k ρ a e q p
      have hk : k < ds.length := by simp at e; omega
      have e0 := q 0 (by simp)
      simp at e0
      have ex : x = ds[k] := by
        rw [List.getElem?_eq_getElem hk] at e0
        exact Option.some.inj e0
      by_cases ki : k = i
      · subst ki
        obtain ⟨ρ1, ρ2, h1, h2⟩ := hx ρ p
        refine ⟨ρ2, ?_⟩
        unfold forD
        rw [ex, h1]
        show (match m1 ρ1 with
          | .nx ρ' => forD bt m1 l ρ'
          | .ct ρ' => forD bt m1 l ρ'
          | .bk ρ' => .nx ρ'
          | o => o) = _
        rw [h2]
      · obtain ⟨ρ1, ρ2, h1, h2, h3⟩ := hs k ρ hk (by omega) p
        obtain ⟨ρ', h4⟩ := ih (k + 1) ρ2 (by omega) (by simp at e; omega) (fun j hj => by
          have := q (j + 1) (by simp; omega)
          simp at this
          rw [this]
          congr 1
          omega) h3
        refine ⟨ρ', ?_⟩
        unfold forD
        rw [ex, h1]
        show (match m1 ρ1 with
          | .nx ρ' => forD bt m1 l ρ'
          | .ct ρ' => forD bt m1 l ρ'
          | .bk ρ' => .nx ρ'
          | o => o) = _
        rcases h2 with h2 | h2 <;> rw [h2] <;> exact h4
  exact main ds 0 ρ (Nat.zero_le _) (by simp) (fun j _ => by simp) h0
theorem o_forx {z : Str} (h : mi ρ = .ok (.list ds)) (h2 : forD bt m1 ds ρ = .ex z ρ') : mSeq (mFor mi bt m1) m ρ = .ex z ρ' := by
  show ((mi ρ).go ρ _).then m = _
  rw [h]
  show (forD bt m1 ds ρ).then m = _
  rw [h2]
  rfl
/-- a loop of while, with an invariant and a measure -/
theorem while_ok (P : Nat → Ev → Prop) (hs : ∀ k ρ, P k ρ → mc ρ = .ok (.bool false) ∨ (mc ρ = .ok (.bool true) ∧ ∃ j ρ2, (m1 ρ = .nx ρ2 ∨ m1 ρ = .ct ρ2) ∧ j < k ∧ P j ρ2)) :
    ∀ (n k : Nat) (ρ : Ev), P k ρ → k < n → ∃ j ρ', whileD mc m1 n ρ = .nx ρ' ∧ P j ρ' ∧ mc ρ' = .ok (.bool false)
  | 0, k, ρ, _, h => absurd h (Nat.not_lt_zero _)
  | n + 1, k, ρ, p, h => by
    unfold whileD
    rcases hs k ρ p with e | ⟨e, j, ρ2, h1, h2, h3⟩
    · rw [e]
      exact ⟨k, ρ, rfl, p, e⟩
    · obtain ⟨j', ρ', g1, g2, g3⟩ := while_ok P hs n j ρ2 h3 (by omega)
      rw [e]
      show ∃ j ρ', (match m1 ρ with
        | .nx ρ' => whileD mc m1 n ρ'
        | .ct ρ' => whileD mc m1 n ρ'
        | .bk ρ' => .nx ρ'
        | o => o) = .nx ρ' ∧ P j ρ' ∧ mc ρ' = .ok (.bool false)
      rcases h1 with h1 | h1 <;> rw [h1] <;> exact ⟨j', ρ', g1, g2, g3⟩
/-! tuples of ints -/
theorem low_ints : ∀ {ns : List Int} {k : Nat}, ∀ x ∈ ns.map PyData.int, lowD k x := by
  intro ns k x hx
  obtain ⟨i, _, rfl⟩ := List.mem_map.mp hx
  cases k <;> trivial
theorem low_tn {ns : List Int} {k : Nat} (h : ns.length < 1000000) : lowD (k + 1) (.tuple (ns.map .int)) := ⟨by simpa using h, low_ints⟩
theorem low_ln {ns : List Int} {k : Nat} (h : ns.length < 1000000) : lowD (k + 1) (.list (ns.map .int)) := ⟨by simpa using h, low_ints⟩
theorem eqv_ints : ∀ {ns ms : List Int}, PyData.eqvAll (ns.map .int) (ms.map .int) = decide (ns = ms)
  | [], [] => by rw [List.map_nil, PyData.eqvAll]; rfl
  | [], _ :: _ => by rw [List.map_nil, List.map_cons, PyData.eqvAll]; rfl
  | _ :: _, [] => by rw [List.map_nil, List.map_cons, PyData.eqvAll]; rfl
  | i :: ns, j :: ms => by
    rw [List.map_cons, List.map_cons, PyData.eqvAll, eqv_ints, PyData.eqv]
    by_cases e1 : i = j <;> by_cases e2 : ns = ms <;> simp [e1, e2]
theorem ev_eqT {ns ms : List Int} (h1 : ns.length < 1000000) (h2 : ms.length < 1000000) : eqD (.tuple (ns.map .int)) (.tuple (ms.map .int)) = some (.bool (decide (ns = ms))) := by
  rw [eqD_ok (shp_low (k := 1) (low_tn h1)) (shp_low (k := 1) (low_tn h2)), PyData.eqv, eqv_ints]
theorem ev_neT {ns ms : List Int} (h1 : ns.length < 1000000) (h2 : ms.length < 1000000) : neD (.tuple (ns.map .int)) (.tuple (ms.map .int)) = some (.bool (!decide (ns = ms))) := by
  rw [neD_ok (shp_low (k := 1) (low_tn h1)) (shp_low (k := 1) (low_tn h2)), PyData.eqv, eqv_ints]
variable {a0 a1 a2 b0 b1 b2 : Int}
@[simp] theorem ev_eqT2 : eqD (.tuple [.int a0, .int a1]) (.tuple [.int b0, .int b1]) = some (.bool (decide (a0 = b0 ∧ a1 = b1))) := by
  have z := ev_eqT (ns := [a0, a1]) (ms := [b0, b1]) (by simp) (by simp)
  simpa using z
@[simp] theorem ev_neT2 : neD (.tuple [.int a0, .int a1]) (.tuple [.int b0, .int b1]) = some (.bool (!decide (a0 = b0 ∧ a1 = b1))) := by
  have z := ev_neT (ns := [a0, a1]) (ms := [b0, b1]) (by simp) (by simp)
  simpa using z
@[simp] theorem ev_eqT3 : eqD (.tuple [.int a0, .int a1, .int a2]) (.tuple [.int b0, .int b1, .int b2]) = some (.bool (decide (a0 = b0 ∧ a1 = b1 ∧ a2 = b2))) := by
  have z := ev_eqT (ns := [a0, a1, a2]) (ms := [b0, b1, b2]) (by simp) (by simp)
  simpa using z
@[simp] theorem ev_neT3 : neD (.tuple [.int a0, .int a1, .int a2]) (.tuple [.int b0, .int b1, .int b2]) = some (.bool (!decide (a0 = b0 ∧ a1 = b1 ∧ a2 = b2))) := by
  have z := ev_neT (ns := [a0, a1, a2]) (ms := [b0, b1, b2]) (by simp) (by simp)
  simpa using z
/-! places in an own list -/
theorem ixN_ok {n : Nat} {i : Int} (h0 : 0 ≤ i) (h1 : i < n) : ixN n i = some i.toNat := by
  unfold ixN
  rw [if_pos h0, if_pos h1]
/-! powers of two -/
theorem div_pow {c : Int} {j k : Nat} : c / 2 ^ j / 2 ^ k = c / 2 ^ (j + k) := by
  rw [Int.ediv_ediv_of_nonneg (Int.le_of_lt (pow_pos2 j)), ← Int.pow_add]
theorem div_pow_s {c : Int} {j : Nat} : c / 2 ^ j / 2 = c / 2 ^ (j + 1) := by
  have := div_pow (c := c) (j := j) (k := 1)
  simpa using this
theorem div_pow_z {c : Int} {j : Nat} (h0 : 0 ≤ c) (h1 : c < 2 ^ j) : c / 2 ^ j = 0 := Int.ediv_eq_zero_of_lt h0 h1
end
end FL
/-! texts by their signs -/
namespace FL
open PySem PySem.Spec PyProof.Rows L2
variable [TabNames]
/-- the text of these code points -/
abbrev T (l : List Nat) : D := .str (SX.S l)
section
variable {a b : List Nat} {i j : Int} {k n : Nat}
theorem strD_T (h : (k : Nat) < 10 ^ 570) : strD [.int (k : Int)] = some (T (TL.numL k)) := by
  have e : strB (k : Int) = true := by
    refine strB_ok ?_
    have z : (10 : Nat) ^ 570 ≤ 2 ^ 1920 := by decide +kernel
    rw [Int.natAbs_natCast]
    exact Nat.lt_of_lt_of_le h z
  rw [ev_strD e, SX.num_S]
theorem strD_s (h : (k : Nat) < 10 ^ 60) : strD [.int (k : Int)] = some (T (TL.numL k)) := strD_T (Nat.lt_trans h (Nat.pow_lt_pow_right (by decide) (by decide)))
@[simp] theorem ev_addS (q : a.length + b.length ≤ 16777216) : addD (T a) (T b) = some (T (a ++ b)) := by
  show (if (SX.S a).length + (SX.S b).length ≤ sizeLine then some (PyData.str (SX.S a ++ SX.S b)) else none) = _
  rw [SX.S_len, SX.S_len, if_pos (by rw [ev_size]; exact q), SX.S_cat]
@[simp] theorem ev_lenS (q : a.length ≤ 16777216) : lenD (T a) = .ok (.int a.length) := by
  show (if (SX.S a).length ≤ sizeLine then R.ok (PyData.int (SX.S a).length) else .no) = _
  rw [SX.S_len, if_pos (by rw [ev_size]; exact q)]
theorem ev_slS_from (q : a.length ≤ 16777216) (h : 0 ≤ i) : slD (T a) (some i) none = .ok (T (a.drop i.toNat)) := by
  show (if (SX.S a).length ≤ sizeLine then R.ok (PyData.str (Txt.slice (SX.S a) (some i) none)) else .no) = _
  rw [SX.S_len, if_pos (by rw [ev_size]; exact q), SX.slice_from h]
theorem ev_slS_to (q : a.length ≤ 16777216) (h : 0 ≤ i) : slD (T a) none (some i) = .ok (T (a.take i.toNat)) := by
  show (if (SX.S a).length ≤ sizeLine then R.ok (PyData.str (Txt.slice (SX.S a) none (some i))) else .no) = _
  rw [SX.S_len, if_pos (by rw [ev_size]; exact q), SX.slice_to h]
theorem shp_T (h : ∀ c ∈ a, c < 1114112) : shp (T a) = true := by
  show (PyData.canLay0 (T a) && decide ((T a).depth ≤ 64)) = true
  rw [Bool.and_eq_true]
  refine ⟨?_, rfl⟩
  show (SX.S a).cps.all (fun c => decide (c < 0x110000)) = true
  rw [← Array.all_toList]
  exact List.all_eq_true.mpr fun c hc => decide_eq_true (h c hc)
theorem ev_mulT (c : Nat) (n : Nat) (h : n ≤ 1000000) : mulD (T [c]) (.int (n : Int)) = some (T (List.replicate n c)) := by
  have e : repB (SX.S [c]) (n : Int) = true := decide_eq_true ⟨rfl, by omega, by omega⟩
  show (if repB (SX.S [c]) (n : Int) then some (PyData.str (Txt.mul (SX.S [c]) (n : Int))) else none) = _
  rw [if_pos e]
  refine congrArg (fun z => some (PyData.str z)) ?_
  unfold Txt.mul
  by_cases h1 : (n : Int) < 1
  · have h0 : n = 0 := by omega
    subst h0
    rw [if_pos (by decide)]
    rfl
  · rw [if_neg h1]
    by_cases h2 : n = 1
    · subst h2
      rfl
    · have e2 : ((n : Int) == 1 || (SX.S [c]).length == 0) = false := by
        have : (SX.S [c]).length = 1 := rfl
        rw [this]
        have q : ((n : Int) == 1) = false := by
          rw [beq_eq_false_iff_ne]
          omega
        rw [q]
        rfl
      rw [if_neg (by rw [e2]; decide)]
      have e3 : (n : Int).toNat = n := by omega
      rw [e3]
      have main : ∀ (m : Nat) (acc : Array Nat), (List.replicate m (SX.S [c]).cps).foldl (· ++ ·) acc = acc ++ (List.replicate m c).toArray := by
        intro m
        induction m with
        | zero => intro acc; simp
        | succ m ih =>
          intro acc
          rw [List.replicate_succ, List.foldl_cons, ih, List.replicate_succ]
          apply Array.ext'
          simp
      show (⟨_⟩ : Str) = ⟨_⟩
      rw [main]
      simp
/-- n zeroes at most: a negative number makes none -/
theorem ev_mulTn (c : Nat) (i : Int) (h : i ≤ 1000000) (h2 : -1000000 ≤ i) : mulD (T [c]) (.int i) = some (T (List.replicate i.toNat c)) := by
  by_cases e : 0 ≤ i
  · have q := ev_mulT c i.toNat (by omega)
    rw [show ((i.toNat : Nat) : Int) = i by omega] at q
    exact q
  · have e2 : repB (SX.S [c]) i = true := decide_eq_true ⟨rfl, by omega, by omega⟩
    show (if repB (SX.S [c]) i then some (PyData.str (Txt.mul (SX.S [c]) i)) else none) = _
    rw [if_pos e2]
    refine congrArg (fun z => some (PyData.str z)) ?_
    unfold Txt.mul
    rw [if_pos (by omega), show i.toNat = 0 by omega]
    rfl
theorem fmt_T (q : a.length ≤ 16777216) : fmtD (T a) = .ok (T a) := ev_fmtS (decide_eq_true (by rw [SX.S_len, ev_size]; exact q))
theorem fmt_N (h : (k : Nat) < 10 ^ 60) : fmtD (.int (k : Int)) = .ok (T (TL.numL k)) := by
  have e : strB (k : Int) = true := by
    refine strB_ok ?_
    have z : (10 : Nat) ^ 60 ≤ 2 ^ 1920 := by decide +kernel
    rw [Int.natAbs_natCast]
    exact Nat.lt_of_lt_of_le h z
  rw [ev_fmtI e, SX.num_S]
theorem jK_T {f : Str → R} (q : a.length + b.length ≤ 16777216) : jK f (SX.S a) (T b) = f (SX.S (a ++ b)) := by
  rw [ev_jK (decide_eq_true (by rw [SX.S_cat, SX.S_len, List.length_append, ev_size]; exact q)), SX.S_cat]
theorem empty_S : Str.empty = SX.S [] := rfl
/-! digits to k places -/
def padL : Nat → Nat → List Nat
  | 0, _ => []
  | k + 1, n => padL k (n / 10) ++ [48 + n % 10]
theorem padL_len : ∀ (k n : Nat), (padL k n).length = k
  | 0, _ => rfl
  | k + 1, n => by rw [padL, List.length_append, padL_len]; rfl
theorem padL_one : ∀ (k n : Nat), n < 10 ^ k → TL.numL (10 ^ k + n) = 49 :: padL k n
  | 0, n, h => by
    have e : n = 0 := by simpa using h
    subst e
    exact TL.numL_lt (n := 1) (by decide)
  | k + 1, n, h => by
    have p : 10 ^ (k + 1) = 10 * 10 ^ k := by rw [Nat.pow_succ, Nat.mul_comm]
    have q : 0 < 10 ^ k := Nat.pow_pos (by decide)
    rw [TL.numL_step (by omega), padL, ← List.cons_append, ← padL_one k (n / 10) (by omega)]
    rw [show (10 ^ (k + 1) + n) / 10 = 10 ^ k + n / 10 by omega, show (10 ^ (k + 1) + n) % 10 = n % 10 by omega]
theorem padL_zero : ∀ k : Nat, padL k 0 = List.replicate k 48
  | 0 => rfl
  | k + 1 => by
    rw [padL, Nat.zero_div, padL_zero k, List.replicate_succ']
theorem padL_rep : ∀ (k n : Nat), 0 < k → n < 10 ^ k → List.replicate (k - (TL.numL n).length) 48 ++ TL.numL n = padL k n
  | 0, _, h, _ => absurd h (Nat.lt_irrefl 0)
  | k + 1, n, _, h => by
    have p : 10 ^ (k + 1) = 10 * 10 ^ k := by rw [Nat.pow_succ, Nat.mul_comm]
    by_cases e : n < 10
    · rw [TL.numL_lt e, padL, Nat.div_eq_of_lt e, Nat.mod_eq_of_lt e, padL_zero]
      rfl
    · have hk : 0 < k := by
        by_cases z : k = 0
        · subst z
          rw [Nat.zero_add, Nat.pow_one] at h
          omega
        · omega
      rw [TL.numL_step (by omega), padL, ← padL_rep k (n / 10) hk (by omega), List.length_append, List.length_singleton, Nat.add_sub_add_right, List.append_assoc]
theorem padL_digits : ∀ (k n : Nat), ∀ c ∈ padL k n, 48 ≤ c ∧ c ≤ 57
  | 0, _, c, h => nomatch h
  | k + 1, n, c, h => by
    rw [padL, List.mem_append] at h
    rcases h with h | h
    · exact padL_digits k _ c h
    · rw [List.mem_singleton.mp h]
      omega
theorem numL_digits' (n : Nat) : ∀ c ∈ TL.numL n, 48 ≤ c ∧ c ≤ 57 := fun c hc => TL.numL_digits n c hc
/-! texts put together -/
inductive Parts (ρ : Ev) : List (Ev → R) → List (List Nat) → Prop where
  | nil : Parts ρ [] []
  | cons {m : Ev → R} {l : List Nat} {ms : List (Ev → R)} {ls : List (List Nat)} (h : m ρ = .ok (T l)) (r : Parts ρ ms ls) : Parts ρ (m :: ms) (l :: ls)
theorem jD_all {ρ : Ev} {ms : List (Ev → R)} {ls : List (List Nat)} (p : Parts ρ ms ls) : ∀ acc : List Nat, (acc ++ ls.flatten).length ≤ 16777216 → jD ms ρ (SX.S acc) = .ok (T (acc ++ ls.flatten)) := by
  induction p with
  | nil =>
    intro acc _
    rw [List.flatten_nil, List.append_nil]
    exact ev_jD0
  | @cons m l ms ls h r ih =>
    intro acc q
    rw [List.flatten_cons, ← List.append_assoc] at q ⊢
    rw [ev_jD1, h, ev_bok, jK_T (by rw [List.length_append, List.length_append] at q; omega)]
    exact ih (acc ++ l) q
theorem mJ_all {ρ : Ev} {ms : List (Ev → R)} {ls : List (List Nat)} (p : Parts ρ ms ls) (q : ls.flatten.length ≤ 16777216) : mJ ms ρ = .ok (T ls.flatten) := jD_all p [] q
theorem add_T {ρ : Ev} {ma mb : Ev → R} (h1 : ma ρ = .ok (T a)) (h2 : mb ρ = .ok (T b)) (q : a.length + b.length ≤ 16777216) : mAdd ma mb ρ = .ok (T (a ++ b)) := by
  show (ma ρ).bind _ = _
  rw [h1, ev_bok, h2, ev_bok, ev_addS q]
  rfl
theorem slf_T {ρ : Ev} {ma : Ev → R} {i : Int} (h1 : ma ρ = .ok (T a)) (q : a.length ≤ 16777216) (h : 0 ≤ i) : mSl ma (mInt (mC (.int i))) (mC .none) ρ = .ok (T (a.drop i.toNat)) := by
  show (ma ρ).bind _ = _
  rw [h1, ev_bok]
  exact ev_slS_from q h
theorem fmt_p {ρ : Ev} {ma : Ev → R} (h1 : ma ρ = .ok (T a)) (q : a.length ≤ 16777216) : mFmt ma ρ = .ok (T a) := by
  show (ma ρ).bind _ = _
  rw [h1, ev_bok, fmt_T q]
theorem fmt_i {ρ : Ev} {ma : Ev → R} (h1 : ma ρ = .ok (.int (k : Int))) (h : (k : Nat) < 10 ^ 60) : mFmt ma ρ = .ok (T (TL.numL k)) := by
  show (ma ρ).bind _ = _
  rw [h1, ev_bok, fmt_N h]
theorem str_i {ρ : Ev} {ma : Ev → R} (h1 : ma ρ = .ok (.int (k : Int))) (h : (k : Nat) < 10 ^ 60) : mFun strD (mCons ma mNil) ρ = .ok (T (TL.numL k)) := by
  show ((ma ρ).bind _).bind _ = _
  rw [h1, ev_bok, ev_nil, ev_bok, ev_consD, ev_bok]
  show R.of (strD [.int (k : Int)]) = _
  rw [strD_s h]
  rfl
/-- str(10^k + x)[1:] -/
theorem str_pad {ρ : Ev} {ma : Ev → R} {x : Nat} (h1 : ma ρ = .ok (.int ((10 ^ k + x : Nat) : Int))) (h : x < 10 ^ k) (hk : k < 50) : mSl (mFun strD (mCons ma mNil)) (mInt (mC (.int 1))) (mC .none) ρ = .ok (T (padL k x)) := by
  have p : 10 ^ k ≤ 10 ^ 50 := Nat.pow_le_pow_right (by decide) (by omega)
  have e := str_i h1 (by
    have : (10 : Nat) ^ 50 + 10 ^ 50 < 10 ^ 60 := by decide
    omega)
  rw [padL_one k x h] at e
  exact slf_T e (by rw [List.length_cons, padL_len]; omega) (by decide)
theorem low_T (h : ∀ c ∈ a, c < 1114112) : lowD 5 (T a) := shp_T h
end
end FL
/-! slices from behind, numbers to k places -/
namespace FL
open PySem PySem.Spec PyProof.Rows L2
variable [TabNames]
section
variable {a b p q : List Nat} {i j : Int} {k n : Nat}
theorem set_of {ρ : Ev} {e : Ev → R} {d : D} {n : Nat} (h : e ρ = .ok d) : mSet n e ρ = .nx (ρ.set n (.d d)) := by
  show (e ρ).go ρ _ = _
  rw [h]
  rfl
@[simp] theorem bitAnd_1 : Builtin.bitAnd i 1 = i % 2 := PyProof.Rows.bitAnd_m1 i
theorem chars_T : charsD (SX.S a) = a.map fun c => T [c] := rfl
theorem iter_T : iterD (T a) = .ok (.list (a.map fun c => T [c])) := rfl
theorem ix_T (q : a.length ≤ 16777216) (h0 : 0 ≤ i) (h1 : i < a.length) : ∃ c ∈ a, a[i.toNat]? = some c ∧ ixD (T a) (.int i) = .ok (T [c]) := by
  have h2 : i.toNat < a.length := by omega
  refine ⟨a[i.toNat], List.getElem_mem h2, List.getElem?_eq_getElem h2, ?_⟩
  show (if (SX.S a).length ≤ sizeLine then R.of ((atI (SX.S a).cps.toList i).map fun c => PyData.str ⟨#[c]⟩) else .no) = _
  rw [SX.S_len, if_pos (by rw [ev_size]; exact q)]
  show R.of ((atI a i).map fun c => PyData.str ⟨#[c]⟩) = _
  have e : atI a i = a[i.toNat]? := by
    unfold atI ixN
    rw [if_pos h0, if_pos h1]
    rfl
  rw [e, List.getElem?_eq_getElem h2]
  rfl
theorem slice_to_n (h : i = -(q.length : Int)) (hq : q ≠ []) : Txt.slice (SX.S (p ++ q)) none (some i) = SX.S p := by
  have hp : 0 < q.length := List.length_pos_iff.mpr hq
  have hl : ((SX.S (p ++ q)).length : Int) = (p.length : Int) + q.length := by rw [SX.S_len, List.length_append]; omega
  have e := beq_iff_eq.mp (PyProof.Rows.slice_closes_to_neg (x := SX.S (p ++ q)) (j := i) (k := (p.length : Int)) (by omega) (by omega) (by omega))
  refine e.trans (TL.ext_tl ?_)
  show ((p ++ q).drop (0 : Int).toNat).take ((p.length : Int) - 0).toNat = p
  rw [show (0 : Int).toNat = 0 from rfl, List.drop_zero, show ((p.length : Int) - 0).toNat = p.length by omega]
  exact List.take_left
theorem slice_from_n (h : i = -(q.length : Int)) (hq : q ≠ []) : Txt.slice (SX.S (p ++ q)) (some i) none = SX.S q := by
  have hp : 0 < q.length := List.length_pos_iff.mpr hq
  have hl : ((SX.S (p ++ q)).length : Int) = (p.length : Int) + q.length := by rw [SX.S_len, List.length_append]; omega
  have e := beq_iff_eq.mp (PyProof.Rows.slice_closes_from_neg (x := SX.S (p ++ q)) (i := i) (a := (p.length : Int)) (b := (p.length : Int) + q.length) (by omega) (by omega) (by omega) (by omega))
  refine e.trans (TL.ext_tl ?_)
  show ((p ++ q).drop (p.length : Int).toNat).take ((p.length : Int) + q.length - (p.length : Int)).toNat = q
  rw [Int.toNat_natCast, List.drop_left]
  exact List.take_of_length_le (by omega)
theorem ev_slS_to_n (z : (p ++ q).length ≤ 16777216) (h : i = -(q.length : Int)) (hq : q ≠ []) : slD (T (p ++ q)) none (some i) = .ok (T p) := by
  show (if (SX.S (p ++ q)).length ≤ sizeLine then R.ok (PyData.str (Txt.slice (SX.S (p ++ q)) none (some i))) else .no) = _
  rw [SX.S_len, if_pos (by rw [ev_size]; exact z), slice_to_n h hq]
theorem ev_slS_from_n (z : (p ++ q).length ≤ 16777216) (h : i = -(q.length : Int)) (hq : q ≠ []) : slD (T (p ++ q)) (some i) none = .ok (T q) := by
  show (if (SX.S (p ++ q)).length ≤ sizeLine then R.ok (PyData.str (Txt.slice (SX.S (p ++ q)) (some i) none)) else .no) = _
  rw [SX.S_len, if_pos (by rw [ev_size]; exact z), slice_from_n h hq]
theorem pow10_le (h : k ≤ n) : 10 ^ k ≤ 10 ^ n := Nat.pow_le_pow_right (by decide) h
theorem str_j {ρ : Ev} {ma : Ev → R} (h1 : ma ρ = .ok (.int (k : Int))) (h : (k : Nat) < 10 ^ 570) : mFun strD (mCons ma mNil) ρ = .ok (T (TL.numL k)) := by
  show ((ma ρ).bind _).bind _ = _
  rw [h1, ev_bok, ev_nil, ev_bok, ev_consD, ev_bok]
  show R.of (strD [.int (k : Int)]) = _
  rw [strD_T h]
  rfl
/-- m with a point k places from its end, where m has at least k + 1 signs -/
theorem split_pad : ∀ (k m : Nat), List.replicate (k + 1 - (TL.numL m).length) 48 ++ TL.numL m = TL.numL (m / 10 ^ k) ++ padL k m
  | 0, m => by
    have h := List.length_pos_iff.mpr (TL.numL_ne m)
    rw [show 0 + 1 - (TL.numL m).length = 0 by omega, Nat.pow_zero, Nat.div_one, padL, List.append_nil]
    rfl
  | k + 1, m => by
    by_cases e : m < 10
    · rw [TL.numL_lt e, padL, Nat.div_eq_of_lt e, padL_zero, Nat.div_eq_of_lt (Nat.lt_of_lt_of_le e (by
        have := pow10_le (k := 1) (n := k + 1) (by omega)
        rwa [Nat.pow_one] at this)), Nat.mod_eq_of_lt e, TL.numL_lt (n := 0) (by decide)]
      show List.replicate (k + 1) 48 ++ [48 + m] = [48] ++ (List.replicate k 48 ++ [48 + m])
      rw [List.replicate_succ]
      rfl
    · have ih := split_pad k (m / 10)
      rw [TL.numL_step (by omega), List.length_append, List.length_singleton, Nat.add_sub_add_right, ← List.append_assoc, ih, padL, Nat.div_div_eq_div_mul, List.append_assoc]
      rw [Nat.pow_succ, Nat.mul_comm]
theorem padL_head : ∀ (k n : Nat), padL (k + 1) n = (48 + n / 10 ^ k % 10) :: padL k n
  | 0, n => by rw [padL, padL, padL, Nat.pow_zero, Nat.div_one]; rfl
  | k + 1, n => by
    rw [padL, padL_head k (n / 10), padL, Nat.div_div_eq_div_mul, List.cons_append, Nat.pow_succ, Nat.mul_comm (10 ^ k) 10]
theorem padL_mod : ∀ (k n : Nat), padL k (n % 10 ^ k) = padL k n
  | 0, _ => rfl
  | k + 1, n => by
    have e : n % 10 ^ (k + 1) / 10 = n / 10 % 10 ^ k := by
      rw [Nat.pow_succ, Nat.mul_comm, Nat.mod_mul_right_div_self]
    have e2 : n % 10 ^ (k + 1) % 10 = n % 10 := by
      rw [Nat.pow_succ, Nat.mul_comm]
      exact Nat.mod_mul_right_mod n 10 (10 ^ k)
    rw [padL, padL, e, e2, padL_mod k (n / 10)]
theorem int_ten (k : Nat) (hk : k ≤ 600) : intSD [T (49 :: List.replicate k 48)] = some (.int ((10 ^ k : Nat) : Int)) := by
  have e : 49 :: List.replicate k 48 = TL.numL (10 ^ k + 0) := by rw [padL_one k 0 (Nat.pow_pos (by decide)), padL_zero]
  have l : (TL.numL (10 ^ k + 0)).length = k + 1 := by rw [← e, List.length_cons, List.length_replicate]
  have v := SX.int_S (a := TL.numL (10 ^ k + 0)) (by
    rw [List.all_eq_true]
    intro c hc
    have := numL_digits' _ c hc
    rw [Bool.and_eq_true]
    exact ⟨decide_eq_true this.1, decide_eq_true this.2⟩) (TL.numL_ne _) (by rw [l]; omega)
  rw [TL.numL_val] at v
  rw [e]
  have b : intSB (SX.S (TL.numL (10 ^ k + 0))) = true := decide_eq_true (by rw [SX.S_len, l]; omega)
  show (if intSB (SX.S (TL.numL (10 ^ k + 0))) then (PySem.intText? (SX.S (TL.numL (10 ^ k + 0)))).map PyData.int else none) = _
  rw [if_pos b, v]
  rfl
end
end FL
/-! texts: index, order -/
namespace FL
open PySem PySem.Spec PyProof.Rows L2
variable [TabNames]
section
variable {X : Cx} {K : PySem.W.Frag} {mg : Str → Option Value} {G : Gx} {pos : Pos} {a b c e o tg : Expr} {es : List Expr} {ma mb mc ms mo mk : Ev → R} {m m1 m2 : Ev → Out} {ρ : Ev}
theorem mt_index0 (hc : X.calm = true) : MtR X "str.index" (fun x xs H Q => ∃ (a b : Str) (k : Nat), x = .str a ∧ xs = [.str b] ∧ Txt.index0 a b = some k ∧ Q (.int (k : Nat)) H) := by
  intro pins s σ H x xs v us Q I rx rs h
  obtain ⟨a, b, k, rfl, rfl, h1, q⟩ := h
  exact mt_indexX (W := fun _ _ _ _ => False) hc takes0 pins s σ H _ _ v us Q I rx rs ⟨a, b, rfl, rfl, fun j hj => by
    rw [h1] at hj
    cases hj
    exact q, fun hn => by rw [h1] at hn; cases hn⟩
def indexD (z : Str) : D → Option D
  | .str b => (Txt.index0 z b).map fun k => .int (k : Nat)
  | _ => none
theorem x_index {apos : Pos} (ho : XE X G o mo) (ha : XE X G a ma) (hc : X.calm = true := by rfl) (hs : starEach [a] X.env = [(false, eval a X.env)] := by rfl) (hbase : attributeBase o "index" X.env (eval o X.env) = eval o X.env := by rfl) (hline : (apos.endLine == pos.line) = true := by rfl) :
    XE X G (.Call (.Attribute o "index" apos) [a] [] pos) (mM1 indexD mo ma) := x_m1 F.slot_str_index F.type_str_index (mt_index0 hc) (fun S H z y d v Q hS hv e q => by
    cases hv with
    | str b =>
      have e : (Txt.index0 z b).map (fun k => PyData.int (k : Nat)) = some d := e
      rw [Option.map_eq_some_iff] at e
      obtain ⟨k, h1, rfl⟩ := e
      exact ⟨z, b, k, rfl, rfl, h1, post_val q (.int _)⟩
    | _ => cases e) ho ha hs hbase hline
@[simp] theorem ev_index {z w : Str} {k : Nat} (h : Txt.index0 z w = some k) : indexD z (.str w) = some (.int (k : Nat)) := by
  show (Txt.index0 z w).map _ = _
  rw [h]
  rfl
/-! order of texts -/
def leS : D → D → Option D
  | .str i, .str j => some (.bool (!decide (j.cps.toList < i.cps.toList)))
  | _, _ => none
theorem cLeS : Cmp X .LtE leS := ⟨_, op_le_str, fun S H x y d v u Q hS hv hu e q => by
  cases hv with
  | str i =>
    cases hu with
    | str j => cases e; exact ⟨i, j, rfl, rfl, post_val q (.bl _)⟩
    | _ => cases e
  | _ => cases hu <;> cases e⟩
theorem leS_one {x y : Nat} : leS (T [x]) (T [y]) = some (.bool (decide (x ≤ y))) := by
  show some (PyData.bool (!decide ([y] < [x]))) = _
  have e : ([y] < [x]) ↔ y < x := by
    rw [List.cons_lt_cons_iff]
    simp
  rw [decide_eq_decide.mpr e]
  by_cases h : y < x
  · rw [decide_eq_true h, decide_eq_false (by omega)]
    rfl
  · rw [decide_eq_false h, decide_eq_true (by omega)]
    rfl
end
end FL
/-! texts: what stands at the ends, where a sign stands, parts -/
namespace FL
open PySem PySem.Spec PyProof.Rows L2
variable [TabNames]
section
variable {a b p q f l : List Nat} {i j : Int} {c k n : Nat}
theorem sub0 : Builtin.Str.subAt (SX.S a) (SX.S [c]) 0 = decide (a.head? = some c) := by
  rw [StrLaws.subAt_eq]
  show ((a.drop 0).take 1 == [c]) = _
  cases a with
  | nil => rfl
  | cons x r =>
    show ([x] == [c]) = _
    by_cases h : x = c
    · subst h
      simp
    · simp [h]
theorem sw_one : Txt.startswith (SX.S a) (SX.S [c]) = decide (a.head? = some c) := by
  unfold Txt.startswith
  rw [sub0]
  cases a with
  | nil => rfl
  | cons x r =>
    rw [show decide (0 + (SX.S [c]).length ≤ (SX.S (x :: r)).length) = true from decide_eq_true (by rw [SX.S_len, SX.S_len]; simp)]
    rfl
theorem rp_yes : Txt.removeprefix (SX.S (c :: l)) (SX.S [c]) = SX.S l := by
  rw [StrLaws.removeprefix_eq, sub0, if_pos (by rw [show decide (0 + (SX.S [c]).length ≤ (SX.S (c :: l)).length) = true from decide_eq_true (by rw [SX.S_len, SX.S_len]; simp)]; simp)]
  show (⟨((List.drop 1 (c :: l)).take ((SX.S (c :: l)).length - 1)).toArray⟩ : Str) = ⟨l.toArray⟩
  rw [SX.S_len, List.drop_succ_cons, List.drop_zero, List.take_of_length_le (by simp)]
theorem rp_no (h : a.head? ≠ some c) : Txt.removeprefix (SX.S a) (SX.S [c]) = SX.S a := by
  rw [StrLaws.removeprefix_eq, sub0, decide_eq_false h, Bool.and_false]
  rfl
theorem lineB_S (h : a.length ≤ 1000000) : lineB (SX.S a) = true := decide_eq_true (by rw [SX.S_len, ev_size]; omega)
theorem takeWhile_rep (h : f.head? ≠ some c) : ∀ k : Nat, (List.replicate k c ++ f).takeWhile (fun x => x == c) = List.replicate k c
  | 0 => by
    cases f with
    | nil => rfl
    | cons x r =>
      have hx : (x == c) = false := by
        rw [beq_eq_false_iff_ne]
        exact fun e => h (by rw [e]; rfl)
      show List.takeWhile _ (x :: r) = []
      rw [List.takeWhile_cons, hx]
      rfl
  | k + 1 => by
    rw [List.replicate_succ, List.cons_append, List.takeWhile_cons, beq_self_eq_true, takeWhile_rep h k]
    rfl
theorem rstrip_S (h : f.getLast? ≠ some c) : Txt.rstripChars (SX.S (f ++ List.replicate k c)) (SX.S [c]) = SX.S f := by
  have hc : (fun x => (SX.S [c]).cps.contains x) = fun x => x == c := by
    funext x
    show ([c].toArray).contains x = _
    by_cases h : x = c <;> simp [h]
  unfold Txt.rstripChars
  have e : Txt.stripBy (SX.S [c]).cps.contains false true (SX.S (f ++ List.replicate k c)) = stripped (SX.S [c]).cps.contains false true (SX.S (f ++ List.replicate k c)) := by
    unfold Txt.stripBy
    split
    · rename_i z
      simp only [stripSame, Bool.and_eq_true, beq_iff_eq] at z
      unfold stripped
      rw [z.2, z.1]
      exact (PyProof.Rows.strSub_whole _).symm
    · rfl
  rw [e]
  unfold stripped stripHi stripLo
  rw [if_neg Bool.false_ne_true, if_pos rfl]
  show Builtin.Str.strSub (SX.S (f ++ List.replicate k c)) 0 ((SX.S (f ++ List.replicate k c)).length - (((f ++ List.replicate k c).drop 0).reverse.takeWhile (fun x => (SX.S [c]).cps.contains x)).length) = _
  rw [hc, List.drop_zero, List.reverse_append, List.reverse_replicate, takeWhile_rep (by rw [List.head?_reverse]; exact h), SX.S_len, List.length_append, List.length_replicate, Nat.add_sub_cancel]
  refine TL.ext_tl ?_
  show ((SX.S (f ++ List.replicate k c)).cps.extract 0 f.length).toList = f
  simp
/-- what stands ahead of the zeroes at the end -/
def rs : List Nat → List Nat
  | [] => []
  | c :: r => if rs r = [] ∧ c = 48 then [] else c :: rs r
theorem rs_split : ∀ l : List Nat, ∃ k, l = rs l ++ List.replicate k 48 ∧ (rs l).getLast? ≠ some 48
  | [] => ⟨0, rfl, by decide⟩
  | c :: r => by
    obtain ⟨k, h1, h2⟩ := rs_split r
    unfold rs
    by_cases e : rs r = [] ∧ c = 48
    · rw [if_pos e]
      refine ⟨k + 1, ?_, by decide⟩
      rw [e.1, List.nil_append] at h1
      rw [e.2, h1, List.replicate_succ]
      rfl
    · rw [if_neg e]
      refine ⟨k, by rw [List.cons_append, ← h1], ?_⟩
      cases hr : rs r with
      | nil =>
        rw [hr] at e
        intro z
        rw [List.getLast?_singleton] at z
        exact e ⟨rfl, Option.some.inj z⟩
      | cons x t =>
        rw [hr] at h2
        rw [List.getLast?_cons_cons]
        exact h2
theorem rs_len (l : List Nat) : (rs l).length ≤ l.length := by
  obtain ⟨k, h, _⟩ := rs_split l
  have := congrArg List.length h
  rw [List.length_append, List.length_replicate] at this
  omega
theorem rs_mem (l : List Nat) : ∀ x ∈ rs l, x ∈ l := by
  intro x hx
  obtain ⟨k, h, _⟩ := rs_split l
  rw [h]
  exact List.mem_append_left _ hx
/-! where a sign stands first -/
theorem at_S {m : Nat} : StrLaws.At (SX.S a) (SX.S [c]) (SX.S a).length m ↔ a[m]? = some c := by
  unfold StrLaws.At
  rw [StrLaws.subAt_eq, SX.S_len]
  show m + 1 ≤ a.length ∧ ((a.drop m).take 1 == [c]) = true ↔ _
  constructor
  · rintro ⟨h1, h2⟩
    rw [List.getElem?_eq_getElem (by omega)]
    rw [List.drop_eq_getElem_cons (by omega)] at h2
    have h3 : ([a[m]] == [c]) = true := h2
    simp at h3
    rw [h3]
  · intro h
    obtain ⟨h1, h2⟩ := List.getElem?_eq_some_iff.mp h
    refine ⟨by omega, ?_⟩
    rw [List.drop_eq_getElem_cons (by omega), h2]
    show ([c] == [c]) = true
    simp
theorem index_S (h : c ∉ p) : Txt.index0 (SX.S (p ++ c :: q)) (SX.S [c]) = some p.length := by
  unfold Txt.index0
  have hat : (p ++ c :: q)[p.length]? = some c := by simp
  rcases StrLaws.occ_head (SX.S (p ++ c :: q)) (SX.S [c]) 1 (Nat.le_refl 1) with ⟨_, h2⟩ | ⟨i, r, h1, h2, h3⟩
  · exact absurd (at_S.mpr hat) (h2 _)
  · rw [h1]
    have a1 := at_S.mp h2
    have e : i = p.length := by
      rcases Nat.lt_trichotomy i p.length with lt | eq | gt
      · rw [List.getElem?_append_left lt] at a1
        exact absurd (List.mem_of_getElem? a1) h
      · exact eq
      · exact absurd (at_S.mpr hat) (h3 _ gt)
    rw [e]
    rfl
/-! parts between signs -/
theorem split_1 (hc : c < 256) (h : c ∉ p) : Txt.split (SX.S p) (SX.S [c]) = [SX.S p] := by
  have e := SX.spl_join (c := c) (sep := []) (parts := [p]) (by simp) (by simpa using h)
  rw [SX.split_S (by simp) (by simpa using hc)]
  have : TL.joinL [c] [p] = p := rfl
  rw [this] at e
  rw [e]
  rfl
theorem split_2 (hc : c < 256) (h : c ∉ p) (h2 : c ∉ q) : Txt.split (SX.S (p ++ c :: q)) (SX.S [c]) = [SX.S p, SX.S q] := by
  have e := SX.spl_join (c := c) (sep := []) (parts := [p, q]) (by simp) (by
    intro x hx
    simp at hx
    rcases hx with rfl | rfl
    · exact h
    · exact h2)
  rw [SX.split_S (by simp) (by simpa using hc)]
  have : TL.joinL [c] [p, q] = p ++ c :: q := rfl
  rw [this] at e
  rw [e]
  rfl
theorem splitB_S (h : a.length ≤ 1000000) : splitB (SX.S a) (SX.S [c]) = true := by
  unfold splitB
  rw [lineB_S h]
  rfl
/-! signs of one text in another -/
theorem mem_T (neg : Bool) : memD neg (T [c]) (T a) = some (.bool (neg != decide (c ∈ a))) := by
  show some (PyData.bool (neg != !(Builtin.Str.occurrences (SX.S a) (SX.S [c]) 0 (SX.S a).length 1).isEmpty)) = _
  rw [SX.in_one]
theorem eq_T1 {x y : Nat} (hx : x < 1114112) (hy : y < 1114112) : eqD (T [x]) (T [y]) = some (.bool (decide (x = y))) := by
  rw [eqD_ok (shp_T fun z hz => by rw [List.mem_singleton.mp hz]; exact hx) (shp_T fun z hz => by rw [List.mem_singleton.mp hz]; exact hy), PyData.eqv, SX.S_beq_eq]
  by_cases e : x = y
  · subst e; simp
  · simp [e]
/-! a number of digits -/
theorem val_app : ∀ (f : List Nat) (k acc : Nat), (f ++ List.replicate k 48).foldl (fun acc c => acc * 10 + (c - 48)) acc = f.foldl (fun acc c => acc * 10 + (c - 48)) acc * 10 ^ k
  | f, 0, acc => by simp
  | f, k + 1, acc => by
    rw [List.replicate_succ', ← List.append_assoc, List.foldl_append, val_app f k acc, List.foldl_cons, List.foldl_nil, Nat.pow_succ, Nat.sub_self, Nat.add_zero, Nat.mul_assoc]
theorem val_rep (f : List Nat) (k : Nat) : NumText.digitsVal (f ++ List.replicate k 48) = NumText.digitsVal f * 10 ^ k := val_app f k 0
theorem val_pad : ∀ (k n : Nat), n < 10 ^ k → NumText.digitsVal (padL k n) = n
  | 0, n, h => by
    have : n = 0 := by simpa using h
    subst this
    rfl
  | k + 1, n, h => by
    have ih := val_pad k (n / 10) (by rw [Nat.pow_succ] at h; omega)
    unfold NumText.digitsVal at ih ⊢
    rw [padL, List.foldl_append, ih, List.foldl_cons, List.foldl_nil]
    omega
theorem int_T (h : ∀ x ∈ a, 48 ≤ x ∧ x ≤ 57) (hne : a ≠ []) (hl : a.length ≤ 600) : intSD [T a] = some (.int (NumText.digitsVal a : Nat)) := by
  have v := SX.int_S (a := a) (by
    rw [List.all_eq_true]
    intro c hc
    have := h c hc
    rw [Bool.and_eq_true]
    exact ⟨decide_eq_true this.1, decide_eq_true this.2⟩) hne (by omega)
  have b : intSB (SX.S a) = true := decide_eq_true (by rw [SX.S_len]; omega)
  show (if intSB (SX.S a) then (PySem.intText? (SX.S a)).map PyData.int else none) = _
  rw [if_pos b, v]
  rfl
theorem numL_head : ∀ n : Nat, 1 < (TL.numL n).length → (TL.numL n).head? ≠ some 48 := by
  intro n
  induction n using Nat.strongRecOn with
  | _ n ih =>
    intro h
    by_cases e : n < 10
    · rw [TL.numL_lt e] at h
      simp at h
    · rw [TL.numL_step (by omega)] at h ⊢
      by_cases e2 : n / 10 < 10
      · rw [TL.numL_lt e2]
        show some (48 + n / 10) ≠ some 48
        intro z
        have := Option.some.inj z
        omega
      · have h2 : 1 < (TL.numL (n / 10)).length := by
          rw [TL.numL_step (n := n / 10) (by omega), List.length_append]
          have := List.length_pos_iff.mpr (TL.numL_ne (n / 10 / 10))
          rw [List.length_singleton]
          omega
        have := ih (n / 10) (by omega) h2
        cases hq : TL.numL (n / 10) with
        | nil => exact absurd hq (TL.numL_ne _)
        | cons x r =>
          rw [hq] at this
          exact this
end
end FL
/-! signs that pass a test -/
namespace FL
open PySem PySem.Spec PyProof.Rows L2
variable [TabNames]
section
variable {a b p q f l : List Nat} {i j : Int} {c k n s : Nat} {ρ : Ev} {mt : Ev → R}
theorem comp_chars (t : Nat → Bool) (hρ : s < ρ.length) : ∀ w : List Nat, (∀ c ∈ w, mt (ρ.set s (.d (T [c]))) = .ok (.bool (t c))) → compD (bName s ρ) mt (mVar s) (w.map fun c => T [c]) = .ok (.list ((w.filter t).map fun c => T [c]))
  | [], _ => by simp
  | c :: w, h => by
    have e : (ρ.set s (.d (T [c])))[s]? = some (.d (T [c])) := by rw [List.getElem?_set_self hρ]
    rw [List.map_cons, compD_c, comp_chars t hρ w fun d hd => h d (List.mem_cons_of_mem _ hd), ev_bName, ev_ckK, h c (List.mem_cons_self ..), ev_bok, ev_ckB, ev_var, e, ev_getV, ev_bok, ev_bok, ev_consD]
    cases ht : t c with
    | false => rw [List.filter_cons_of_neg (by rw [ht]; decide)]; rfl
    | true => rw [List.filter_cons_of_pos ht]; rfl
theorem low_chars (h : ∀ c ∈ a, c < 1114112) (hl : a.length < 1000000) : lowD 1 (.list (a.map fun c => T [c])) := ⟨by rw [List.length_map]; exact hl, fun x hx => by
  obtain ⟨c, hc, rfl⟩ := List.mem_map.mp hx
  exact shp_T (a := [c]) fun y hy => by rw [List.mem_singleton.mp hy]; exact h c hc⟩
theorem eqv_nil : PyData.eqv (.list (a.map fun c => T [c])) (.list []) = decide (a = []) := by
  rw [PyData.eqv]
  cases a with
  | nil => rw [List.map_nil, PyData.eqvAll]; rfl
  | cons c w => rw [List.map_cons, PyData.eqvAll]; rfl
theorem ne_nil_T (h : ∀ c ∈ a, c < 1114112) (hl : a.length < 1000000) : neD (.list (a.map fun c => T [c])) (.list []) = some (.bool (!decide (a = []))) := by
  rw [neD_ok (shp_low (low_chars h hl)) (show shp (.list []) = true from shp_low (k := 1) (x := .list []) ⟨by decide, fun x hx => nomatch hx⟩), eqv_nil]
theorem eq_nil_T (h : ∀ c ∈ a, c < 1114112) (hl : a.length < 1000000) : eqD (.list (a.map fun c => T [c])) (.list []) = some (.bool (decide (a = []))) := by
  rw [eqD_ok (shp_low (low_chars h hl)) (show shp (.list []) = true from shp_low (k := 1) (x := .list []) ⟨by decide, fun x hx => nomatch hx⟩), eqv_nil]
theorem filter_no {t : Nat → Bool} : (a.filter t = []) ↔ ∀ c ∈ a, t c = false := by
  rw [List.filter_eq_nil_iff]
  constructor
  · intro h c hc
    have := h c hc
    simpa using this
  · intro h c hc
    rw [h c hc]
    decide
theorem spl_ne (S : List Nat) : ∀ (l : List Nat) (k : Nat) (acc : List Nat), TL.spl S k acc l ≠ []
  | [], k, acc => by rw [TL.spl_nil]; simp
  | c :: r, 0, acc => by
    unfold TL.spl
    split
    · simp
    · exact spl_ne S r 0 _
  | c :: r, k + 1, acc => by
    unfold TL.spl
    exact spl_ne S r k acc
/-- the parts' signs are the text's -/
theorem spl_mem (S : List Nat) : ∀ (l : List Nat) (k : Nat) (acc : List Nat), ∀ p ∈ TL.spl S k acc l, ∀ c ∈ p, c ∈ acc ∨ c ∈ l
  | [], k, acc, p, hp, c, hc => by
    rw [TL.spl_nil] at hp
    rw [List.mem_singleton.mp hp] at hc
    exact .inl hc
  | x :: r, 0, acc, p, hp, c, hc => by
    unfold TL.spl at hp
    split at hp
    · rcases List.mem_cons.mp hp with rfl | hp
      · exact .inl hc
      · rcases spl_mem S r _ [] p hp c hc with h | h
        · cases h
        · exact .inr (List.mem_cons_of_mem _ h)
    · rcases spl_mem S r 0 _ p hp c hc with h | h
      · rcases List.mem_append.mp h with h | h
        · exact .inl h
        · rw [List.mem_singleton.mp h]
          exact .inr (List.mem_cons_self ..)
      · exact .inr (List.mem_cons_of_mem _ h)
  | x :: r, k + 1, acc, p, hp, c, hc => by
    unfold TL.spl at hp
    rcases spl_mem S r k acc p hp c hc with h | h
    · exact .inl h
    · exact .inr (List.mem_cons_of_mem _ h)
theorem spl_len (S : List Nat) : ∀ (l : List Nat) (k : Nat) (acc : List Nat), ∀ p ∈ TL.spl S k acc l, p.length ≤ acc.length + l.length
  | [], k, acc, p, hp => by
    rw [TL.spl_nil] at hp
    rw [List.mem_singleton.mp hp]
    simp
  | x :: r, 0, acc, p, hp => by
    unfold TL.spl at hp
    split at hp
    · rcases List.mem_cons.mp hp with rfl | hp
      · omega
      · have := spl_len S r _ [] p hp
        rw [List.length_cons]
        simp at this
        omega
    · have := spl_len S r 0 _ p hp
      simp at this
      rw [List.length_cons]
      omega
  | x :: r, k + 1, acc, p, hp => by
    unfold TL.spl at hp
    have := spl_len S r k acc p hp
    rw [List.length_cons]
    omega
theorem split_T (hc : c < 256) (hl : a.length ≤ 1000000) : splitD (SX.S a) (T [c]) = some (.list ((TL.spl [c] 0 [] a).map T)) := by
  rw [ev_split (splitB_S hl), SX.split_S (by simp) (by simpa using hc), List.map_map]
  rfl
theorem rp_T (hl : a.length ≤ 1000000) : removeprefixD (SX.S a) (T [c]) = some (T (if a.head? = some c then a.tail else a)) := by
  rw [ev_removeprefix (lineB_S hl)]
  by_cases h : a.head? = some c
  · rw [if_pos h]
    cases a with
    | nil => cases h
    | cons x r =>
      have : x = c := Option.some.inj h
      subst this
      rw [rp_yes]
      rfl
  · rw [if_neg h, rp_no h]
theorem ix0_T (x : Nat) (r : List Nat) (h : (x :: r).length ≤ 16777216) : ixD (T (x :: r)) (.int 0) = .ok (T [x]) := by
  obtain ⟨c, _, h2, h3⟩ := ix_T (a := x :: r) (i := 0) h (by decide) (by simp)
  have : c = x := by simpa using h2.symm
  rw [h3, this]
end
end FL
/-! range with a step, list(x) -/
namespace FL
open PySem PySem.Spec PyProof.Rows L2
variable [TabNames]
section
variable {X : Cx} {K : PySem.W.Frag} {mg : Str → Option Value} {G : Gx} {pos : Pos} {a b c e o tg : Expr} {es : List Expr} {ma mb mc ms mo mk : Ev → R} {m m1 m2 : Ev → Out} {ρ : Ev}
def stepD (lo st : Int) (n : Nat) : List D := (List.range n).map fun i => .int (lo + (i : Nat) * st)
def rgcB (i j c : Int) : Bool := decide (c ≠ 0) && (decide (c.natAbs < 1073741824) && (Builtin.Range.small i j c && decide (0 ≤ Builtin.Range.rangeSize i j c)))
def rng3D : D → R
  | .list [.int i, .int j, .int k] => if rgcB i j k then .ok (.list (stepD i k (Builtin.Range.rangeSize i j k).toNat)) else .no
  | _ => .no
def mRng3 (ms : Ev → R) : Ev → R := fun ρ => (ms ρ).bind rng3D
theorem walkRC {S : List Addr} {H : Hp} {lo k : Int} {n : Nat} : WalkD K S H (Itc lo k n) (stepD lo k n) := by
  have w := walk_rangeC (lo := lo) (c := k) (n := n)
  have el : (stepD lo k n).length = n := by simp [stepD]
  refine ⟨fun i H' hi x => w.goes i H' (by omega) trivial, fun H' x => by rw [el]; exact w.stops H' trivial, fun i H' x H2 hi xx y => ?_⟩
  rw [el] at hi
  obtain ⟨e1, e2⟩ := w.yields i H' x H2 hi trivial y
  subst e1
  subst e2
  exact ⟨Ex.refl _, .int (lo + (i : Nat) * k), by simp [stepD, hi], fun S' _ x' => .int _⟩
theorem x_rng3 {p : Pos} (ha : XA X G [a, b, c] ms) (hm : X.mg "range" = none) (hg : Gl X "range" := by rfl) (hs : starEach [a, b, c] X.env = (false, eval a X.env) :: starEach [b, c] X.env := by rfl) (hpl : (backTo pos (starEach [b, c] X.env)).any (·.1) = false := by rfl) : XI X G tg (.Call (.Name "range" p) [a, b, c] [] pos) (mRng3 ms) :=
  ⟨fun ρ => (pi_range3 hg hm (ha.pa ρ) hs hpl).imp fun σ H Q ⟨H0, S0, S, env, h⟩ => iA_of env h (fun ds H' vs _ x hv h' => by
    cases hv with
    | nil => exact h'.elim
    | cons h1 h2 =>
      cases h2 with
      | nil => cases h1 <;> exact h'.elim
      | cons h2 h3 =>
        cases h3 with
        | nil => cases h1 <;> cases h2 <;> exact h'.elim
        | cons h3 h4 =>
          cases h4 with
          | cons _ _ => cases h1 <;> cases h2 <;> cases h3 <;> exact h'.elim
          | nil =>
            cases h1 with
            | int i =>
              cases h2 with
              | int j =>
                cases h3 with
                | int k =>
                  obtain ⟨q, h'⟩ := ip_if h'
                  have q1 := Bool.and_eq_true_iff.mp q
                  have q2 := Bool.and_eq_true_iff.mp q1.2
                  have q3 := Bool.and_eq_true_iff.mp q2.2
                  have q4 := of_decide_eq_true q3.2
                  exact ⟨i, j, k, _, rfl, ⟨of_decide_eq_true q1.1, of_decide_eq_true q2.1, q3.1, (Int.toNat_of_nonneg q4).symm⟩, h' H' _ (Ex.refl _) walkRC⟩
                | _ => exact h'.elim
              | _ => cases h3 <;> exact h'.elim
            | _ => cases h2 <;> cases h3 <;> exact h'.elim) (fun d hd => by cases d <;> first | rfl | exact (hd _ rfl).elim)⟩
theorem LPost.mono' {S : List Addr} {H H' : Hp} {σ : L2.St} {r : R} {Q : VK} (h : LPost K mg G S H σ r Q) (x : Ex H H') : LPost K mg G S H' σ r Q := by
  cases r with
  | ok d =>
    cases d with
    | list ds => exact fun H2 p vs np x2 hp k => h H2 p vs (fresh_back x np) (x.trans x2) hp k
    | _ => exact h
  | ex c => exact fun C H2 e x2 => h C H2 e (x.trans x2)
  | no => exact h
theorem lB_of {r : R} {f : D → R} {σ : L2.St} {H H0 : Hp} {S0 S : List Addr} {Q Q' : VK} (env : EnvOk K G.xa H0 S0 S H σ ρ) (h : LPost K mg G S H σ (r.bind f) Q)
    (k : ∀ d H' v, Ex H H' → Bt K S H' v d → LPost K mg G S H' σ (f d) Q → Q' v H') : tB K mg G ρ r σ H Q' := by
  refine ⟨H0, S0, S, env, ?_⟩
  cases r with
  | ok d => exact fun H' v x hv => k d H' v x hv (LPost.mono' (show LPost K mg G S H σ (f d) Q from h) x)
  | ex c => exact h
  | no => exact h
/-! list(x) -/
def toListD : D → R
  | .list ds => .ok (.list ds)
  | .tuple ds => .ok (.list ds)
  | _ => .no
def mListOf (ma : Ev → R) : Ev → R := fun ρ => (ma ρ).bind toListD
theorem xl_listOf {p : Pos} (ha : XB X G a ma) (hm : X.mg "list" = none) (hg : Gl X "list" := by rfl) (he : starEach [a] X.env = (false, eval a X.env) :: starEach [] X.env := by rfl) : XL X G (.Call (.Name "list" p) [a] [] pos) (mListOf ma) :=
  ⟨fun ρ => (pe_callTy call_list_of hg hm boot_list' (pa_cons (ha.pe ρ) pa_nil he) (by decide) (by decide) he).imp fun σ H Q ⟨H0, S0, S, env, h⟩ => by
    refine lB_of env h fun d H' v x hv h' => ?_
    cases d with
    | list ds =>
      obtain ⟨l, vs, rfl, hl, k⟩ := hv.list
      exact ⟨l, vs, rfl, .inl hl, fun p np => h' _ p vs np (Ex.new np) upd_same (da_mono (hide_fresh np (Ex.new np)) k)⟩
    | tuple ds =>
      obtain ⟨l, vs, rfl, hl, k⟩ := hv.tuple
      exact ⟨l, vs, rfl, .inr hl, fun p np => h' _ p vs np (Ex.new np) upd_same (da_mono (hide_fresh np (Ex.new np)) k)⟩
    | _ => exact h'.elim, fun ρ d h => by
    unfold mListOf at h
    cases e : ma ρ with
    | ok x =>
      rw [e] at h
      cases x with
      | list ds => cases h; exact ⟨_, rfl⟩
      | tuple ds => cases h; exact ⟨_, rfl⟩
      | _ => cases h
    | ex c => rw [e] at h; cases h
    | no => rw [e] at h; cases h⟩
end
end FL
/-! a list of the frame's own, compared and joined -/
namespace FL
open PySem PySem.Spec PyProof.Rows L2
variable [TabNames]
section
variable {X : Cx} {K : PySem.W.Frag} {mg : Str → Option Value} {G : Gx} {pos : Pos} {a b c e o tg : Expr} {ma mb : Ev → R} {ρ : Ev}
theorem Bt.full {S : List Addr} {H : Hp} {v : V} {d : D} (h : Bt K S H v d) : Dp K H v d := by
  rcases h with h | ⟨l, vs, ds, rfl, rfl, hl, k⟩
  · exact dp_mono hide_sub h
  · exact .lst (.inl (.inl hl)) (da_mono hide_sub k)
/-- one side may be the frame's own list -/
def OpOkB (K : PySem.W.Frag) (r : R2) (f : D → D → Option D) : Prop := ∀ (S : List Addr) (H : Hp) (x y d : D) (v u : V) (Q : VK), (∀ l ∈ S, H l ≠ none) → Bt K S H v x → Dp K (hide S H) u y → f x y = some d → Post K S H d Q → r v u H Q
theorem okEqB : OpOkB K (rEqD K) eqD := by
  intro S H x y d v u Q hS hv hu e q
  obtain ⟨k, rfl⟩ := ok_of_if e
  rw [Bool.and_eq_true] at k
  exact ⟨x, y, hv.full, dp_mono hide_sub hu, k.1, k.2, post_val q (.bl _)⟩
theorem okNeB : OpOkB K (rNeD K) neD := by
  intro S H x y d v u Q hS hv hu e q
  obtain ⟨k, rfl⟩ := ok_of_if e
  rw [Bool.and_eq_true] at k
  exact ⟨x, y, hv.full, dp_mono hide_sub hu, k.1, k.2, post_val q (.bl _)⟩
theorem x_cmpB {op : CmpOp} {r : R2} {f : D → D → Option D} (ho : OpR X (compareOp op) r) (k : OpOkB X.K r f) (ha : XB X G a ma) (hb : XE X G b mb) (hm : behindInMarks op b = false := by exact nomark _) : XE X G (.Compare a [op] [b] pos) (mBin f ma mb) :=
  ⟨fun ρ => (pe_cmpR ho (ha.pe ρ) (hb.pe ρ) hm).imp fun σ H Q ⟨H0, S0, S, env, h⟩ => tB_bind env h fun d H1 v _ x1 hv h1 => tE_bind (env.mono x1) h1 fun d2 H2 u _ x2 hu h2 => by
    obtain ⟨z, e, q⟩ := of_some h2
    exact k S H2 d d2 z v u Q ((env.mono x1).mono x2).sH (hv.mono x2) hu e q⟩
theorem x_eqB (hu : X.A.units + 64 < cLine) (ha : XB X G a ma) (hb : XE X G b mb) : XE X G (.Compare a [.Eq] [b] pos) (mBin eqD ma mb) := x_cmpB (op_eqD hu) okEqB ha hb
theorem x_neB (hu : X.A.units + 64 < cLine) (ha : XB X G a ma) (hb : XE X G b mb) : XE X G (.Compare a [.NotEq] [b] pos) (mBin neD ma mb) := x_cmpB (op_neD hu) okNeB ha hb
end
end FL
/-! a list of the frame's own is changed no more -/
namespace FL
open PySem PySem.Spec PyProof.Rows L2
variable [TabNames]
section
variable {X : Cx} {K : PySem.W.Frag} {mg : Str → Option Value} {G : Gx} {xa : Option Hx} {st : Stmt} {m : Ev → Out} {ρ : Ev} {σ : L2.St} {H H0 : Hp} {S0 S : List Addr}
def frz (i : Nat) (ρ : Ev) : Ev := match ρ[i]? with
  | some (.ol xs) => ρ.set i (.d (.list xs))
  | _ => ρ
theorem EnvOk.frz (env : EnvOk K xa H0 S0 S H σ ρ) (i : Nat) : ∃ S', EnvOk K xa H0 S0 S' H σ (FL.frz i ρ) := by
  unfold FL.frz
  split
  · rename_i xs er
    obtain ⟨l, vs, e1, lS, hl, k⟩ := env.sl i _ er
    have oi : OwnAt σ ρ i l := ⟨e1, _, er, rfl⟩
    have sub : ∀ p ∈ S.filter (fun p => p ≠ l), p ∈ S := fun p hp => (List.mem_filter.mp hp).1
    have nl : l ∉ S.filter (fun p => p ≠ l) := fun hp => by simpa using (List.mem_filter.mp hp).2
    have back : ∀ j p, OwnAt σ (ρ.set i (.d (.list xs))) j p → OwnAt σ ρ j p ∧ j ≠ i := fun j p ⟨h1, ys, h2, h3⟩ => by
      have ne : j ≠ i := fun z => by
        rw [z, List.getElem?_set_self'] at h2
        rw [er] at h2
        cases h2
        cases h3
      rw [List.getElem?_set_ne (Ne.symm ne)] at h2
      exact ⟨⟨h1, ys, h2, h3⟩, ne⟩
    refine ⟨S.filter (fun p => p ≠ l), by rw [List.length_set]; exact env.len, fun j s e => ?_, fun j j' p h1 h2 => env.sep j j' p (back j p h1).1 (back j' p h2).1, env.ex0, fun p hp => List.mem_filter.mpr ⟨env.s0 p hp, ?_⟩, fun p hp => env.sH p (sub p hp), env.s0H, fun p hp => env.fr p (sub p hp), fun j p h => env.own j p (back j p h).1, fun p hp n => env.sN p (sub p hp) n, env.tb⟩
    · by_cases ne : j = i
      · subst ne
        have hlt : j < ρ.length := (List.getElem?_eq_some_iff.mp er).1
        rw [List.getElem?_set_self hlt] at e
        cases e
        exact ⟨.ref l, e1, .lst (.inl (.inl (by rw [hide_out nl]; exact hl))) (da_mono (hide_less sub) k)⟩
      · rw [List.getElem?_set_ne (Ne.symm ne)] at e
        have h := env.sl j s e
        cases s with
        | un => trivial
        | d z =>
          obtain ⟨v, h1, h2⟩ := h
          exact ⟨v, h1, dp_mono (hide_less sub) h2⟩
        | ol ys =>
          obtain ⟨p, ws, h1, h2, h3, h4⟩ := h
          have np : p ≠ l := fun z => ne (env.sep j i l ⟨by rw [← z]; exact h1, _, e, rfl⟩ oi)
          exact ⟨p, ws, h1, List.mem_filter.mpr ⟨h2, by simpa using np⟩, h3, da_mono (hide_less sub) h4⟩
        | od ys =>
          obtain ⟨p, ws, h1, h2, h3, hk, h4⟩ := h
          have np : p ≠ l := fun z => ne (env.sep j i l ⟨by rw [← z]; exact h1, _, e, rfl⟩ oi)
          exact ⟨p, ws, h1, List.mem_filter.mpr ⟨h2, by simpa using np⟩, h3, hk, da_mono (hide_less sub) h4⟩
        | ot ys =>
          obtain ⟨p, ws, h1, h2, h3, hs, hk, h4⟩ := h
          have np : p ≠ l := fun z => ne (env.sep j i l ⟨by rw [← z]; exact h1, _, e, rfl⟩ oi)
          exact ⟨p, ws, h1, List.mem_filter.mpr ⟨h2, by simpa using np⟩, h3, hs, fun y hy => ex_t (hide_less sub) (hk y hy), h4⟩
        | xc c => exact h
        | bd ys =>
          obtain ⟨a, ob, es, h1, h2, hk, k⟩ := h
          exact ⟨a, ob, es, h1, h2, hk, da_mono (hide_less sub) k⟩
        | fn => exact h
    · have : p ≠ l := fun z => env.own i l oi (z ▸ hp)
      simpa using this
  · exact ⟨S, env⟩
/-- the slots named are changed no more -/
def frzs : List Nat → Ev → Ev
  | [], ρ => ρ
  | i :: r, ρ => frzs r (frz i ρ)
theorem EnvOk.frzs : ∀ (is : List Nat) {S : List Addr} {ρ : Ev}, EnvOk K xa H0 S0 S H σ ρ → ∃ S', EnvOk K xa H0 S0 S' H σ (FL.frzs is ρ)
  | [], S, _, env => ⟨S, env⟩
  | i :: r, _, _, env => by
    obtain ⟨S', e⟩ := env.frz i
    exact EnvOk.frzs r e
def mFrz (is : List Nat) (m : Ev → Out) : Ev → Out := fun ρ => m (frzs is ρ)
theorem s_frz (is : List Nat) (h : XS X G st m) : XS X G st (mFrz is m) := ⟨fun ρ => (h.ps (frzs is ρ)).imp fun Dn σ H ⟨H0, S0, S, env, q⟩ => by
  obtain ⟨S', e⟩ := EnvOk.frzs is env
  exact ⟨H0, S0, S', e, q⟩⟩
@[simp] theorem ev_mfrz {is : List Nat} : mFrz is m ρ = m (frzs is ρ) := Eq.trans rfl rfl
@[simp] theorem ev_frzs0 : frzs [] ρ = ρ := Eq.trans rfl rfl
@[simp] theorem ev_frzs1 {i : Nat} {is : List Nat} : frzs (i :: is) ρ = frzs is (frz i ρ) := Eq.trans rfl rfl
end
end FL
/-! xs.insert(k, e), xs of the frame's own -/
namespace FL
open PySem PySem.Spec PyProof.Rows L2
variable [TabNames]
section
variable {X : Cx} {K : PySem.W.Frag} {mg : Str → Option Value} {G : Gx} {pos : Pos} {a b : Expr} {ma mb : Ev → R} {ρ : Ev}
def insB (xs : List D) (k : Int) : Bool := decide (xs.length < sizeLine) && (decide (0 ≤ k) && decide (k < 2 ^ 63))
def insK (ρ : Ev) (i : Nat) (xs : List D) (r : R) : D → Out
  | .int k => r.go ρ fun d => if insB xs k then .nx (ρ.set i (.ol (xs.take k.toNat ++ [d] ++ xs.drop k.toNat))) else .no
  | _ => .no
def mIns (i : Nat) (mk ma : Ev → R) : Ev → Out := fun ρ => match ρ[i]? with
  | some (.ol xs) => (mk ρ).go ρ (insK ρ i xs (ma ρ))
  | _ => .no
theorem s_ins (i : Nat) {x : Str} {p p2 p3 : Pos} (hk : XE X G b mb) (ha : XE X G a ma) (hi : X.N[i]? = some x := by rfl) (hv : Vis X.env.scope x := by first | exact Or.inl rfl | exact Or.inr (Or.inl rfl) | exact Or.inr (Or.inr rfl)) (hd : (x == ("__debug__" : Str)) = false := by decide)
    (hcd : (x == ("__classdict__" : Str)) = false := by decide) (hs : swapsWith (.Call (.Attribute (.Name x p) "insert" p2) [b, a] [] p3) none pos.line X.env = pure false := by rfl)
    (hfew : ((backTo p3 (starEach [b, a] X.env)).all (fun x => !x.1) && (backToKw p3 (keywordEach [] X.env)).all (fun x => x.1.isSome) && decide ([b, a].length + ([] : List Keyword).length + (if ([] : List Keyword).isEmpty then 0 else 1) < 30)) = true := by rfl)
    (hline : (p2.endLine == p3.line) = true := by rfl) (hst : starEach [b, a] X.env = (false, eval b X.env) :: starEach [a] X.env := by rfl) (hst2 : starEach [a] X.env = (false, eval a X.env) :: starEach [] X.env := by rfl) (hpl : (backTo p3 (starEach [a] X.env)).any (·.1) = false := by rfl) :
    XS X G (.Expr (.Call (.Attribute (.Name x p) "insert" p2) [b, a] [] p3) pos) (mIns i mb ma) := ⟨fun ρ => (ps_expr (pe_bm PySem.F.plainAttrs_list PySem.F.slot_list_insert PySem.F.type_list_insert mt_insert (pe_var hi hv hd hcd) (pa_cons (hk.pe ρ) (pa_cons (ha.pe ρ) pa_nil hst2) hst) (by rfl) hfew hline hst hpl) hs).imp fun Dn σ H ⟨H0, S0, S, env, h⟩ => by
  unfold mIns at h
  split at h
  · rename_i xs er
    obtain ⟨l, vs, e1, lS, hl, k⟩ := own_get env er
    refine ⟨.ref l, e1, .inl ⟨rfl, _, .inl (.inl hl)⟩, go_tE env h fun d H' v _ xx hv h' => ?_⟩
    cases hv with
    | int n =>
      refine go_tE (env.mono xx) h' fun d2 H2 u _ x2 hu h2 => ?_
      by_cases z : insB xs n = true
      · rw [if_pos z] at h2
        have z1 := Bool.and_eq_true_iff.mp z
        have z2 := Bool.and_eq_true_iff.mp z1.2
        have k2 := da_mono (hide_mono (xx.trans x2)) k
        exact ⟨l, vs, n, u, rfl, rfl, x2.lst (xx.lst hl), by rw [da_length k]; exact of_decide_eq_true z1.1, of_decide_eq_true z2.1, of_decide_eq_true z2.2, h2 σ S _ (((env.mono xx).mono x2).updO e1 er (da_append (da_append (da_take n.toNat k2) (.cons hu .nil)) (da_drop n.toNat k2)))⟩
      · rw [if_neg z] at h2
        exact h2.elim
    | _ => exact h'.elim
  · exact h.elim⟩
end
end FL
/-! defs that return a new list -/
namespace FL
open PySem PySem.Spec PyProof.Rows L2
variable [TabNames]
section
variable {X : Cx} {K : PySem.W.Frag} {mg : Str → Option Value} {G : Gx} {pos : Pos} {e a : Expr} {es : List Expr} {ma ms : Ev → R} {m : Ev → Out} {ρ : Ev}
theorem s_retL (ha : XL X G a ma) : XS X G (.Return (some a) pos) (mRet ma) := ⟨fun ρ => (ps_ret (ha.pe ρ)).imp fun Dn σ H ⟨H0, S0, S, env, h⟩ => by
  refine ⟨H0, S0, S, env, ?_⟩
  have il := ha.isl ρ
  unfold mRet at h
  generalize ma ρ = r at h il
  cases r with
  | ok d =>
    obtain ⟨ds, rfl⟩ := il d rfl
    intro H' p vs np x hp k
    have k' : DpAll X.K (hide (p :: S0) H') vs ds := da_mono (hide_less fun l m => by
      rcases List.mem_cons.mp m with z | z
      · exact z ▸ List.mem_cons_self ..
      · exact List.mem_cons_of_mem _ (env.s0 l z)) k
    have nS0 : p ∉ S0 := fun z => env.sH p (env.s0 p z) np
    exact h H' (.ref p) (env.ex0.trans x) (.lst (.inl (.inl (by rw [hide_out nS0]; exact hp))) (da_mono (hide_less fun l m => List.mem_cons_of_mem _ m) k')) fun _ => ⟨p, vs, ds, rfl, rfl, fresh_back env.ex0 np, hp, k'⟩
  | ex c => exact fun C H' e x => h C σ S H' e (env.mono x)
  | no => exact h⟩
/-- return x, x a list of the frame's own -/
def mRetOL (i : Nat) : Ev → Out := fun ρ => match ρ[i]? with
  | some (.ol xs) => .ret (.list xs)
  | _ => .no
theorem s_retOL (i : Nat) {x : Str} {p : Pos} (hN : X.N[i]? = some x := by rfl) (hv : Vis X.env.scope x := by first | exact Or.inl rfl | exact Or.inr (Or.inl rfl) | exact Or.inr (Or.inr rfl)) (hd : (x == ("__debug__" : Str)) = false := by decide)
    (hcd : (x == ("__classdict__" : Str)) = false := by decide) : XS X G (.Return (some (.Name x p)) pos) (mRetOL i) := ⟨fun ρ => (ps_ret (pe_var hN hv hd hcd)).imp fun Dn σ H ⟨H0, S0, S, env, h⟩ => by
  unfold mRetOL at h
  split at h
  · rename_i y e
    obtain ⟨l, vs, ev, m, hl, k⟩ := env.sl i _ e
    have nS0 := env.own i l ⟨ev, _, e, rfl⟩
    have k' : DpAll X.K (hide (l :: S0) H) vs y := da_mono (hide_less fun q m' => by
      rcases List.mem_cons.mp m' with z | z
      · exact z ▸ m
      · exact env.s0 q z) k
    exact ⟨.ref l, ev, h H _ env.ex0 (.lst (.inl (.inl (by rw [hide_out nS0]; exact hl))) (da_mono (hide_less env.s0) k)) fun _ => ⟨l, vs, y, rfl, rfl, (env.fr l m).resolve_left nS0, hl, k'⟩⟩
  · exact h.elim⟩
@[simp] theorem ev_retOL {n : Nat} : mRetOL n ρ = (match ρ[n]? with
  | some (.ol xs) => .ret (.list xs)
  | _ => .no) := Eq.trans rfl rfl
def SpL (K : PySem.W.Frag) (mg : Str → Option Value) (n : Nat) (f : List D → R) : Sp := fun vs H Q E => vs.length = n ∧ Tbs H ∧ ∃ S ds, (∀ l ∈ S, H l ≠ none) ∧ DpAll K (hide S H) vs ds ∧
  match f ds with
  | .ok (.list xs) => ∀ H' p ws, H p = none → Ex H H' → H' p = some (.lst ws) → DpAll K (hide (p :: S) H') ws xs → Q (.ref p) H'
  | .ok _ => False
  | .ex c => ∀ C H', mg c = some (.ref C) → Ex H H' → E (.ref C) none H'
  | .no => False
structure FnL (P : Program) (w : World) (K : PySem.W.Frag) (mg : Str → Option Value) (base : Heap) (k : Nat) (x : Str) (n : Nat) (f : List D → R) : Prop where
  ex : ∃ (fa : Addr) (fd : FuncData) (ps : List Str), ps.length = n ∧ mg x = some (.ref fa) ∧ FnOk P w K mg base (L2.CX P w) k fa fd ps (SpL K mg n f) ∧ PySem.W.keepIn K (.ref fa) = true ∧ Binds K fd ps []
  ln : ∀ ds, ds.length ≠ n → f ds = .no
  isl : ∀ ds d, f ds = .ok d → ∃ xs, d = .list xs
def justL : D → R
  | .list xs => .ok (.list xs)
  | _ => .no
@[simp] theorem ev_justL {xs : List D} : justL (.list xs) = .ok (.list xs) := Eq.trans rfl rfl
/-- the function of a def that returns a new list -/
def bodyL (N n : Nat) (m : Ev → Out) (ds : List D) : R := (bodyF N n m ds).bind justL
theorem fnL_mk {P : Program} {w : World} {base : Heap} {k : Nat} {x : Str} {st : Stmt} {ps N : List Str} {fa : Addr} {fd : FuncData} (nN nP : Nat) (dA : DefAt K mg x st ps fa fd) (S : FnScope N ps (defScope st)) (eN : N.length = nN) (eP : ps.length = nP)
    (hb : ∀ (cdv : Value) (A : Around) (outer : List Env) (s : Shared) (H : Hp) (E : XK), Room k (A.deeper (envOfC x (defScope st) s.heap.objs.size fa cdv)) →
      Takes (cxOf (L2.CX P w) P w K mg base N x (defScope st) fa cdv A outer s H E) (fun cls d _ H => E cls d H) →
      PassesOwn (model P w) (A.deeper (envOfC x (defScope st) s.heap.objs.size fa cdv)) (envOfC x (defScope st) s.heap.objs.size fa cdv) (cxOf (L2.CX P w) P w K mg base N x (defScope st) fa cdv A outer s H E).xe →
      XSs (cxOf (L2.CX P w) P w K mg base N x (defScope st) fa cdv A outer s H E) { W := fun cls d _ H => E cls d H, lm := true } (defBody st) m) : FnL P w K mg base (k + 1) x nP (bodyL nN nP m) := by
  subst eN eP
  refine ⟨⟨fa, fd, ps, rfl, dA.g, ?_, dA.F.kp, dA.b⟩, fun ds h => by unfold bodyL bodyF; rw [if_neg h]; rfl, fun ds d h => ?_⟩
  · refine dA.F.ok S (fun vs H Q E h => h.1) fun cdv A outer s H vs Q E hr ⟨hl, tb, Sv, ds, sH, kd, h⟩ => ?_
    have D := hb cdv A outer s H E hr (takes_of rfl rfl rfl rfl) (passes_of rfl)
    refine ⟨_, D.ps (startE N.length ds), H, Sv, Sv, env_start tb sH kd, ?_⟩
    unfold bodyL at h
    rw [show bodyF N.length ps.length m ds = bodyR (m (startE N.length ds)) from if_pos (by rw [← da_length kd]; exact hl)] at h
    show SPost K mg _ H Sv (m (startE N.length ds)) _
    generalize m (startE N.length ds) = o at h
    cases o with
    | nx ρ => exact h.elim
    | ret d =>
      intro H' v x k z
      obtain ⟨p, vs', xs, q1, q2, q3, q4, q5⟩ := z rfl
      subst q1 q2
      exact h H' p vs' q3 x q4 q5
    | ex c ρ => exact fun C σ S' H' e env => h C H' e env.ex0
    | bk ρ => exact h.elim
    | ct ρ => exact h.elim
    | no => exact h.elim
  · unfold bodyL at h
    generalize bodyF N.length ps.length m ds = r at h
    cases r with
    | ok y =>
      cases y with
      | list xs => cases h; exact ⟨xs, rfl⟩
      | _ => cases h
    | ex c => cases h
    | no => cases h
theorem tA_bindL {mg : Str → Option Value} {ρ : Ev} {r : R} {f : D → R} {σ : L2.St} {H H0 : Hp} {S0 S : List Addr} {Q : VK} {Q' : List V → Hp → Prop} (env : EnvOk K G.xa H0 S0 S H σ ρ) (h : LPost K mg G S H σ (r.bind f) Q)
    (k : ∀ ds H' vs, r = .ok (.list ds) → Ex H H' → DpAll K (hide S H') vs ds → LPost K mg G S H' σ (f (.list ds)) Q → Q' vs H')
    (kd : ∀ d, (∀ ds, d ≠ .list ds) → f d = .no) : tAr K mg G ρ r σ H Q' := by
  refine ⟨H0, S0, S, env, ?_⟩
  cases r with
  | ok d =>
    rcases list_or d with ⟨ds, rfl⟩ | z
    · intro H' vs x hv
      refine k ds H' vs rfl x hv ?_
      have h' : LPost K mg G S H σ (f (.list ds)) Q := h
      generalize f (.list ds) = r at h'
      cases r with
      | ok d =>
        cases d with
        | list xs => exact fun H2 p ws np x2 => h' H2 p ws (fresh_back x np) (x.trans x2)
        | _ => exact h'
      | ex c => exact fun C H2 e x2 => h' C H2 e (x.trans x2)
      | no => exact h'
    · have h' : LPost K mg G S H σ (f d) Q := h
      rw [kd d z] at h'
      exact h'.elim
  | ex c => exact h
  | no => exact h
theorem spL_of {n : Nat} {f : List D → R} (ln : ∀ ds, ds.length ≠ n → f ds = .no) {S : List Addr} {H : Hp} {σ : L2.St} {vs : List V} {ds : List D} {Q : VK} (tb : Tbs H) (sH : ∀ l ∈ S, H l ≠ none) (k : DpAll K (hide S H) vs ds) (h : LPost K mg G S H σ (f ds) Q) : SpL K mg n f vs H Q (WE G.W σ) := by
  have hl : vs.length = n := by
    rw [da_length k]
    by_cases z : ds.length = n
    · exact z
    · rw [ln ds z] at h; exact h.elim
  refine ⟨hl, tb, S, ds, sH, k, ?_⟩
  generalize f ds = r at h
  cases r with
  | ok d =>
    cases d with
    | list xs => exact h
    | _ => exact h
  | ex c => exact h
  | no => exact h
theorem xl_call {k j n : Nat} {x : Str} {p : Pos} {f : List D → R} (F : FnL X.prog X.w X.K X.mg X.base k x n f) (hr : Room j X.A) (tk : Takes X G.W) (ha : XA X G (e :: es) ms) (hk : k ≤ j := by first | decide | omega) (hg : Gl X x := by rfl)
    (hdb : (x == ("__debug__" : Str)) = false := by decide) (he : starEach (e :: es) X.env = (false, eval e X.env) :: starEach es X.env := by rfl) (hpl : (backTo pos (starEach es X.env)).any (·.1) = false := by rfl) :
    XL X G (.Call (.Name x p) (e :: es) [] pos) (mCall f ms) := by
  obtain ⟨fa, fd, ps, h1, h2, h3, h4, h5⟩ := F.ex
  refine ⟨fun ρ => (pe_callS (E := WE G.W) h3 (hr.mono hk) hg h2 h4 h5 (fun σ => passAt tk σ) (ha.pa ρ) hdb he hpl).imp fun σ H Q ⟨H0, S0, S, env, h⟩ => ?_, fun ρ d h => ?_⟩
  · exact tA_bindL env h (fun ds H' vs _ x hv h' => spL_of F.ln (env.mono x).tb (env.mono x).sH hv h') (fun d hd => by cases d <;> first | rfl | exact (hd _ rfl).elim)
  · unfold mCall at h
    generalize ms ρ = r at h
    cases r with
    | ok y =>
      cases y with
      | list xs => exact F.isl xs d h
      | _ => cases h
    | ex c => cases h
    | no => cases h
/-- nothing is promised -/
theorem fnL_no {P : Program} {w : World} {base : Heap} {k n : Nat} {x : Str} {st : Stmt} {ps : List Str} {fa : Addr} {fd : FuncData} (dA : DefAt K mg x st ps fa fd) (hn : ps.length = n) : FnL P w K mg base k x n (fun _ => .no) := by
  refine ⟨⟨fa, fd, ps, hn, dA.g, ⟨fun vs H Q E h => ?_, fun A outer s H args us vs Q E _ _ _ _ h => ?_⟩, dA.F.kp, dA.b⟩, fun _ _ => rfl, fun _ _ h => by cases h⟩
  · obtain ⟨_, _, _, _, _, _, h⟩ := h
    exact h.elim
  · obtain ⟨_, _, _, _, _, _, h⟩ := h
    exact h.elim
end
end FL
/-! ranges with a step, rows of ints, points -/
namespace FL
open PySem PySem.Spec PyProof.Rows L2
variable [TabNames]
section
variable {ma : Ev → R} {ρ : Ev} {i j c : Int}
@[simp] theorem ev_rng3 : mRng3 ma ρ = (ma ρ).bind rng3D := Eq.trans rfl rfl
def stepN (i j c : Int) : Nat := if i < j then ((j - i - 1) / c + 1).toNat else 0
theorem ev_rng3D (c0 : 0 < c) (c1 : c < 1000000) (i0 : -1000000000000 < i) (i1 : i < 1000000000000) (j0 : -1000000000000 < j) (j1 : j < 1000000000000) : rng3D (.list [.int i, .int j, .int c]) = .ok (.list (stepD i c (stepN i j c))) := by
  have d0 : 0 ≤ (j - i - 1) / c ∨ ¬ i < j := by
    by_cases h : i < j
    · exact .inl (Int.ediv_nonneg (by omega) (by omega))
    · exact .inr h
  have e : Builtin.Range.rangeSize i j c = (stepN i j c : Nat) := by
    unfold Builtin.Range.rangeSize stepN
    rw [if_pos (by omega)]
    split <;> omega
  have b : rgcB i j c = true := by
    unfold rgcB
    rw [e]
    simp only [Bool.and_eq_true, decide_eq_true_eq]
    refine ⟨by omega, by omega, ?_, by omega⟩
    have f1 : ∀ z : Int, -2000000000000 < z → z < 2000000000000 → Builtin.Range.rangeFitsLong z = true := fun z h1 h2 => by
      unfold Builtin.Range.rangeFitsLong
      rw [Bool.and_eq_true, decide_eq_true_eq, decide_eq_true_eq]
      omega
    have n1 : ((stepN i j c : Nat) : Int) < 2000000000000 := by
      unfold stepN
      split
      · rename_i h
        have := Int.ediv_le_self c (show 0 ≤ j - i - 1 by omega)
        omega
      · decide
    unfold Builtin.Range.small
    rw [e, f1 i (by omega) (by omega), f1 j (by omega) (by omega), f1 c (by omega) (by omega), f1 _ (by omega) n1, if_pos c0, f1 (j + (c - 1)) (by omega) (by omega)]
    simp
  show (if rgcB i j c then R.ok (PyData.list (stepD i c (Builtin.Range.rangeSize i j c).toNat)) else R.no) = _
  rw [if_pos b, e]
  rfl
theorem ev_neLI {ns ms : List Int} (h1 : ns.length < 1000000) (h2 : ms.length < 1000000) : neD (.list (ns.map .int)) (.list (ms.map .int)) = some (.bool (!decide (ns = ms))) := by
  rw [neD_ok (shp_low (k := 1) (low_ln h1)) (shp_low (k := 1) (low_ln h2)), PyData.eqv, eqv_ints]
theorem at_ints {ms : List Int} (h0 : 0 ≤ i) (h1 : i < ms.length) : ∃ z ∈ ms, ms[i.toNat]? = some z ∧ atI (ms.map PyData.int) i = some (.int z) := by
  have hk : i.toNat < ms.length := by omega
  refine ⟨ms[i.toNat], List.getElem_mem hk, List.getElem?_eq_getElem hk, ?_⟩
  rw [atI_of h0 (by rw [List.length_map]; exact h1), List.getElem?_map, List.getElem?_eq_getElem hk]
  rfl
theorem f_retL {N nn : Nat} {m : Ev → Out} {ds xs : List D} (hl : ds.length = nn) (h : m (startE N ds) = .ret (.list xs)) : bodyL N nn m ds = .ok (.list xs) := by
  unfold bodyL
  rw [f_ret hl h]
  rfl
/-! points -/
abbrev Pt := Int × Int
def pt (p : Pt) : D := .tuple [.int p.1, .int p.2]
theorem at_pts {C : List Pt} (h0 : 0 ≤ i) (h1 : i < C.length) : ∃ p ∈ C, C[i.toNat]? = some p ∧ atI (C.map pt) i = some (pt p) := by
  have hk : i.toNat < C.length := by omega
  refine ⟨C[i.toNat], List.getElem_mem hk, List.getElem?_eq_getElem hk, ?_⟩
  rw [atI_of h0 (by rw [List.length_map]; exact h1), List.getElem?_map, List.getElem?_eq_getElem hk]
  rfl
theorem low_pt (p : Pt) (k : Nat) : lowD (k + 1) (pt p) := ⟨by simp, fun x hx => by
  rcases List.mem_cons.mp hx with rfl | hx
  · cases k <;> trivial
  · rw [List.mem_singleton.mp hx]; cases k <;> trivial⟩
theorem low_pts {C : List Pt} (h : C.length < 1000000) (k : Nat) : lowD (k + 2) (.list (C.map pt)) := ⟨by rw [List.length_map]; exact h, fun x hx => by
  obtain ⟨p, _, rfl⟩ := List.mem_map.mp hx
  exact low_pt p k⟩
theorem pt_inj {p q : Pt} : pt p = pt q ↔ p = q := ⟨fun h => by unfold pt at h; cases p; cases q; simp at h; simp [h], fun h => by rw [h]⟩
theorem eqv_pt {p q : Pt} : PyData.eqv (pt p) (pt q) = decide (p = q) := by
  have := eqv_ints (ns := [p.1, p.2]) (ms := [q.1, q.2])
  unfold pt
  rw [PyData.eqv]
  refine this.trans ?_
  cases p; cases q
  simp
theorem ev_eqPt {p q : Pt} : eqD (pt p) (pt q) = some (.bool (decide (p = q))) := by rw [eqD_ok (shp_low (k := 1) (low_pt p 0)) (shp_low (k := 1) (low_pt q 0)), eqv_pt]
theorem ev_nePt {p q : Pt} : neD (pt p) (pt q) = some (.bool (!decide (p = q))) := by rw [neD_ok (shp_low (k := 1) (low_pt p 0)) (shp_low (k := 1) (low_pt q 0)), eqv_pt]
theorem ix_pt0 {p : Pt} : ixD (pt p) (.int 0) = .ok (.int p.1) := by simp [pt]
theorem ix_pt1 {p : Pt} : ixD (pt p) (.int 1) = .ok (.int p.2) := by simp [pt]
/-- small enough to be multiplied -/
def okP (p : Pt) : Prop := -1000000000 ≤ p.1 ∧ p.1 ≤ 1000000000 ∧ -1000000000 ≤ p.2 ∧ p.2 ≤ 1000000000
/-! comprehensions over a mapped list -/
theorem comp_map {A : Type} {bt : D → Option Ev} {mt me : Ev → R} (f g : A → D) : ∀ {l : List A}, (∀ a ∈ l, ∃ ρ1, bt (f a) = some ρ1 ∧ mt ρ1 = .ok (.bool true) ∧ me ρ1 = .ok (g a)) → compD bt mt me (l.map f) = .ok (.list (l.map g))
  | [], _ => rfl
  | a :: l, k => by
    obtain ⟨ρ1, h1, h2, h3⟩ := k a (List.mem_cons_self ..)
    rw [List.map_cons, compD_c, comp_map f g fun b hb => k b (List.mem_cons_of_mem _ hb), h1, ev_ckK, h2, ev_bok, ev_ckB, if_pos rfl, h3]
    rfl
theorem comp_fil {A : Type} {bt : D → Option Ev} {mt me : Ev → R} (f g : A → D) (p : A → Bool) : ∀ {l : List A}, (∀ a ∈ l, ∃ ρ1, bt (f a) = some ρ1 ∧ mt ρ1 = .ok (.bool (p a)) ∧ (p a = true → me ρ1 = .ok (g a))) → compD bt mt me (l.map f) = .ok (.list ((l.filter p).map g))
  | [], _ => rfl
  | a :: l, k => by
    obtain ⟨ρ1, h1, h2, h3⟩ := k a (List.mem_cons_self ..)
    rw [List.map_cons, compD_c, comp_fil f g p fun b hb => k b (List.mem_cons_of_mem _ hb), h1, ev_ckK, h2, ev_bok, ev_ckB, List.filter_cons]
    by_cases q : p a = true
    · rw [if_pos q, if_pos q, h3 q]
      rfl
    · rw [if_neg q, if_neg q]
/-! slices of a list -/
theorem cut_ab {ds : List D} {a b : Nat} (h1 : a ≤ ds.length) (h2 : b ≤ ds.length) : cutD ds (some (a : Int)) (some (b : Int)) = (ds.drop a).take (b - a) := by
  unfold cutD
  rw [HT.sIx_nat, HT.sIx_nat, Nat.min_eq_left h1, Nat.min_eq_left h2]
theorem cut_a {ds : List D} {a : Nat} (h1 : a ≤ ds.length) : cutD ds (some (a : Int)) none = ds.drop a := by
  unfold cutD
  rw [HT.sIx_nat, HT.sIx_none, Nat.min_eq_left h1, List.take_of_length_le (by rw [List.length_drop]; omega)]
theorem cut_b {ds : List D} {b : Nat} (h2 : b ≤ ds.length) : cutD ds none (some (b : Int)) = ds.take b := by
  unfold cutD
  rw [HT.sIx_nat, HT.sIx_none, Nat.min_eq_left h2, List.drop_zero, Nat.sub_zero]
/-! sums -/
def sumN : Nat → (Nat → Int) → Int
  | 0, _ => 0
  | k + 1, X => sumN k X + X k
theorem sum_range (X : Nat → Int) : ∀ k : Nat, ((List.range k).map X).sum = sumN k X
  | 0 => rfl
  | k + 1 => by
    rw [List.range_succ, List.map_append, List.sum_append, sum_range X k]
    simp [sumN]
theorem sumN_add (X : Nat → Int) (a : Nat) : ∀ b : Nat, sumN (a + b) X = sumN a X + sumN b fun j => X (a + j)
  | 0 => by simp [sumN]
  | b + 1 => by
    show sumN (a + b) X + X (a + b) = sumN a X + (sumN b (fun j => X (a + j)) + X (a + b))
    rw [sumN_add X a b]
    omega
theorem sumN_congr {X Y : Nat → Int} : ∀ {k : Nat}, (∀ j, j < k → X j = Y j) → sumN k X = sumN k Y
  | 0, _ => rfl
  | k + 1, h => by
    unfold sumN
    rw [sumN_congr fun j hj => h j (by omega), h k (by omega)]
theorem sumN_rot {X : Nat → Int} {N : Nat} (h : ∀ j, X (j + N) = X j) : ∀ i : Nat, sumN N (fun j => X (i + j)) = sumN N X
  | 0 => sumN_congr fun j _ => by rw [Nat.zero_add]
  | i + 1 => by
    have e1 := sumN_add (fun j => X (i + j)) 1 N
    have e2 := sumN_add (fun j => X (i + j)) N 1
    rw [Nat.add_comm 1 N, e2] at e1
    have e3 := sumN_rot h i
    have e4 : sumN 1 (fun j => X (i + j)) = X i := by simp [sumN]
    have e5 : sumN 1 (fun j => X (i + (N + j))) = X i := by
      simp only [sumN, Nat.add_zero, Int.zero_add]
      exact h i
    rw [e4, e5, e3] at e1
    have e6 : sumN N (fun j => X (i + 1 + j)) = sumN N (fun j => X (i + (1 + j))) := sumN_congr fun j _ => by rw [Nat.add_assoc]
    rw [e6]
    omega
/-! is it in a tuple of ints -/
theorem any_ints (x : Int) : ∀ js : List Int, ((js.map PyData.int).any fun y => PyData.eqv y (.int x)) = decide (x ∈ js)
  | [] => rfl
  | j :: js => by
    rw [List.map_cons, List.any_cons, any_ints x js, PyData.eqv]
    by_cases h : x = j
    · simp [h]
    · have h' : ¬ j = x := fun z => h z.symm
      simp [h, h']
theorem flat_ints : ∀ js : List Int, (js.map PyData.int).all flatD = true
  | [] => rfl
  | j :: js => by
    rw [List.map_cons, List.all_cons, flat_ints js]
    rfl
theorem mem_intsT (neg : Bool) (x : Int) (js : List Int) : memD neg (.int x) (.tuple (js.map .int)) = some (.bool (neg != decide (x ∈ js))) := by
  show (if (flatD (.int x) && (js.map PyData.int).all flatD) = true then some (PyData.bool (neg != (js.map PyData.int).any fun y => PyData.eqv y (.int x))) else none) = _
  rw [flat_ints, if_pos (by rfl), any_ints]
theorem mem_intsL (neg : Bool) (x : Int) (js : List Int) : memD neg (.int x) (.list (js.map .int)) = some (.bool (neg != decide (x ∈ js))) := by
  show (if (flatD (.int x) && (js.map PyData.int).all flatD) = true then some (PyData.bool (neg != (js.map PyData.int).any fun y => PyData.eqv y (.int x))) else none) = _
  rw [flat_ints, if_pos (by rfl), any_ints]
theorem memT2 {neg : Bool} {x a b : Int} : memD neg (.int x) (.tuple [.int a, .int b]) = some (.bool (neg != decide (x = a ∨ x = b))) := by
  have := mem_intsT neg x [a, b]
  simpa using this
theorem memT3 {neg : Bool} {x a b c : Int} : memD neg (.int x) (.tuple [.int a, .int b, .int c]) = some (.bool (neg != decide (x = a ∨ x = b ∨ x = c))) := by
  have := mem_intsT neg x [a, b, c]
  simpa using this
/-! ways to an exception -/
variable {m m1 m2 : Ev → Out} {e mc : Ev → R} {z : Str} {d : D} {s : Nat}
theorem ox_set (h : e ρ = .ok d) (k : ∃ r, m (ρ.set s (.d d)) = .ex z r) : ∃ r, mSeq (mSet s e) m ρ = .ex z r := ⟨k.choose, o_set h k.choose_spec⟩
theorem ox_nx {ρ' : Ev} (h : m1 ρ = .nx ρ') (k : ∃ r, m ρ' = .ex z r) : ∃ r, mSeq m1 m ρ = .ex z r := ⟨k.choose, o_nx h k.choose_spec⟩
theorem ox_stop (k : ∃ r, m1 ρ = .ex z r) : ∃ r, mSeq m1 m ρ = .ex z r := ⟨k.choose, o_stopx k.choose_spec⟩
theorem ox_call (h : e ρ = .ex z) : ∃ r, mSet s e ρ = .ex z r := ⟨ρ, by show (e ρ).go ρ _ = _; rw [h]; rfl⟩
theorem ox_ret (h : e ρ = .ex z) : ∃ r, mRet e ρ = .ex z r := ⟨ρ, by show (e ρ).go ρ _ = _; rw [h]; rfl⟩
theorem ox_skip (h : mc ρ = .ok (.bool false)) (k : ∃ r, m ρ = .ex z r) : ∃ r, mSeq (mIfS mc m1 mNx) m ρ = .ex z r := ⟨k.choose, o_skip h k.choose_spec⟩
theorem ox_raise (h : mc ρ = .ok (.bool true)) : ∃ r, mSeq (mIfS mc (fun ρ => .ex z ρ) m2) m ρ = .ex z r := ⟨ρ, o_stopx (o_ifT h rfl)⟩
@[simp] theorem ev_listOf : mListOf ma ρ = (ma ρ).bind toListD := Eq.trans rfl rfl
@[simp] theorem ev_toListL {ds : List D} : toListD (.list ds) = .ok (.list ds) := Eq.trans rfl rfl
@[simp] theorem ev_toListT {ds : List D} : toListD (.tuple ds) = .ok (.list ds) := Eq.trans rfl rfl
end
end FL
/-! x in l, items of any depth, l perhaps of the frame's own -/
namespace FL
open PySem PySem.Spec PyProof.Rows L2
variable [TabNames]
section
variable {X : Cx} {K : PySem.W.Frag} {mg : Str → Option Value} {G : Gx} {pos : Pos} {a b : Expr} {ma mb : Ev → R} {ρ : Ev}
def memX (neg : Bool) (x y : D) : Option D := match y with
  | .list ys => if shp x && shp (.list ys) then some (.bool (neg != ys.any fun z => PyData.eqv z x)) else none
  | y => memD neg x y
def OpOkR (K : PySem.W.Frag) (r : R2) (f : D → D → Option D) : Prop := ∀ (S : List Addr) (H : Hp) (x y d : D) (v u : V) (Q : VK), (∀ l ∈ S, H l ≠ none) → Dp K (hide S H) v x → Bt K S H u y → f x y = some d → Post K S H d Q → r v u H Q
theorem okMemX {neg : Bool} {r r0 : R2} (h0 : ∀ S H x d v u Q, (∀ l ∈ S, H l ≠ none) → ∀ y, Dp K (hide S H) v x → Dp K (hide S H) u y → memD neg x y = some d → Post K S H d Q → r0 v u H Q)
    (hr : ∀ x y H Q, (∃ d ds, Dp K H x d ∧ Dp K H y (.list ds) ∧ SeqAt.shaped d = true ∧ SeqAt.shaped (.list ds) = true ∧ Q (.bl (neg != ds.any fun z => PyData.eqv z d)) H) → r x y H Q) : OpOkR K (fun x y H Q => r x y H Q ∨ r0 x y H Q) (memX neg) := by
  intro S H x y d v u Q hS hv hu e q
  have main : ∀ ys, y = .list ys → r v u H Q := fun ys ey => by
    subst ey
    obtain ⟨k, rfl⟩ := ok_of_if e
    rw [Bool.and_eq_true] at k
    exact hr _ _ _ _ ⟨x, ys, dp_mono hide_sub hv, hu.full, k.1, k.2, post_val q (.bl _)⟩
  rcases list_or y with ⟨ys, ey⟩ | ny
  · exact .inl (main ys ey)
  · rcases hu with hu | ⟨l, vs, ds, _, e2, _⟩
    · refine .inr (h0 S H x d v u Q hS y hv hu ?_ q)
      cases y with
      | list ys => exact absurd rfl (ny ys)
      | _ => exact e
    · exact absurd e2 (ny ds)
theorem x_cmpR {op : CmpOp} {r : R2} {f : D → D → Option D} (ho : OpR X (compareOp op) r) (k : OpOkR X.K r f) (ha : XE X G a ma) (hb : XB X G b mb) (hm : behindInMarks op b = false := by exact nomark _) : XE X G (.Compare a [op] [b] pos) (mBin f ma mb) :=
  ⟨fun ρ => (pe_cmpR ho (ha.pe ρ) (PE.mk fun pins s σ H Q I h => (hb.pe ρ).run pins s σ H Q I h) hm).imp fun σ H Q ⟨H0, S0, S, env, h⟩ => tE_bind env h fun d H1 v _ x1 hv h1 => tB_bind (env.mono x1) h1 fun d2 H2 u _ x2 hu h2 => by
    obtain ⟨z, e, q⟩ := of_some h2
    exact k S H2 d d2 z v u Q ((env.mono x1).mono x2).sH (dp_mono (hide_mono x2) hv) hu e q⟩
theorem x_inX (hu : X.A.units + 65 < cLine) (ha : XE X G a ma) (hb : XB X G b mb) (hm : behindInMarks .In b = false := by first | exact nomark _ | rfl) : XE X G (.Compare a [.In] [b] pos) (mBin (memX false) ma mb) :=
  x_cmpR ((op_inD hu).or (op_in_seq.or op_in_str)) (okMemX (fun S H x d v u Q hS y hv hu e q => okMem (neg := false) (r := rInS) (fun x y H Q ⟨i, j, h1, h2, q⟩ => ⟨i, j, h1, h2, by simpa using q⟩) S H x y d v u Q hS hv hu e q) fun x y H Q ⟨d, ds, h1, h2, h3, h4, q⟩ => ⟨d, ds, h1, h2, h3, h4, by simpa using q⟩) ha hb hm
theorem x_niX (hu : X.A.units + 65 < cLine) (ha : XE X G a ma) (hb : XB X G b mb) (hm : behindInMarks .NotIn b = false := by first | exact nomark _ | rfl) : XE X G (.Compare a [.NotIn] [b] pos) (mBin (memX true) ma mb) :=
  x_cmpR ((op_notInD hu).or (op_notIn_seq.or op_notin_str)) (okMemX (fun S H x d v u Q hS y hv hu e q => okMem (neg := true) (r := rNiS) (fun x y H Q ⟨i, j, h1, h2, q⟩ => ⟨i, j, h1, h2, by simpa using q⟩) S H x y d v u Q hS hv hu e q) fun x y H Q ⟨d, ds, h1, h2, h3, h4, q⟩ => ⟨d, ds, h1, h2, h3, h4, by simpa using q⟩) ha hb hm
theorem units65 {k : Nat} {A : Around} (r : Room k A) : A.units + 65 < cLine := by have := r.un; omega
theorem ev_memX {neg : Bool} {x : D} {ys : List D} (h1 : shp x = true) (h2 : shp (.list ys) = true) : memX neg x (.list ys) = some (.bool (neg != ys.any fun z => PyData.eqv z x)) := if_pos (by rw [h1, h2]; rfl)
theorem any_pts (p : Pt) : ∀ C : List Pt, ((C.map pt).any fun y => PyData.eqv y (pt p)) = decide (p ∈ C)
  | [] => rfl
  | q :: C => by
    rw [List.map_cons, List.any_cons, any_pts p C, eqv_pt]
    by_cases h : p = q
    · simp [h]
    · have h' : ¬ q = p := fun z => h z.symm
      simp [h, h']
theorem mem_pts (neg : Bool) (p : Pt) (C : List Pt) (h : C.length < 1000000) : memX neg (pt p) (.list (C.map pt)) = some (.bool (neg != decide (p ∈ C))) := by
  rw [ev_memX (shp_low (k := 1) (low_pt p 0)) (shp_low (k := 2) (low_pts h 0)), any_pts]
/-! the same as tests -/
theorem tOpB_of {r : R2} {f : D → D → Option D} (k : OpOkB X.K r f) {x y : R} {σ : L2.St} {H : Hp} {Q : VK} (h : tE X.K X.mg G ρ (x.bind fun x => y.bind fun y => R.of (f x y)) σ H Q) :
    tOp r (tB X.K X.mg G ρ x) (tE X.K X.mg G ρ y) σ H Q := by
  obtain ⟨H0, S0, S, env, h⟩ := h
  exact tB_bind env h fun d H1 v _ x1 hv h1 => tE_bind (env.mono x1) h1 fun d2 H2 u _ x2 hu h2 => by
    obtain ⟨z, e, q⟩ := of_some h2
    exact k S H2 d d2 z v u Q ((env.mono x1).mono x2).sH (hv.mono x2) hu e q
theorem tOpR_of {r : R2} {f : D → D → Option D} (k : OpOkR X.K r f) {x y : R} {σ : L2.St} {H : Hp} {Q : VK} (h : tE X.K X.mg G ρ (x.bind fun x => y.bind fun y => R.of (f x y)) σ H Q) :
    tOp r (tE X.K X.mg G ρ x) (tB X.K X.mg G ρ y) σ H Q := by
  obtain ⟨H0, S0, S, env, h⟩ := h
  exact tE_bind env h fun d H1 v _ x1 hv h1 => tB_bind (env.mono x1) h1 fun d2 H2 u _ x2 hu h2 => by
    obtain ⟨z, e, q⟩ := of_some h2
    exact k S H2 d d2 z v u Q ((env.mono x1).mono x2).sH (dp_mono (hide_mono x2) hv) hu e q
theorem xt_eqB (hu : X.A.units + 64 < cLine) (ha : XB X G a ma) (hb : XE X G b mb) (hm : behindInMarks .Eq b = false := by exact nomark _) : XT X G (.Compare a [.Eq] [b] pos) (mBin eqD ma mb) :=
  ⟨fun ρ => (pt_cmpR (op_eqD hu) (ha.pe ρ) (hb.pe ρ) hm).imp fun σ H Q h => tT_tTest (fun Q' h' => tOpB_of okEqB h') h⟩
theorem xt_neB (hu : X.A.units + 64 < cLine) (ha : XB X G a ma) (hb : XE X G b mb) (hm : behindInMarks .NotEq b = false := by exact nomark _) : XT X G (.Compare a [.NotEq] [b] pos) (mBin neD ma mb) :=
  ⟨fun ρ => (pt_cmpR (op_neD hu) (ha.pe ρ) (hb.pe ρ) hm).imp fun σ H Q h => tT_tTest (fun Q' h' => tOpB_of okNeB h') h⟩
theorem okInX : OpOkR X.K (fun x y H Q => rInD X.K x y H Q ∨ (rIn X.K false x y H Q ∨ rInS x y H Q)) (memX false) := okMemX (fun S H x d v u Q hS y hv hu e q => okMem (neg := false) (r := rInS) (fun x y H Q ⟨i, j, h1, h2, q⟩ => ⟨i, j, h1, h2, by simpa using q⟩) S H x y d v u Q hS hv hu e q) fun x y H Q ⟨d, ds, h1, h2, h3, h4, q⟩ => ⟨d, ds, h1, h2, h3, h4, by simpa using q⟩
theorem okNiX : OpOkR X.K (fun x y H Q => rNotInD X.K x y H Q ∨ (rIn X.K true x y H Q ∨ rNiS x y H Q)) (memX true) := okMemX (fun S H x d v u Q hS y hv hu e q => okMem (neg := true) (r := rNiS) (fun x y H Q ⟨i, j, h1, h2, q⟩ => ⟨i, j, h1, h2, by simpa using q⟩) S H x y d v u Q hS hv hu e q) fun x y H Q ⟨d, ds, h1, h2, h3, h4, q⟩ => ⟨d, ds, h1, h2, h3, h4, by simpa using q⟩
theorem xt_inX (hu : X.A.units + 65 < cLine) (ha : XE X G a ma) (hb : XB X G b mb) (hm : behindInMarks .In b = false := by first | exact nomark _ | rfl) : XT X G (.Compare a [.In] [b] pos) (mBin (memX false) ma mb) :=
  ⟨fun ρ => (pt_cmpR ((op_inD hu).or (op_in_seq.or op_in_str)) (ha.pe ρ) (PE.mk fun pins s σ H Q I h => (hb.pe ρ).run pins s σ H Q I h) hm).imp fun σ H Q h => tT_tTest (fun Q' h' => tOpR_of okInX h') h⟩
theorem xt_niX (hu : X.A.units + 65 < cLine) (ha : XE X G a ma) (hb : XB X G b mb) (hm : behindInMarks .NotIn b = false := by first | exact nomark _ | rfl) : XT X G (.Compare a [.NotIn] [b] pos) (mBin (memX true) ma mb) :=
  ⟨fun ρ => (pt_cmpR ((op_notInD hu).or (op_notIn_seq.or op_notin_str)) (ha.pe ρ) (PE.mk fun pins s σ H Q I h => (hb.pe ρ).run pins s σ H Q I h) hm).imp fun σ H Q h => tT_tTest (fun Q' h' => tOpR_of okNiX h') h⟩
end
end FL
/-! formulas as data -/
namespace FL
open PySem PySem.Spec PyProof.Rows L2
variable [TabNames]
section
theorem ev_eqNil {xs : List D} (h : shp (.list xs) = true) : eqD (.list xs) (.list []) = some (.bool (decide (xs = []))) := by
  rw [eqD_ok h (by decide), PyData.eqv]
  cases xs with
  | nil => rw [PyData.eqvAll]; rfl
  | cons x r => rw [PyData.eqvAll]; simp
theorem ev_neNil {xs : List D} (h : shp (.list xs) = true) : neD (.list xs) (.list []) = some (.bool (!decide (xs = []))) := by
  rw [neD_ok h (by decide), PyData.eqv]
  cases xs with
  | nil => rw [PyData.eqvAll]; rfl
  | cons x r => rw [PyData.eqvAll]; simp
theorem ev_eqNil0 : eqD (.list []) (.list []) = some (.bool true) := ev_eqNil (by decide)
theorem ev_neNil0 : neD (.list []) (.list []) = some (.bool false) := ev_neNil (by decide)
theorem cut_t {ds : List D} {b : Int} (h : 0 ≤ b) : cutD ds none (some b) = ds.take b.toNat := by
  obtain ⟨k, rfl⟩ : ∃ k : Nat, b = k := ⟨b.toNat, by omega⟩
  unfold cutD
  rw [HT.sIx_nat, HT.sIx_none, List.drop_zero, Nat.sub_zero, Int.toNat_natCast]
  by_cases q : k ≤ ds.length
  · rw [Nat.min_eq_left q]
  · rw [Nat.min_eq_right (by omega), List.take_of_length_le (Nat.le_refl _), List.take_of_length_le (by omega)]
theorem cut_1 {x : D} {ds : List D} : cutD (x :: ds) (some 1) none = ds := by
  have := cut_a (ds := x :: ds) (a := 1) (by simp)
  simpa using this
/-! the words, and the number of what follows -/
def Wd : Nat → Str
  | 0 => "number" | 1 => "pi" | 2 => "add" | 3 => "subtract" | 4 => "times" | 5 => "divide" | 6 => "root" | 7 => "sine" | 8 => "cosine" | 9 => "exp" | 10 => "log" | 11 => "arctan" | 12 => "arcsine" | _ => "arccosine"
def ar (c : Nat) : Nat := if c = 0 then 2 else if c = 1 then 0 else if c < 6 then 2 else 1
theorem wd_cases {P : Nat → Prop} (h : P 0 ∧ P 1 ∧ P 2 ∧ P 3 ∧ P 4 ∧ P 5 ∧ P 6 ∧ P 7 ∧ P 8 ∧ P 9 ∧ P 10 ∧ P 11 ∧ P 12 ∧ P 13) : ∀ c, c < 14 → P c := by
  obtain ⟨h0, h1, h2, h3, h4, h5, h6, h7, h8, h9, h10, h11, h12, h13⟩ := h
  intro c hc
  match c, hc with
  | 0, _ => exact h0
  | 1, _ => exact h1
  | 2, _ => exact h2
  | 3, _ => exact h3
  | 4, _ => exact h4
  | 5, _ => exact h5
  | 6, _ => exact h6
  | 7, _ => exact h7
  | 8, _ => exact h8
  | 9, _ => exact h9
  | 10, _ => exact h10
  | 11, _ => exact h11
  | 12, _ => exact h12
  | 13, _ => exact h13
  | c + 14, h => omega
theorem wd_shp {c : Nat} (h : c < 14) : shp (.str (Wd c)) = true := wd_cases (P := fun c => shp (.str (Wd c)) = true) (by decide +kernel) c h
theorem wd_eqv : ∀ c, c < 14 → ∀ b, b < 14 → PyData.eqv (.str (Wd c)) (.str (Wd b)) = decide (c = b) := by
  have h : ∀ c, c < 14 → ∀ b, b < 14 → ((Wd c) == (Wd b)) = decide (c = b) := by decide +kernel
  intro c hc b hb
  rw [PyData.eqv]
  exact h c hc b hb
theorem wd_eq {c b : Nat} (h : c < 14) (h2 : b < 14) : eqD (.str (Wd c)) (.str (Wd b)) = some (.bool (decide (c = b))) := by
  rw [eqD_ok (wd_shp h) (wd_shp h2), wd_eqv c h b h2]
theorem eq_number {c : Nat} (h : c < 14) : eqD (.str (Wd c)) (.str "number") = some (.bool (decide (c = 0))) := wd_eq h (by decide : 0 < 14)
theorem eq_pi {c : Nat} (h : c < 14) : eqD (.str (Wd c)) (.str "pi") = some (.bool (decide (c = 1))) := wd_eq h (by decide : 1 < 14)
theorem memD_tup {neg : Bool} {x : Str} {ys : List D} : memD neg (.str x) (.tuple ys) = if (flatD (.str x) && ys.all flatD) = true then some (.bool (neg != ys.any fun y => PyData.eqv y (.str x))) else none := rfl
theorem mem_leaf {c : Nat} (h : c < 14) : memD false (.str (Wd c)) (.tuple [.str "number", .str "pi"]) = some (.bool (decide (c < 2))) := by
  show memD false (.str (Wd c)) (.tuple [PyData.str (Wd 0), .str (Wd 1)]) = _
  rw [memD_tup, if_pos (by rfl), List.any_cons, List.any_cons, List.any_nil, wd_eqv 0 (by decide) c h, wd_eqv 1 (by decide) c h]
  congr 2
  by_cases e0 : 0 = c
  · subst e0; rfl
  · by_cases e1 : 1 = c
    · subst e1; rfl
    · simp [e0, e1]; omega
theorem mem_leaf_n {c : Nat} (h : c < 14) : memD true (.str (Wd c)) (.tuple [.str "number", .str "pi"]) = some (.bool (!decide (c < 2))) := by
  show memD true (.str (Wd c)) (.tuple [PyData.str (Wd 0), .str (Wd 1)]) = _
  rw [memD_tup, if_pos (by rfl), List.any_cons, List.any_cons, List.any_nil, wd_eqv 0 (by decide) c h, wd_eqv 1 (by decide) c h]
  congr 2
  by_cases e0 : 0 = c
  · subst e0; rfl
  · by_cases e1 : 1 = c
    · subst e1; rfl
    · simp [e0, e1]; omega
theorem mem_pairs {c : Nat} (h : c < 14) : memD false (.str (Wd c)) (.tuple [.str "add", .str "subtract", .str "times", .str "divide"]) = some (.bool (decide (2 ≤ c ∧ c < 6))) := by
  show memD false (.str (Wd c)) (.tuple [PyData.str (Wd 2), .str (Wd 3), .str (Wd 4), .str (Wd 5)]) = _
  rw [memD_tup, if_pos (by rfl)]
  simp only [List.any_cons, List.any_nil, wd_eqv 2 (by decide) c h, wd_eqv 3 (by decide) c h, wd_eqv 4 (by decide) c h, wd_eqv 5 (by decide) c h]
  congr 2
  rw [Bool.eq_iff_iff]
  simp
  omega
theorem mem_singles {c : Nat} (h : c < 14) : memD false (.str (Wd c)) (.tuple [.str "root", .str "sine", .str "cosine", .str "exp", .str "log", .str "arctan", .str "arcsine", .str "arccosine"]) = some (.bool (decide (6 ≤ c))) := by
  show memD false (.str (Wd c)) (.tuple [PyData.str (Wd 6), .str (Wd 7), .str (Wd 8), .str (Wd 9), .str (Wd 10), .str (Wd 11), .str (Wd 12), .str (Wd 13)]) = _
  rw [memD_tup, if_pos (by rfl)]
  simp only [List.any_cons, List.any_nil, wd_eqv 6 (by decide) c h, wd_eqv 7 (by decide) c h, wd_eqv 8 (by decide) c h, wd_eqv 9 (by decide) c h, wd_eqv 10 (by decide) c h, wd_eqv 11 (by decide) c h, wd_eqv 12 (by decide) c h, wd_eqv 13 (by decide) c h]
  congr 2
  rw [Bool.eq_iff_iff]
  simp
  omega
/-- a step: which word, and the numbers behind it -/
abbrev Stp := Nat × List Int
def sd (s : Stp) : D := .tuple (.str (Wd s.1) :: s.2.map .int)
/-- it stands at place k of a formula -/
structure okS (k : Nat) (s : Stp) : Prop where
  c : s.1 < 14
  l : s.2.length = ar s.1
  q : s.1 = 0 → ∃ p q, s.2 = [p, q] ∧ 1 ≤ q
  i : 2 ≤ s.1 → ∀ a ∈ s.2, 0 ≤ a ∧ a < k
def Wf (F : List Stp) : Prop := ∀ k s, F[k]? = some s → okS k s
theorem low_sd {k : Nat} {s : Stp} (h : s.1 < 14) (hl : s.2.length ≤ 10) : ∀ m, lowD (m + 1) (sd s) := fun m => ⟨by simp; omega, fun x hx => by
  rcases List.mem_cons.mp hx with rfl | hx
  · have := wd_shp h
    cases m <;> exact this
  · obtain ⟨i, _, rfl⟩ := List.mem_map.mp hx
    cases m <;> trivial⟩
theorem ar_le (c : Nat) : ar c ≤ 2 := by unfold ar; split <;> (try split) <;> (try split) <;> omega
theorem okS.low {k : Nat} {s : Stp} (h : okS k s) (m : Nat) : lowD (m + 1) (sd s) := low_sd (k := 0) h.c (by have := h.l; have := ar_le s.1; omega) m
theorem Wf.low {F : List Stp} (h : Wf F) (hl : F.length < 1000000) (m : Nat) : ∀ x ∈ F.map sd, lowD (m + 1) x := fun x hx => by
  obtain ⟨s, hs, rfl⟩ := List.mem_map.mp hx
  obtain ⟨k, hk, e⟩ := List.mem_iff_getElem.mp hs
  exact (h k s (by rw [List.getElem?_eq_getElem hk, e])).low m
theorem Wf.lowT {F : List Stp} (h : Wf F) (hl : F.length < 1000000) (m : Nat) : lowD (m + 2) (.tuple (F.map sd)) := ⟨by rw [List.length_map]; exact hl, h.low hl m⟩
theorem Wf.lowL {F : List Stp} (h : Wf F) (hl : F.length < 1000000) (m : Nat) : lowD (m + 2) (.list (F.map sd)) := ⟨by rw [List.length_map]; exact hl, h.low hl m⟩
theorem okS.mono {j k : Nat} {s : Stp} (h : okS j s) (q : j ≤ k) : okS k s := ⟨h.c, h.l, h.q, fun z a ha => by have := h.i z a ha; omega⟩
theorem Wf.app {F : List Stp} {s : Stp} (h : Wf F) (hs : okS F.length s) : Wf (F ++ [s]) := fun k t e => by
  by_cases q : k < F.length
  · rw [List.getElem?_append_left q] at e
    exact h k t e
  · rw [List.getElem?_append_right (by omega)] at e
    by_cases q2 : k = F.length
    · subst q2
      simp at e
      exact e ▸ hs
    · rw [List.getElem?_eq_none (by simp; omega)] at e
      cases e
theorem Wf.nil : Wf [] := fun k s e => by simp at e
/-- a step of one word -/
theorem okS.shape {k : Nat} {s : Stp} (h : okS k s) : (∃ p q, s = (0, [p, q]) ∧ 1 ≤ q) ∨ s = (1, []) ∨ (∃ c i j, 2 ≤ c ∧ c < 6 ∧ s = (c, [i, j]) ∧ 0 ≤ i ∧ i < k ∧ 0 ≤ j ∧ j < k) ∨ (∃ c i, 6 ≤ c ∧ c < 14 ∧ s = (c, [i]) ∧ 0 ≤ i ∧ i < k) := by
  obtain ⟨c, as⟩ := s
  obtain ⟨h1, h2, h3, h4⟩ := h
  simp only at h1 h2 h3 h4
  have o2 : ¬ c = 0 → ¬ c = 1 → 2 ≤ c := fun a b => by clear h3 h4; omega
  have o6 : ¬ c < 6 → 6 ≤ c := fun a => by clear h3 h4; omega
  by_cases e0 : c = 0
  · obtain ⟨p, q, e, hq⟩ := h3 e0
    exact .inl ⟨p, q, by rw [e0, e], hq⟩
  · by_cases e1 : c = 1
    · subst e1
      rw [List.eq_nil_of_length_eq_zero h2]
      exact .inr (.inl rfl)
    · by_cases e6 : c < 6
      · have : ar c = 2 := by unfold ar; rw [if_neg e0, if_neg e1, if_pos e6]
        rw [this] at h2
        match as, h2 with
        | [i, j], _ =>
          have a1 := h4 (o2 e0 e1) i (by simp)
          have a2 := h4 (o2 e0 e1) j (by simp)
          exact .inr (.inr (.inl ⟨c, i, j, o2 e0 e1, e6, rfl, a1.1, a1.2, a2.1, a2.2⟩))
      · have : ar c = 1 := by unfold ar; rw [if_neg e0, if_neg e1, if_neg e6]
        rw [this] at h2
        match as, h2 with
        | [i], _ =>
          have a1 := h4 (o2 e0 e1) i (by simp)
          exact .inr (.inr (.inr ⟨c, i, o6 e6, h1, rfl, a1.1, a1.2⟩))
end
end FL
/-! enumerate of a tuple, zip -/
namespace FL
open PySem PySem.Spec PyProof.Rows L2
theorem en_meets {v : Value} {ob : Obj} {Hc : Heap → Prop} (bg : PySem.Begins v ob Hc) :
    Meets (Builtin.«enumerate.__new__» ⟨[.type "enumerate", v], []⟩) (fun _ Rk s => Hc s.heap ∧
      Rk (.ok (.ret (.ref (s.heap.push ob).objs.size)))
        { s with heap := (s.heap.push ob).push { cls := .type "enumerate", data := .fields #[.none, .bool false, .ref s.heap.objs.size, rawInt 0, .none, .none] } }) :=
  .of_wp fun pr w A Rk s hx => by
    obtain ⟨hp, g, dd, tk, os⟩ := s
    obtain ⟨hc, hx⟩ := hx
    have hsub := sub_enumerate
    have step : ∀ {A' : Around} {Ek : Value → Shared → Prop} {Qk : Value → Shared → Prop}, Qk (.ref hp.objs.size) ⟨hp.push ob, g, dd, tk, os⟩ → wpAny (model pr w) A' (pyIter v) Qk Ek ⟨hp, g, dd, tk, os⟩ :=
      fun qk => bg.iter pr w _ _ ⟨hp, g, dd, tk, os⟩ _ hc qk
    wp_walk using step
    refine wpAny_stack_any fun _ => wpAny_pure ?_
    split
    · rename_i cc _ _ _ _ _
      cases (cc == Value.type "enumerate") <;> (wp_walk using step; exact ⟨_, rfl, hx⟩)
    · wp_walk using step
      exact ⟨_, rfl, hx⟩
theorem en_call {pr : Program} {w : World} {A : Around} {Ek : Value → Shared → Prop} {s : Shared} {v : Value} {ob : Obj} {Hc : Heap → Prop} {Qk : Value → Shared → Prop} (bg : PySem.Begins v ob Hc) (hc : Hc s.heap)
    (k : ∀ hh, IsEnum hh (s.heap.objs.size + 1) s.heap.objs.size 0 .none → hh.get? s.heap.objs.size = some ob → hh.objs.size = s.heap.objs.size + 2 → (∀ b x, s.heap.get? b = some x → hh.get? b = some x) → Qk (.ref (s.heap.objs.size + 1)) { s with heap := hh }) :
    wpAny (model pr w) A (call (.type "enumerate") [v]) Qk Ek s := by
  refine callType_new F.called_enumerate (by decide) (F.typeCall_enumerate_1 _) (F.newCall_enumerate_1 _) (fun o2 => F.args_object_init_2 o2 _) F.entry_enumerate_new (en_meets bg) ⟨hc, ?_⟩
  have sz : (s.heap.push ob).objs.size = s.heap.objs.size + 1 := Heap.size_push ..
  show _ ∧ _
  rw [sz]
  have isE : IsEnum ((s.heap.push ob).push { cls := .type "enumerate", data := .fields #[.none, .bool false, .ref s.heap.objs.size, rawInt 0, .none, .none] }) (s.heap.objs.size + 1) s.heap.objs.size 0 .none := by
    have z := Heap.get?_push_size (s.heap.push ob) (o := { cls := .type "enumerate", data := .fields #[.none, .bool false, .ref s.heap.objs.size, rawInt 0, .none, .none] }) rfl
    rw [sz] at z
    exact z
  exact ⟨⟨_, isE, rfl⟩, k _ isE (Heap.get?_push_of_some _ (Heap.get?_push_size _ bg.free)) (by rw [Heap.size_push, sz]) fun b x y => Heap.get?_push_of_some _ (Heap.get?_push_of_some _ y)⟩
/-- the tuple at a, each item in a new pair -/
def IteT (K : PySem.W.Frag) (a : Addr) : It :=
  ⟨fun i H => ∃ (vs : List V) (v : V), SqT K H a vs ∧ vs[i]? = some v, fun i H u H2 => ∃ T v, u = .ref T ∧ H T = none ∧ H2 = upd H T (.tup [.int (i : Nat), v]) ∧ ∀ vs, SqT K H a vs → vs[i]? = some v, fun i H => ∃ vs : List V, SqT K H a vs ∧ vs.length ≤ i⟩
theorem turn_enT {P : Program} {w : World} {K : PySem.W.Frag} {elts : List Expr} {kk : Nat} {tpos : Pos} (a e it : Addr) :
    Turn P w K (.Tuple elts kk tpos) (IteT K a) [e, it] e (fun i h => (∃ old, IsEnum h e it ((i : Nat) : Int) old) ∧ h.IsTupleIter it a i ∧ e ≠ it ∧ e ≠ a ∧ a ≠ it) where
  mem := List.mem_cons_self ..
  obj := fun i h st b hb => by
    obtain ⟨⟨old, h1⟩, ⟨o, h2, _, h3⟩, _⟩ := st
    rcases List.mem_cons.mp hb with rfl | hb
    · exact ⟨_, h1, fun v q => nomatch q⟩
    · rw [List.mem_singleton.mp hb]
      exact ⟨o, h2, fun v q => by rw [h3] at q; cases q⟩
  keep := fun i h h2 st k => ⟨⟨st.1.choose, k e (List.mem_cons_self ..) _ st.1.choose_spec⟩, st.2.1.at fun o q => k it (by simp) o q, st.2.2⟩
  item := by
    intro X eP ew eK hc i pn s σ H Ek I hf st hg
    subst eP ew eK
    obtain ⟨⟨old, isE⟩, hit, ne1, ne2, ne3⟩ := st
    obtain ⟨vs, v, hq, hv⟩ := hg
    obtain ⟨its, rv, pt, _⟩ := I.tuple hq
    obtain ⟨u, hu, ru⟩ := rv.get hv
    have le : e < s.heap.objs.size := Heap.lt_size isE
    have li : it < s.heap.objs.size := by obtain ⟨_, q, _⟩ := hit; exact Heap.lt_size q
    have hil : i < its.toArray.size := by
      have := (List.getElem?_eq_some_iff.mp hu).1
      simpa using this
    have Dr := Draws.tuple (prog := X.prog) (w := X.w) (A := X.A.in1) (I.ok.hd hc) it a ne3 its.toArray
    refine wpAny_pyNext_enum_itemD Dr isE ⟨hit, pt⟩ hil ne1 (fun z => ?_) fun y h2 tk hy ho st2 hT hs hk => ?_
    · rcases List.mem_cons.mp z with z | z
      · exact ne1 z
      · exact ne2 (List.mem_singleton.mp z)
    have ey : y = u := by
      have hy' : its[i]? = some y := by simpa using hy
      rw [hu] at hy'
      exact (Option.some.inj hy').symm
    subst ey
    refine ⟨_, rfl, wpAny_letOwnedTupleGo_enum (s := { s with heap := h2, toks := tk + 1 }) ho fun h3 isE3 sb => ?_⟩
    have nT : s.heap.objs.size ≠ e := Nat.ne_of_gt le
    have hT3 : h3.get? s.heap.objs.size = some { cls := .type "tuple", data := .seq #[.int i tk, y] } := (sb.2 _ nT).trans hT
    have ok3 : ObjOk X.prog X.w (upd H s.heap.objs.size (.tup [.int (i : Nat), v])) h3 s.heap.objs.size (.tup [.int (i : Nat), v]) :=
      ⟨show 2 ≤ sizeLine by decide, [.int i tk, y], .cons ⟨_, rfl⟩ (.cons ru .nil), ⟨_, hT3, rfl, _, rfl⟩⟩
    have I3 : Inv X pn σ (upd H s.heap.objs.size (.tup [.int (i : Nat), v])) { s with heap := h3, toks := tk + 1 } :=
      I.turnedNew (t' := tk + 1) (ch := [e, it]) (fun b x nb q => (sb.2 b fun z => nb (z ▸ List.mem_cons_self ..)).trans (hk b x (fun z => nb (z ▸ List.mem_cons_self ..)) (fun z => nb (by rw [z]; simp)) q)) hf (Nat.le_refl _) ok3
    refine ⟨.ref s.heap.objs.size, _, I3, rfl, ⟨_, v, rfl, I.hok.fresh (Nat.le_refl _), rfl, fun ws hw => by rw [I.tuple_inj hw hq]; exact hv⟩, ⟨⟨y, ?_⟩, st2.1.at fun x q => (sb.2 it (Ne.symm ne1)).trans q, ne1, ne2, ne3⟩, fun b hb => ?_⟩
    · rw [show ((i + 1 : Nat) : Int) = (i : Int) + 1 from rfl]
      exact isE3
    · have lb : b < s.heap.objs.size := by
        rcases List.mem_cons.mp hb with z | z
        · rw [z]; exact le
        · rw [List.mem_singleton.mp z]; exact li
      rw [upd_ne (Nat.ne_of_lt lb)]
      exact (hf b hb).1
  done := by
    intro X eP ew eK hc i pn s σ H Ek I hf st hg
    subst eP ew eK
    obtain ⟨⟨old, isE⟩, hit, ne1, ne2, ne3⟩ := st
    obtain ⟨vs, hq, hl⟩ := hg
    obtain ⟨its, rv, pt, _⟩ := I.tuple hq
    have le := rv.length
    have fz := hf it (by simp)
    have hT : s.TypeIs (.ref e) "enumerate" := ⟨_, isE, rfl⟩
    unfold pyNext
    refine wpAny_bind (wpAny_attempt (wpAny_callSpecial?_slot (name := Str.ofString "__next__") hT F.slot_enumerate_next (wpAny_call_entry F.slot_enumerate_next hT F.entry_enumerate_next ?_ (F.args_enumerate_next_1 _))))
    show wpAny _ _ (field (.ref e) 2 >>= _) _ _ _
    refine wpAny_bind (wpAny_field isE rfl (x := .ref it) rfl ?_)
    refine wpAny_bind (wpAny_nextOf_tuple_end (I.ok.hd hc) hit pt (by simp; omega) fun h2 x eb hx => ?_)
    obtain ⟨o, ho, hcl⟩ := hx
    refine wpAny_bind (wpAny_isInstance (T := "StopIteration") (b := true) ⟨o, ho, hcl⟩ isSubtype_stop ?_)
    exact wpAny_pure ⟨rfl, I.turned (t' := s.toks) (fun b y nb q => eb b y nb q) fz.1 fz.2.1 fz.2.2.2.1 fz.2.2.2.2.1 fz.2.2.2.2.2⟩
  self := fun A i s Qk Ek st h => wpAny_pyIter_enum st.1.choose_spec h
/-- what enumerate is given: a list or a tuple -/
def iEnT (K : PySem.W.Frag) (ta : TA) : TI := fun σ H Rk => ta σ H fun vs H1 => ∃ a xs, vs = [.ref a] ∧ ((SqL K H1 a xs ∧ Rk (Ite K a) H1) ∨ (SqT K H1 a xs ∧ Rk (IteT K a) H1))
theorem pi_enT {X : Cx} {e : Expr} {ta : TA} {p pos tpos : Pos} {elts : List Expr} {kk : Nat} (hg : Gl X "enumerate") (hm : X.mg "enumerate" = none) (ha : PA X [e] ta) (hs : starEach [e] X.env = [(false, eval e X.env)] := by rfl) :
    PI X (.Tuple elts kk tpos) (.Call (.Name "enumerate" p) [e] [] pos) (iEnT X.K ta) := by
  refine ⟨fun pn s σ H Rk I h => Call_ (ld_blt I hg hm boot_enumerate (PyProof.Rows.callWith_type1 (thn (ha.run pos pn s σ H _ I h) fun us s1 ⟨vs, H1, I1, r1, q1⟩ => ?_) hs rfl))⟩
  obtain ⟨a, xs, rfl, q1⟩ := q1
  cases r1 with
  | cons rv rn =>
    cases rn
    cases rv
    have fr : ∀ b, b ∈ [s1.heap.objs.size + 1, s1.heap.objs.size] → FpOk X pn H1 b := fun b hb => by
      have le : s1.heap.objs.size ≤ b := by
        rcases List.mem_cons.mp hb with z | z
        · omega
        · have := List.mem_singleton.mp z; omega
      exact I1.fpOk le (I1.hok.fresh le)
    rcases q1 with ⟨hq, q⟩ | ⟨hq, q⟩
    · obtain ⟨its, rv, pl, _⟩ := I1.list hq
      exact call_enumerate_list pl.isList fun hh isE hit _ hk => wpAny_pyIter_enum isE ⟨s1.heap.objs.size + 1, [s1.heap.objs.size + 1, s1.heap.objs.size], _, _, H1, rfl, I1.kept (t' := s1.toks) hk, turn_enum a (s1.heap.objs.size + 1) s1.heap.objs.size, ⟨⟨.none, isE⟩, hit, Nat.succ_ne_self _⟩, fr, q⟩
    · obtain ⟨its, rv, pt, _⟩ := I1.tuple hq
      obtain ⟨oa, ha', _⟩ := id pt
      have la : a < s1.heap.objs.size := Heap.lt_size ha'
      have hpt : (fun h : Heap => h.IsTuple a its.toArray) s1.heap := pt
      have n1 : s1.heap.objs.size + 1 ≠ a := Nat.ne_of_gt (Nat.lt_succ_of_lt la)
      have n2 : a ≠ s1.heap.objs.size := Nat.ne_of_lt la
      refine en_call (Hc := fun h : Heap => h.IsTuple a its.toArray) (PySem.begins_tuple a its.toArray) hpt fun hh isE hit _ hk => ?_
      have hti : hh.IsTupleIter s1.heap.objs.size a 0 := ⟨_, hit, rfl, rfl⟩
      exact  wpAny_pyIter_enum isE ⟨s1.heap.objs.size + 1, [s1.heap.objs.size + 1, s1.heap.objs.size], _, _, H1, rfl, I1.kept (t' := s1.toks) hk, turn_enT a (s1.heap.objs.size + 1) s1.heap.objs.size, ⟨⟨.none, isE⟩, hti, Nat.succ_ne_self _, n1, n2⟩, fr, q⟩
end FL
/-! enumerate and zip, of lists and of tuples -/
namespace FL
open PySem PySem.Spec PyProof.Rows L2
variable [TabNames]
section
variable {X : Cx} {K : PySem.W.Frag} {mg : Str → Option Value} {G : Gx} {pos : Pos} {a b e : Expr} {ma ms : Ev → R} {ρ : Ev}
theorem walk_enT {p : Addr} {xs : List V} : Walk (IteT K p) xs.length (fun H => SqT K H p xs) (YPair (fun i => some (.int (i : Nat))) (fun i => xs[i]?)) := by
  refine ⟨fun i _ hi q => ⟨xs, xs[i], q, List.getElem?_eq_getElem hi⟩, fun _ q => ⟨xs, q, Nat.le_refl _⟩, fun i H u H2 _ q y => ?_⟩
  obtain ⟨T, v, h1, h2, h3, h4⟩ := y
  exact ⟨T, .int (i : Nat), v, h1, h2, h3, rfl, h4 xs q⟩
theorem walk_zpT {p q : Addr} {xs ys : List V} {n : Nat} (hn : n = min xs.length ys.length) : Walk (RZ.ItzT K p q) n (fun H => SqT K H p xs ∧ SqT K H q ys) (YPair (fun i => xs[i]?) (fun i => ys[i]?)) := by
  refine ⟨fun i _ hi g => ⟨xs, ys, xs[i]'(by omega), ys[i]'(by omega), g.1, g.2, List.getElem?_eq_getElem _, List.getElem?_eq_getElem _⟩, fun _ g => ⟨xs, ys, g.1, g.2, by omega⟩, fun i H u H2 _ g y => ?_⟩
  obtain ⟨T, v, v2, h1, h2, h3, h4, h5⟩ := y
  exact ⟨T, v, v2, h1, h2, h3, h4 xs g.1, h5 ys g.2⟩
def enD : D → R
  | .list [.list ds] => .ok (.list (zipD (rangeD 0 ds.length) ds))
  | .list [.tuple ds] => .ok (.list (zipD (rangeD 0 ds.length) ds))
  | _ => .no
def mEn (ms : Ev → R) : Ev → R := fun ρ => (ms ρ).bind enD
theorem pairI {H : Hp} {xs : List V} {ds : List D} (k : DpAll K H xs ds) : (∀ i v, some (V.int (i : Nat)) = some v → i < xs.length → ∃ d, (rangeD 0 ds.length)[i]? = some d ∧ Dp K H v d) ∧ (∀ i v, xs[i]? = some v → i < xs.length → ∃ d, ds[i]? = some d ∧ Dp K H v d) := by
  have el := da_length k
  refine ⟨fun i v ev hi => ?_, fun i v ev hi => ?_⟩
  · cases ev
    refine ⟨.int (0 + (i : Nat)), by simp [rangeD, show i < ds.length by omega], ?_⟩
    rw [Int.zero_add]
    exact .int _
  · have hd : ds[i]? = some (ds[i]'(by omega)) := List.getElem?_eq_getElem (by omega)
    obtain ⟨w, ew, kw⟩ := da_get k hd
    rw [ev] at ew
    cases ew
    exact ⟨_, hd, kw⟩
theorem x_en {ms : Ev → R} {p tpos : Pos} {elts : List Expr} {kk : Nat} (ha : XA X G [e] ms) (hm : X.mg "enumerate" = none) (hg : Gl X "enumerate" := by rfl) (hs : starEach [e] X.env = [(false, eval e X.env)] := by rfl) :
    XI X G (.Tuple elts kk tpos) (.Call (.Name "enumerate" p) [e] [] pos) (mEn ms) :=
  ⟨fun ρ => (pi_enT hg hm (ha.pa ρ) hs).imp fun σ H Q ⟨H0, S0, S, env, h⟩ => iA_of env h (fun ds H' vs _ x hv h' => by
    cases hv with
    | nil => exact h'.elim
    | cons h1 h2 =>
      cases h2 with
      | nil =>
        cases h1 with
        | @lst l xs ds hl k => exact ⟨l, xs, rfl, .inl ⟨ex_l hide_sub hl, h' H' _ (Ex.refl _) (walkPair (walk_enum (K := X.K) (a := l) (xs := xs)) (fun H2 x2 => ex_l x2 hl) (by simp [rangeD, da_length k]) (pairI k).1 (pairI k).2)⟩⟩
        | @tup l xs ds hl k => exact ⟨l, xs, rfl, .inr ⟨ex_t hide_sub hl, h' H' _ (Ex.refl _) (walkPair (walk_enT (K := X.K) (p := l) (xs := xs)) (fun H2 x2 => ex_t x2 hl) (by simp [rangeD, da_length k]) (pairI k).1 (pairI k).2)⟩⟩
        | _ => exact h'.elim
      | cons _ _ => cases h1 <;> exact h'.elim) (fun d hd => by cases d <;> first | rfl | exact (hd _ rfl).elim)⟩
def zpD : D → R
  | .list [.list xs, .list ys] => .ok (.list (zipD xs ys))
  | .list [.tuple xs, .tuple ys] => .ok (.list (zipD xs ys))
  | _ => .no
def mZp (ms : Ev → R) : Ev → R := fun ρ => (ms ρ).bind zpD
theorem x_zp {ms : Ev → R} {p tpos : Pos} {elts : List Expr} {kk : Nat} (ha : XA X G [a, b] ms) (hm : X.mg "zip" = none) (hg : Gl X "zip" := by rfl) (hs : starEach [a, b] X.env = (false, eval a X.env) :: starEach [b] X.env := by rfl) (hpl : (backTo pos (starEach [b] X.env)).any (·.1) = false := by rfl) :
    XI X G (.Tuple elts kk tpos) (.Call (.Name "zip" p) [a, b] [] pos) (mZp ms) :=
  ⟨fun ρ => (RZ.pi_zipA hg hm (ha.pa ρ) hs hpl).imp fun σ H Q ⟨H0, S0, S, env, h⟩ => iA_of env h (fun ds H' vs _ x hv h' => by
    cases hv with
    | nil => exact h'.elim
    | cons h1 h2 =>
      cases h2 with
      | nil => cases h1 <;> exact h'.elim
      | cons h2 h3 =>
        cases h3 with
        | cons _ _ => cases h1 <;> cases h2 <;> exact h'.elim
        | nil =>
          cases h1 with
          | @lst l xs ds hl k =>
            cases h2 with
            | @lst l2 ys es hl2 k2 =>
              have e1 := da_length k
              have e2 := da_length k2
              exact ⟨l, l2, xs, ys, rfl, .inl ⟨ex_l hide_sub hl, ex_l hide_sub hl2, h' H' _ (Ex.refl _) (walkPair (walk_zip (K := X.K) (a := l) (b := l2) (xs := xs) (ys := ys) rfl) (fun H2 x2 => ⟨ex_l x2 hl, ex_l x2 hl2⟩) (by rw [e1, e2]) (fun i v ev hi => (pairI k).2 i v ev (by omega)) (fun i v ev hi => (pairI k2).2 i v ev (by omega)))⟩⟩
            | _ => exact h'.elim
          | @tup l xs ds hl k =>
            cases h2 with
            | @tup l2 ys es hl2 k2 =>
              have e1 := da_length k
              have e2 := da_length k2
              exact ⟨l, l2, xs, ys, rfl, .inr ⟨ex_t hide_sub hl, ex_t hide_sub hl2, h' H' _ (Ex.refl _) (walkPair (walk_zpT (K := X.K) (p := l) (q := l2) (xs := xs) (ys := ys) rfl) (fun H2 x2 => ⟨ex_t x2 hl, ex_t x2 hl2⟩) (by rw [e1, e2]) (fun i v ev hi => (pairI k).2 i v ev (by omega)) (fun i v ev hi => (pairI k2).2 i v ev (by omega)))⟩⟩
            | _ => exact h'.elim
          | _ => cases h2 <;> exact h'.elim) (fun d hd => by cases d <;> first | rfl | exact (hd _ rfl).elim)⟩
@[simp] theorem ev_en : mEn ma ρ = (ma ρ).bind enD := Eq.trans rfl rfl
@[simp] theorem ev_zp : mZp ma ρ = (ma ρ).bind zpD := Eq.trans rfl rfl
@[simp] theorem ev_enDL {ds : List D} : enD (.list [.list ds]) = .ok (.list (zipD (rangeD 0 ds.length) ds)) := Eq.trans rfl rfl
@[simp] theorem ev_enDT {ds : List D} : enD (.list [.tuple ds]) = .ok (.list (zipD (rangeD 0 ds.length) ds)) := Eq.trans rfl rfl
@[simp] theorem ev_zpDL {xs ys : List D} : zpD (.list [.list xs, .list ys]) = .ok (.list (zipD xs ys)) := Eq.trans rfl rfl
@[simp] theorem ev_zpDT {xs ys : List D} : zpD (.list [.tuple xs, .tuple ys]) = .ok (.list (zipD xs ys)) := Eq.trans rfl rfl
end
end FL
/-! chains of three, calls as statements, lists joined and split into lists of the frame's own, index of a tuple of texts, pop(k) -/
namespace FL
open PySem PySem.Spec PyProof.Rows L2
variable [TabNames]
section
variable {X : Cx} {K : PySem.W.Frag} {mg : Str → Option Value} {G : Gx} {pos : Pos} {a b c d e o : Expr} {ma mb mc md mo mk : Ev → R} {ρ : Ev} {m1 m2 : Ev → Out}
/-- x op y op z op w, as a test -/
def tTri (r1 r2 r3 : R2) (ta tb tc td : TE) : TT := fun σ H Q => ta σ H fun x H1 => tb σ H1 fun y H2 => r1 x y H2 fun z H3 => ∃ k, z = .bl k ∧ (if k = true then tc σ H3 fun w H4 => r2 y w H4 fun z2 H5 => ∃ k2, z2 = .bl k2 ∧ (if k2 = true then td σ H5 fun u H6 => r3 w u H6 fun z3 H7 => ∃ k3, z3 = .bl k3 ∧ Q k3 H7 else Q false H5) else Q false H3)
theorem pt_tri {o1 o2 o3 : CmpOp} {r1 r2 r3 : R2} {ta tb tc td : TE} (h1 : OpR X (compareOp o1) r1) (h2 : OpR X (compareOp o2) r2) (h3 : OpR X (compareOp o3) r3) (ha : PE X a ta) (hb : PE X b tb) (hc : PE X c tc) (hd : PE X d td)
    (hm : lastMarks [o1, o2, o3] [b, c, d] = false := by with_unfolding_all rfl) : PT X (.Compare a [o1, o2, o3] [b, c, d] pos) (tTri r1 r2 r3 ta tb tc td) := by
  refine ⟨fun pn s σ H Q I h => isTrue_chain (thn (ha.run pn s σ H _ I h) fun v s1 ⟨x, H1, I1, rx, q1⟩ => test_link (thn (hb.run pn s1 σ H1 _ I1 q1) fun u s2 ⟨y, H2, I2, ry, q2⟩ =>
    thn (h1 pn s2 σ H2 x y v u _ I2 rx ry q2) fun dv s3 ⟨z, H3, I3, rz, k, ez, q3⟩ => ?_)) hm⟩
  subst ez
  cases rz
  refine wpAny_truthy_bool ?_
  cases k with
  | false => exact ite_ff ⟨H3, I3, q3⟩
  | true =>
    refine ite_tt (test_link (thn (hc.run pn s3 σ H3 _ I3 q3) fun u2 s4 ⟨w, H4, I4, rw', q4⟩ => thn (h2 pn s4 σ H4 y w u u2 _ I4 ry rw' q4) fun dv2 s5 ⟨z2, H5, I5, rz2, k2, ez2, q5⟩ => ?_))
    subst ez2
    cases rz2
    refine wpAny_truthy_bool ?_
    cases k2 with
    | false => exact ite_ff ⟨H5, I5, q5⟩
    | true =>
      refine ite_tt (test_last (thn (hd.run pn s5 σ H5 _ I5 q5) fun u3 s6 ⟨t, H6, I6, rt, q6⟩ => thn (h3 pn s6 σ H6 w t u2 u3 _ I6 rw' rt q6) fun dv3 s7 ⟨z3, H7, I7, rz3, k3, ez3, q7⟩ => ?_))
      subst ez3
      cases rz3
      exact wpAny_truthy_bool ⟨H7, I7, q7⟩
def mTri (f g h : D → D → Option D) (ma mb mc md : Ev → R) : Ev → R := fun ρ => (ma ρ).bind fun x => (mb ρ).bind fun y => (R.of (f x y)).bind fun k => match k with
  | .bool true => (mc ρ).bind fun z => (R.of (g y z)).bind fun k => match k with
    | .bool true => (md ρ).bind fun w => (R.of (h z w)).bind fun k => match k with
      | .bool k => .ok (.bool k)
      | _ => .no
    | .bool false => .ok (.bool false)
    | _ => .no
  | .bool false => .ok (.bool false)
  | _ => .no
theorem tT_E {r : R} {f : D → R} {σ : L2.St} {H H0 : Hp} {S0 S : List Addr} {Q : Bool → Hp → Prop} {Q' : VK} (env : EnvOk K G.xa H0 S0 S H σ ρ) (h : TPost mg G H σ (r.bind f) Q)
    (k : ∀ d H' v, r = .ok d → Ex H H' → Dp K (hide S H') v d → TPost mg G H' σ (f d) Q → Q' v H') : tE K mg G ρ r σ H Q' := by
  refine ⟨H0, S0, S, env, ?_⟩
  cases r with
  | ok d => exact fun H' v x hv => k d H' v rfl x hv (TPost.mono h x)
  | ex c => exact h
  | no => exact h.elim
theorem of_someT {o : Option D} {f : D → R} {H : Hp} {σ : L2.St} {Q : Bool → Hp → Prop} (h : TPost mg G H σ ((R.of o).bind f) Q) : ∃ d, o = some d ∧ TPost mg G H σ (f d) Q := by
  cases o with
  | none => exact h.elim
  | some d => exact ⟨d, rfl, h⟩
theorem xt_tri {o1 o2 o3 : CmpOp} {f g h : D → D → Option D} (k1 : Cmp X o1 f) (k2 : Cmp X o2 g) (k3 : Cmp X o3 h) (ha : XE X G a ma) (hb : XE X G b mb) (hc : XE X G c mc) (hd : XE X G d md) (hm : lastMarks [o1, o2, o3] [b, c, d] = false := by with_unfolding_all rfl) :
    XT X G (.Compare a [o1, o2, o3] [b, c, d] pos) (mTri f g h ma mb mc md) := by
  obtain ⟨r1, h1, q1⟩ := k1.ex
  obtain ⟨r2, h2, q2⟩ := k2.ex
  obtain ⟨r3, h3, q3⟩ := k3.ex
  refine ⟨fun ρ => (pt_tri h1 h2 h3 (ha.pe ρ) (hb.pe ρ) (hc.pe ρ) (hd.pe ρ) hm).imp fun σ H Q ⟨H0, S0, S, env, w⟩ => ?_⟩
  refine tT_E env w fun x H1 v _ x1 hx w1 => tT_E (env.mono x1) w1 fun y H2 u _ x2 hy w2 => ?_
  have e2 := (env.mono x1).mono x2
  obtain ⟨z, ez, w3⟩ := of_someT w2
  refine q1 S H2 x y z v u _ e2.sH (dp_mono (hide_mono x2) hx) hy ez fun H3 zv x3 hz => ?_
  cases hz with
  | bl k =>
    refine ⟨k, rfl, ?_⟩
    cases k with
    | false => exact iteF (w3 H3 x3)
    | true =>
      refine iteT (tT_E (e2.mono x3) (TPost.mono w3 x3) fun p H4 u2 _ x4 hp w4 => ?_)
      have e4 := (e2.mono x3).mono x4
      obtain ⟨z2, ez2, w5⟩ := of_someT w4
      refine q2 S H4 y p z2 u u2 _ e4.sH (dp_mono (hide_mono (x3.trans x4)) hy) hp ez2 fun H5 zv2 x5 hz2 => ?_
      cases hz2 with
      | bl k2 =>
        refine ⟨k2, rfl, ?_⟩
        cases k2 with
        | false => exact iteF (w5 H5 x5)
        | true =>
          refine iteT (tT_E (e4.mono x5) (TPost.mono w5 x5) fun t H6 u3 _ x6 ht w6 => ?_)
          have e6 := (e4.mono x5).mono x6
          obtain ⟨z3, ez3, w7⟩ := of_someT w6
          refine q3 S H6 p t z3 u2 u3 _ e6.sH (dp_mono (hide_mono (x5.trans x6)) hp) ht ez3 fun H7 zv3 x7 hz3 => ?_
          cases hz3 with
          | bl k3 => exact ⟨k3, rfl, w7 H7 x7⟩
          | _ => exact w7.elim
      | _ => exact w5.elim
  | _ => exact w3.elim
def triK (h : D → D → Option D) (r : R) (z : D) (k : D) : R := match k with
  | .bool true => r.bind fun w => (R.of (h z w)).bind fun k => match k with
    | .bool k => .ok (.bool k)
    | _ => .no
  | .bool false => .ok (.bool false)
  | _ => .no
@[simp] theorem ev_tri {p q t : Int → Int → Bool} {x y z w : Int} (h1 : ma ρ = .ok (.int x)) (h2 : mb ρ = .ok (.int y)) (h3 : mc ρ = .ok (.int z)) (h4 : md ρ = .ok (.int w)) :
    mTri (cmpI p) (cmpI q) (cmpI t) ma mb mc md ρ = .ok (.bool (p x y && (q y z && t z w))) := by
  unfold mTri
  rw [h1, h2, h3, h4]
  simp only [ev_bok, ev_cmpI, ev_ofs]
  cases p x y <;> cases q y z <;> rfl
/-- a call for nothing but its errors -/
def mDo (me : Ev → R) : Ev → Out := fun ρ => (me ρ).go ρ fun _ => .nx ρ
theorem s_do (h : XE X G e ma) (hs : swapsWith e none pos.line X.env = pure false := by rfl) : XS X G (.Expr e pos) (mDo ma) := ⟨fun ρ => (ps_expr (h.pe ρ) hs).imp fun Dn σ H ⟨H0, S0, S, env, w⟩ =>
  go_tE env w fun d H' v _ x hv w' => w' σ S H' (env.mono x)⟩
@[simp] theorem ev_do : mDo ma ρ = (ma ρ).go ρ fun _ => .nx ρ := Eq.trans rfl rfl
/-- a new list of two -/
def addL : D → D → R
  | .list xs, .list ys => if xs.length + ys.length ≤ sizeLine then .ok (.list (xs ++ ys)) else .no
  | _, _ => .no
def mAddL (ma mb : Ev → R) : Ev → R := fun ρ => (ma ρ).bind fun x => (mb ρ).bind fun y => addL x y
@[simp] theorem ev_addLL : mAddL ma mb ρ = (ma ρ).bind fun x => (mb ρ).bind fun y => addL x y := Eq.trans rfl rfl
@[simp] theorem ev_addL2 {xs ys : List D} (h : xs.length + ys.length ≤ sizeLine) : addL (.list xs) (.list ys) = .ok (.list (xs ++ ys)) := if_pos h
theorem lpost_if {S : List Addr} {H : Hp} {σ : L2.St} {Q : VK} {p : Prop} [Decidable p] {r : R} (h : LPost K mg G S H σ (if p then r else .no) Q) : p ∧ LPost K mg G S H σ r Q := by
  by_cases z : p
  · rw [if_pos z] at h; exact ⟨z, h⟩
  · rw [if_neg z] at h; exact h.elim
theorem lE_of {r : R} {f : D → R} {σ : L2.St} {H H0 : Hp} {S0 S : List Addr} {Q Q' : VK} (env : EnvOk K G.xa H0 S0 S H σ ρ) (h : LPost K mg G S H σ (r.bind f) Q)
    (k : ∀ d H' v, r = .ok d → Ex H H' → Dp K (hide S H') v d → LPost K mg G S H' σ (f d) Q → Q' v H') : tE K mg G ρ r σ H Q' := by
  refine ⟨H0, S0, S, env, ?_⟩
  cases r with
  | ok d => exact fun H' v x hv => k d H' v rfl x hv (LPost.mono' h x)
  | ex c => exact h
  | no => exact h.elim
theorem Bt.lists {S : List Addr} {H : Hp} {v : V} {d : D} (h : Bt K S H v d) (ds : List D) (e : d = .list ds) : ∃ p vs, v = .ref p ∧ SqL K H p vs ∧ DpAll K (hide S H) vs ds := by
  subst e
  exact h.list
theorem xl_add (ha : XB X G a ma) (hb : XB X G b mb) : XL X G (.BinOp a .Add b pos) (mAddL ma mb) := ⟨fun ρ => (pe_op op_catL (PE.mk fun pins s σ H Q I h => (ha.pe ρ).run pins s σ H Q I h) (PE.mk fun pins s σ H Q I h => (hb.pe ρ).run pins s σ H Q I h)).imp fun σ H Q ⟨H0, S0, S, env, w⟩ => lB_of env w fun x H1 v x1 hx w1 => lB_of (env.mono x1) w1 fun y H2 u x2 hy w2 => by
  have e2 := (env.mono x1).mono x2
  cases x with
  | list xs =>
    cases y with
    | list ys =>
      obtain ⟨k, w3⟩ := lpost_if w2
      obtain ⟨p, vs, rfl, hp, kp⟩ := (hx.mono x2).list
      obtain ⟨q, us, rfl, hq, kq⟩ := hy.list
      exact ⟨p, q, vs, us, rfl, rfl, hp, hq, by rw [da_length kp, da_length kq]; exact k, fun t nt => w3 _ t _ nt (Ex.new nt) upd_same (da_mono (hide_fresh nt (Ex.new nt)) (da_append kp kq))⟩
    | _ => exact w2.elim
  | _ => cases y <;> exact w2.elim, fun ρ d w => by
  unfold mAddL at w
  generalize ma ρ = r at w
  generalize mb ρ = r2 at w
  cases r with
  | ok x =>
    cases r2 with
    | ok y =>
      cases x with
      | list xs =>
        cases y with
        | list ys =>
          by_cases k : xs.length + ys.length ≤ sizeLine
          · rw [show ((R.ok (.list xs)).bind fun x => (R.ok (.list ys)).bind fun y => addL x y) = _ from if_pos k] at w
            cases w
            exact ⟨_, rfl⟩
          · rw [show ((R.ok (.list xs)).bind fun x => (R.ok (.list ys)).bind fun y => addL x y) = _ from if_neg k] at w
            cases w
        | _ => cases w
      | _ => cases y <;> cases w
    | ex c => cases w
    | no => cases w
  | ex c => cases w
  | no => cases w⟩
/-- a text's parts, a new list -/
def splitL (z : Str) : D → R
  | .str y => if splitB z y then .ok (.list ((Txt.split z y).map .str)) else .no
  | _ => .no
def splK (r : R) : D → R
  | .str z => r.bind (splitL z)
  | _ => .no
def mSplit (mo ma : Ev → R) : Ev → R := fun ρ => (mo ρ).bind (splK (ma ρ))
@[simp] theorem ev_splitM : mSplit mo ma ρ = (mo ρ).bind (splK (ma ρ)) := Eq.trans rfl rfl
@[simp] theorem ev_splK {z : Str} {r : R} : splK r (.str z) = r.bind (splitL z) := Eq.trans rfl rfl
theorem ev_splitL {z y : Str} (h : splitB z y = true) : splitL z (.str y) = .ok (.list ((Txt.split z y).map .str)) := if_pos h
theorem xl_split {apos : Pos} (ho : XE X G o mo) (ha : XE X G a ma) (hs : starEach [a] X.env = [(false, eval a X.env)] := by rfl) (hbase : attributeBase o "split" X.env (eval o X.env) = eval o X.env := by rfl) (hline : (apos.endLine == pos.line) = true := by rfl) :
    XL X G (.Call (.Attribute o "split" apos) [a] [] pos) (mSplit mo ma) := ⟨fun ρ => (pe_m1 F.slot_str_split F.type_str_split mt_split (ho.pe ρ) (ha.pe ρ) hs hbase hline).imp fun σ H Q ⟨H0, S0, S, env, w⟩ => lE_of env w fun d H1 v _ x1 hv w1 => by
  cases hv with
  | str z =>
    refine ⟨⟨z, rfl⟩, lE_of (env.mono x1) w1 fun y H2 u _ x2 hu w2 => ?_⟩
    cases hu with
    | str t =>
      obtain ⟨k, w3⟩ := lpost_if w2
      have k2 := Bool.and_eq_true_iff.mp k
      exact ⟨z, t, rfl, rfl, by simpa using k2.1, of_decide_eq_true k2.2, fun p np => w3 _ p _ np (Ex.new np) upd_same (dp_strs _)⟩
    | _ => exact w2.elim
  | _ => exact w1.elim, fun ρ d w => by
  unfold mSplit at w
  generalize mo ρ = r at w
  generalize ma ρ = r2 at w
  cases r with
  | ok x =>
    cases x with
    | str z =>
      cases r2 with
      | ok y =>
        cases y with
        | str t =>
          by_cases k : splitB z t = true
          · rw [show (R.ok (.str z)).bind (splK (R.ok (.str t))) = _ from if_pos k] at w
            cases w
            exact ⟨_, rfl⟩
          · rw [show (R.ok (.str z)).bind (splK (R.ok (.str t))) = _ from if_neg k] at w
            cases w
        | _ => cases w
      | ex c => cases w
      | no => cases w
    | _ => cases w
  | ex c => cases w
  | no => cases w⟩
/-- xs.pop(k), dropped -/
def popB (n : Nat) (k : Int) : Bool := decide (0 ≤ k) && (decide (k < n) && decide (n < 1000000))
def mPopAt (i : Nat) (mk : Ev → R) : Ev → Out := fun ρ => match ρ[i]? with
  | some (.ol xs) => (mk ρ).go ρ fun k => match k with
    | .int k => if popB xs.length k then .nx (ρ.set i (.ol (xs.eraseIdx k.toNat))) else .no
    | _ => .no
  | _ => .no
theorem da_eraseIdx {H : Hp} : ∀ {vs : List V} {ds : List D} (n : Nat), DpAll K H vs ds → DpAll K H (vs.eraseIdx n) (ds.eraseIdx n)
  | _, _, _, .nil => .nil
  | _, _, 0, .cons _ t => t
  | _, _, n + 1, .cons h t => .cons h (da_eraseIdx n t)
theorem s_popAt (i : Nat) {x : Str} {p p2 p3 : Pos} (hk : XE X G b mk) (hi : X.N[i]? = some x := by rfl) (hv : Vis X.env.scope x := by first | exact Or.inl rfl | exact Or.inr (Or.inl rfl) | exact Or.inr (Or.inr rfl)) (hd : (x == ("__debug__" : Str)) = false := by decide)
    (hcd : (x == ("__classdict__" : Str)) = false := by decide) (hs : swapsWith (.Call (.Attribute (.Name x p) "pop" p2) [b] [] p3) none pos.line X.env = pure false := by rfl)
    (hfew : ((backTo p3 (starEach [b] X.env)).all (fun x => !x.1) && (backToKw p3 (keywordEach [] X.env)).all (fun x => x.1.isSome) && decide ([b].length + ([] : List Keyword).length + (if ([] : List Keyword).isEmpty then 0 else 1) < 30)) = true := by rfl)
    (hline : (p2.endLine == p3.line) = true := by rfl) (hst : starEach [b] X.env = (false, eval b X.env) :: starEach [] X.env := by rfl) (hpl : (backTo p3 (starEach [] X.env)).any (·.1) = false := by rfl) :
    XS X G (.Expr (.Call (.Attribute (.Name x p) "pop" p2) [b] [] p3) pos) (mPopAt i mk) := ⟨fun ρ => (ps_expr (pe_bm PySem.F.plainAttrs_list PySem.F.slot_list_pop PySem.F.type_list_pop mt_popAt (pe_var hi hv hd hcd) (pa_cons (hk.pe ρ) pa_nil hst) (by rfl) hfew hline hst hpl) hs).imp fun Dn σ H ⟨H0, S0, S, env, h⟩ => by
  unfold mPopAt at h
  split at h
  · rename_i xs er
    obtain ⟨l, vs, e1, lS, hl, k⟩ := own_get env er
    refine ⟨.ref l, e1, .inl ⟨rfl, _, .inl (.inl hl)⟩, go_tE env h fun d H' v _ xx hv h' => ?_⟩
    cases hv with
    | int n =>
      by_cases z : popB xs.length n = true
      · have h' : SPost X.K X.mg G H0 S0 (if popB xs.length n = true then .nx (ρ.set i (.ol (xs.eraseIdx n.toNat))) else .no) Dn := h'
        rw [if_pos z] at h'
        have z1 := Bool.and_eq_true_iff.mp z
        have z2 := Bool.and_eq_true_iff.mp z1.2
        have b0 := of_decide_eq_true z1.1
        have b1 := of_decide_eq_true z2.1
        have b2 := of_decide_eq_true z2.2
        have el := da_length k
        have hlt : n.toNat < vs.length := by omega
        exact ⟨l, vs, n, n.toNat, vs[n.toNat], rfl, rfl, xx.lst hl, by omega, by omega, by rw [seqIndex_of b0 (by omega)], List.getElem?_eq_getElem hlt, h' σ S _ ((env.mono xx).updO e1 er (da_eraseIdx n.toNat (da_mono (hide_mono xx) k)))⟩
      · have h' : SPost X.K X.mg G H0 S0 (if popB xs.length n = true then .nx (ρ.set i (.ol (xs.eraseIdx n.toNat))) else .no) Dn := h'
        rw [if_neg z] at h'
        exact h'.elim
    | _ => exact h'.elim
  · exact h.elim⟩
def popAtK (ρ : Ev) (i : Nat) (xs : List D) : D → Out
  | .int k => if popB xs.length k then .nx (ρ.set i (.ol (xs.eraseIdx k.toNat))) else .no
  | _ => .no
theorem ev_popAt {i : Nat} {xs : List D} {k : Int} (h1 : ρ[i]? = some (.ol xs)) (h2 : mk ρ = .ok (.int k)) (h3 : 0 ≤ k) (h4 : k < xs.length) (h5 : xs.length < 1000000) : mPopAt i mk ρ = .nx (ρ.set i (.ol (xs.eraseIdx k.toNat))) := by
  unfold mPopAt
  rw [h1, h2]
  exact if_pos (by unfold popB; simp [h3, h4, h5])
end
end FL
/-! index of a constant tuple of texts; a test that pops -/
namespace FL
open PySem PySem.Spec PyProof.Rows L2
variable [TabNames]
section
variable {X : Cx} {K : PySem.W.Frag} {mg : Str → Option Value} {G : Gx} {pos : Pos} {a b c d e o : Expr} {ma mb mc md mo mk : Ev → R} {ρ : Ev} {m1 m2 : Ev → Out}
/-- a module's constant tuple of texts -/
structure GlT (K : PySem.W.Frag) (mg : Str → Option Value) (x : Str) (ys : List Str) : Prop where
  ex : ∃ p, mg x = some (.ref p) ∧ (∀ H, SqT K H p (ys.map V.str)) ∧ ∃ o, K.lookup p = some o ∧ o.cls = .type "tuple" ∧ o.dict = none
def kTnd (x : Str) : Fk := fun K => match K.lookup (He.ga K x) with
  | some ⟨.type c, none, _, _⟩ => decide (c = "tuple")
  | _ => false
theorem tnd_of {h : Heap} (hX : K.In h) (hG : h.Ns mainGlobals mg) {x : Str} {ys : List Str} (c : kTup x (ys.map He.Dv.str) K = true) (c2 : kTnd x K = true) : GlT K mg x ys := by
  obtain ⟨c1, c3⟩ := He.ba (show ((He.Fa.glo x).ok K && He.tupB K x (ys.map He.Dv.str)) = true from c)
  refine ⟨⟨He.ga K x, He.glo_ok hX hG c1, fun H => ?_, ?_⟩⟩
  · have := He.tupB_ok c3 H
    rw [List.map_map] at this
    exact this
  · unfold kTnd at c2
    split at c2
    · rename_i cl dt sl e
      exact ⟨_, e, by rw [of_decide_eq_true c2], rfl⟩
    · cases c2
/-- the place of the first equal text -/
def tixD (ys : List Str) : D → R
  | .str z => R.of ((ys.findIdx? (· == z)).map fun j => .int (j : Nat))
  | _ => .no
def mTix (ys : List Str) (ma : Ev → R) : Ev → R := fun ρ => (ma ρ).bind (tixD ys)
@[simp] theorem ev_tix {ys : List Str} : mTix ys ma ρ = (ma ρ).bind (tixD ys) := Eq.trans rfl rfl
theorem x_tix {x : Str} {ys : List Str} {p apos : Pos} (g : GlT X.K X.mg x ys) (ha : XE X G a ma) (hg : Gl X x := by rfl) (hdb : (x == ("__debug__" : Str)) = false := by decide)
    (hfew : ((backTo pos (starEach [a] X.env)).all (fun x => !x.1) && (backToKw pos (keywordEach [] X.env)).all (fun x => x.1.isSome) && decide ([a].length + ([] : List Keyword).length + (if ([] : List Keyword).isEmpty then 0 else 1) < 30)) = true := by rfl)
    (hline : (apos.endLine == pos.line) = true := by rfl) (hst : starEach [a] X.env = (false, eval a X.env) :: starEach [] X.env := by rfl) (hpl : (backTo pos (starEach [] X.env)).any (·.1) = false := by rfl) :
    XE X G (.Call (.Attribute (.Name x p) "index" apos) [a] [] pos) (mTix ys ma) := by
  obtain ⟨q, hq, hs, o, h1, h2, h3⟩ := g.ex
  refine ⟨fun ρ => (pe_bm PySem.F.plainAttrs_tuple PySem.F.slot_tuple_index PySem.F.type_tuple_index mt_tup_index (pe_glob (v := .ref q) hg hq rfl hdb) (pa_cons (ha.pe ρ) pa_nil hst) (by rfl) hfew hline hst hpl).imp fun σ H Q ⟨H0, S0, S, env, w⟩ => ⟨.inr (.inl ⟨rfl, o, h1, h2, h3⟩), tE_bind env w fun d H1 v _ x1 hv w1 => ?_⟩⟩
  cases hv with
  | str z =>
    obtain ⟨d, ed, q1⟩ := of_some (show RPost X.K X.mg G S H1 σ (R.of ((ys.findIdx? (· == z)).map fun j => PyData.int (j : Nat))) Q from w1)
    rw [Option.map_eq_some_iff] at ed
    obtain ⟨j, ej, rfl⟩ := ed
    rw [List.findIdx?_eq_some_iff_getElem] at ej
    obtain ⟨hj, e1, e2⟩ := ej
    refine ⟨q, ys, z, j, rfl, rfl, hs H1, ?_, fun m hm z' => ?_, post_val q1 (.int _)⟩
    · rw [List.getElem?_eq_getElem hj]
      congr 1
      exact eq_of_beq e1
    · have hm' : m < ys.length := by omega
      rw [List.getElem?_eq_getElem hm'] at z'
      have := e2 m hm
      rw [Option.some.inj z'] at this
      exact this (by simp)
  | _ => exact w1.elim
/-- if x.pop() != c or ..: the list has lost its last item when the rest is asked -/
def mIfPop (i : Nat) (c : D) (mb : Ev → R) (m1 m2 : Ev → Out) : Ev → Out := fun ρ => match ρ[i]? with
  | some (.ol xs) => match xs.getLast? with
    | some y => match neD y c with
      | some (.bool true) => m1 (ρ.set i (.ol xs.dropLast))
      | some (.bool false) => (mb (ρ.set i (.ol xs.dropLast))).go (ρ.set i (.ol xs.dropLast)) fun x => match x with
        | .bool true => m1 (ρ.set i (.ol xs.dropLast))
        | .bool false => m2 (ρ.set i (.ol xs.dropLast))
        | _ => .no
      | _ => .no
    | none => .no
  | _ => .no
end
end FL
/-! loops that return on the way -/
namespace FL
open PySem PySem.Spec PyProof.Rows L2
section
variable {ds : List D} {bt : Ev → D → Option Ev} {m1 m : Ev → Out} {ρ : Ev} {mi : Ev → R} {o : Out}
theorem for_ret {P : Ev → Prop} {bad : Nat → Prop} {r : D} (h0 : P ρ) (hs : ∀ k ρ (hk : k < ds.length), P ρ → ∃ ρ1, bt ρ ds[k] = some ρ1 ∧ ((bad k ∧ m1 ρ1 = .ret r) ∨ (¬ bad k ∧ ∃ ρ2, (m1 ρ1 = .nx ρ2 ∨ m1 ρ1 = .ct ρ2) ∧ P ρ2))) :
    ((∃ k, k < ds.length ∧ bad k) ∧ forD bt m1 ds ρ = .ret r) ∨ ((∀ k, k < ds.length → ¬ bad k) ∧ ∃ ρ', forD bt m1 ds ρ = .nx ρ' ∧ P ρ') := by
  have main : ∀ (l : List D) (k : Nat) (ρ : Ev), k + l.length = ds.length → (∀ j (hj : j < l.length), l[j]? = ds[k + j]?) → P ρ → (∀ j, j < k → ¬ bad j) →
      ((∃ k, k < ds.length ∧ bad k) ∧ forD bt m1 l ρ = .ret r) ∨ ((∀ k, k < ds.length → ¬ bad k) ∧ ∃ ρ', forD bt m1 l ρ = .nx ρ' ∧ P ρ') := by
    intro l
    induction l with
    | nil =>
      intro k ρ e _ p nb
      have e2 : k = ds.length := by simpa using e
      subst e2
      exact .inr ⟨nb, ρ, rfl, p⟩
    | cons x l ih =>
      intro k ρ e q p nb
      have hk : k < ds.length := by simp at e; omega
      have e0 := q 0 (by simp)
      simp at e0
      have ex : x = ds[k] := by
        rw [List.getElem?_eq_getElem hk] at e0
        exact Option.some.inj e0
      obtain ⟨ρ1, h1, h2⟩ := hs k ρ hk p
      rcases h2 with ⟨hb, h3⟩ | ⟨hb, ρ2, h3, h4⟩
      · refine .inl ⟨⟨k, hk, hb⟩, ?_⟩
        unfold forD
        rw [ex, h1]
        show (match m1 ρ1 with
          | .nx ρ' => forD bt m1 l ρ'
          | .ct ρ' => forD bt m1 l ρ'
          | .bk ρ' => .nx ρ'
          | o => o) = _
        rw [h3]
      · have e4 : forD bt m1 (x :: l) ρ = forD bt m1 l ρ2 := by
          conv => lhs; unfold forD
          rw [ex, h1]
          show (match m1 ρ1 with
            | .nx ρ' => forD bt m1 l ρ'
            | .ct ρ' => forD bt m1 l ρ'
            | .bk ρ' => .nx ρ'
            | o => o) = _
          rcases h3 with h3 | h3 <;> rw [h3]
        rw [e4]
        exact ih (k + 1) ρ2 (by simp at e; omega) (fun j hj => by
          have := q (j + 1) (by simp; omega)
          simp at this
          rw [this]
          congr 1
          omega) h4 fun j hj => by
            by_cases z : j = k
            · rw [z]; exact hb
            · exact nb j (by omega)
  exact main ds 0 ρ (by simp) (fun j _ => by simp) h0 fun j hj => absurd hj (Nat.not_lt_zero j)
theorem o_forr {r : D} (h : mi ρ = .ok (.list ds)) (h2 : forD bt m1 ds ρ = .ret r) : mSeq (mFor mi bt m1) m ρ = .ret r := by
  show ((mi ρ).go ρ _).then m = _
  rw [h]
  show (forD bt m1 ds ρ).then m = _
  rw [h2]
  rfl
theorem o_forr1 {r : D} (h : mi ρ = .ok (.list ds)) (h2 : forD bt m1 ds ρ = .ret r) : mFor mi bt m1 ρ = .ret r := by
  show ((mi ρ).go ρ _) = _
  rw [h]
  exact h2
theorem o_for1 {ρ' : Ev} (h : mi ρ = .ok (.list ds)) (h2 : forD bt m1 ds ρ = .nx ρ') : mFor mi bt m1 ρ = .nx ρ' := by
  show ((mi ρ).go ρ _) = _
  rw [h]
  exact h2
end
end FL
/-! the plane: sides, turns, what two sides have in common -/
namespace FL
def crs (p q r : Pt) : Int := (q.2 - p.2) * (r.1 - p.1) - (q.1 - p.1) * (r.2 - p.2)
def btw (p q r : Pt) : Bool := decide (crs p q r = 0) && (decide ((r.1 - p.1) * (r.1 - q.1) ≤ 0) && decide ((r.2 - p.2) * (r.2 - q.2) ≤ 0))
def sgn (x : Int) : Int := (if 0 < x then 1 else 0) - (if x < 0 then 1 else 0)
def meet (p q r s : Pt) : Bool := (decide (sgn (crs p q r) * sgn (crs p q s) < 0) && decide (sgn (crs r s p) * sgn (crs r s q) < 0)) || (btw p q r || (btw p q s || (btw r s p || btw r s q)))
def meet2 (p q r s : Pt) : Bool := (btw p q r || (btw p q s || (btw r s p || btw r s q))) || ((decide (0 < crs p q r) != decide (0 < crs p q s)) && (decide (0 < crs r s p) != decide (0 < crs r s q)))
def fold (p q r : Pt) : Bool := decide (crs p q r = 0) && decide ((q.1 - p.1) * (r.1 - q.1) + (q.2 - p.2) * (r.2 - q.2) < 0)
theorem mid_iff (a b x : Int) : ((if b < a then b else a) ≤ x ∧ x ≤ (if b > a then b else a)) ↔ (x - a) * (x - b) ≤ 0 := by
  by_cases h1 : x < a
  · by_cases h2 : x < b
    · have := Int.mul_pos_of_neg_of_neg (show x - a < 0 by omega) (show x - b < 0 by omega)
      constructor
      · intro z; omega
      · intro z; omega
    · have := Int.mul_nonneg (show 0 ≤ a - x by omega) (show 0 ≤ x - b by omega)
      have e : (x - a) * (x - b) = -((a - x) * (x - b)) := by grind
      constructor
      · intro z; omega
      · intro z; omega
  · by_cases h2 : x < b
    · have := Int.mul_nonneg (show 0 ≤ x - a by omega) (show 0 ≤ b - x by omega)
      have e : (x - a) * (x - b) = -((x - a) * (b - x)) := by grind
      constructor
      · intro z; omega
      · intro z; omega
    · by_cases h3 : x = a
      · subst h3
        have e : (x - x) * (x - b) = 0 := by grind
        constructor
        · intro z; omega
        · intro z; omega
      · by_cases h4 : x = b
        · subst h4
          have e : (x - a) * (x - x) = 0 := by grind
          constructor
          · intro z; omega
          · intro z; omega
        · have := Int.mul_pos (show 0 < x - a by omega) (show 0 < x - b by omega)
          constructor
          · intro z; omega
          · intro z; omega
theorem same_sign {a u v b : Int} (h : a * v = u * b) (huv : 0 < u * v) : (0 < a ↔ 0 < b) ∧ (a < 0 ↔ b < 0) := by
  have pos : ∀ {a u v b : Int}, a * v = u * b → 0 < u → 0 < v → (0 < a → 0 < b) ∧ (a < 0 → b < 0) := by
    intro a u v b h hu hv
    refine ⟨fun ha => ?_, fun ha => ?_⟩
    · exact Int.pos_of_mul_pos_right (show 0 < u * b by rw [← h]; exact Int.mul_pos ha hv) hu
    · have h1 : 0 < (-a) * v := Int.mul_pos (by omega) hv
      have h2 : 0 < u * (-b) := by
        have : u * (-b) = (-a) * v := by grind
        omega
      have := Int.pos_of_mul_pos_right h2 hu
      omega
  by_cases hu : 0 < u
  · have hv : 0 < v := Int.pos_of_mul_pos_right huv hu
    have p1 := pos h hu hv
    have p2 := pos (a := b) (u := v) (v := u) (b := a) (by grind) hv hu
    exact ⟨⟨p1.1, p2.1⟩, ⟨p1.2, p2.2⟩⟩
  · by_cases hu0 : u = 0
    · subst hu0
      simp at huv
    · have hv : 0 < -v := Int.pos_of_mul_pos_right (show 0 < (-u) * (-v) by rw [show (-u) * (-v) = u * v by grind]; exact huv) (by omega)
      have p1 := pos (a := a) (u := -u) (v := -v) (b := b) (by grind) (by omega) hv
      have p2 := pos (a := b) (u := -v) (v := -u) (b := a) (by grind) hv (by omega)
      exact ⟨⟨p1.1, p2.1⟩, ⟨p1.2, p2.2⟩⟩
/-- r on the line of p and q, but not between them: p and q are on the same side of a line through r -/
theorem off_line {p q r : Pt} (h : crs p q r = 0) (hb : btw p q r = false) (s : Pt) : (0 < crs r s p ↔ 0 < crs r s q) ∧ (crs r s p < 0 ↔ crs r s q < 0) := by
  unfold btw at hb
  rw [decide_eq_true h, Bool.true_and] at hb
  have h2 : 0 < (r.1 - p.1) * (r.1 - q.1) ∨ 0 < (r.2 - p.2) * (r.2 - q.2) := by
    by_cases z : (r.1 - p.1) * (r.1 - q.1) ≤ 0
    · rw [decide_eq_true z, Bool.true_and] at hb
      have := of_decide_eq_false hb
      omega
    · omega
  unfold crs at *
  rcases h2 with h2 | h2
  · exact same_sign (u := p.1 - r.1) (v := q.1 - r.1) (by grind) (by rw [show (p.1 - r.1) * (q.1 - r.1) = (r.1 - p.1) * (r.1 - q.1) by grind]; exact h2)
  · exact same_sign (u := p.2 - r.2) (v := q.2 - r.2) (by grind) (by rw [show (p.2 - r.2) * (q.2 - r.2) = (r.2 - p.2) * (r.2 - q.2) by grind]; exact h2)
theorem crs_swap (p q r : Pt) : crs q p r = - crs p q r := by unfold crs; grind
theorem sgn_mul (a b : Int) : sgn a * sgn b < 0 ↔ (0 < a ∧ b < 0) ∨ (a < 0 ∧ 0 < b) := by
  unfold sgn
  by_cases a1 : 0 < a <;> by_cases a2 : a < 0 <;> by_cases b1 : 0 < b <;> by_cases b2 : b < 0 <;> simp [a1, a2, b1, b2] <;> omega
theorem meet_eq (p q r s : Pt) : meet p q r s = meet2 p q r s := by
  unfold meet meet2
  cases h1 : btw p q r with
  | true => simp
  | false =>
    cases h2 : btw p q s with
    | true => simp
    | false =>
      cases h3 : btw r s p with
      | true => simp
      | false =>
        cases h4 : btw r s q with
        | true => simp
        | false =>
          have A : crs p q r = 0 → (0 < crs r s p ↔ 0 < crs r s q) := fun z => (off_line z h1 s).1
          have B : crs p q s = 0 → (0 < crs r s p ↔ 0 < crs r s q) := fun z => by
            have := (off_line z h2 r).2
            rw [crs_swap r s, crs_swap r s] at this
            omega
          have C : crs r s p = 0 → (0 < crs p q r ↔ 0 < crs p q s) := fun z => (off_line z h3 q).1
          have D : crs r s q = 0 → (0 < crs p q r ↔ 0 < crs p q s) := fun z => by
            have := (off_line z h4 p).2
            rw [crs_swap p q, crs_swap p q] at this
            omega
          rw [Bool.eq_iff_iff]
          simp only [Bool.or_false, Bool.false_or, Bool.and_eq_true, decide_eq_true_eq, sgn_mul, bne_iff_ne, ne_eq, decide_eq_decide]
          omega
/-- two neighboring sides, told in either way -/
theorem sq_pos {v0 v1 : Int} (h : v0 ≠ 0 ∨ v1 ≠ 0) : 0 < v0 * v0 + v1 * v1 := by
  have h0 : ∀ x : Int, 0 ≤ x * x := fun x => by
    by_cases z : 0 ≤ x
    · exact Int.mul_nonneg z z
    · rw [show x * x = (-x) * (-x) by grind]
      exact Int.mul_nonneg (by omega) (by omega)
  have h1 : ∀ x : Int, x ≠ 0 → 0 < x * x := fun x z => by
    have := h0 x
    have : x * x ≠ 0 := Int.mul_ne_zero z z
    omega
  have := h0 v0
  have := h0 v1
  rcases h with h | h
  · have := h1 v0 h
    omega
  · have := h1 v1 h
    omega
theorem mul_self_nn (x : Int) : 0 ≤ x * x := by
  by_cases z : 0 ≤ x
  · exact Int.mul_nonneg z z
  · rw [show x * x = (-x) * (-x) by grind]
    exact Int.mul_nonneg (by omega) (by omega)
theorem le_of_dot {u0 u1 v0 v1 : Int} (hc : u0 * v1 = u1 * v0) (nv : v0 ≠ 0 ∨ v1 ≠ 0) (h : v0 * v0 + v1 * v1 ≤ u0 * v0 + u1 * v1) : v0 * v0 ≤ u0 * v0 ∧ v1 * v1 ≤ u1 * v1 := by
  have p := sq_pos nv
  constructor
  · refine Int.le_of_mul_le_mul_right (a := v0 * v0 + v1 * v1) ?_ p
    rw [show u0 * v0 * (v0 * v0 + v1 * v1) = v0 * v0 * (u0 * v0 + u1 * v1) by grind]
    exact Int.mul_le_mul_of_nonneg_left h (mul_self_nn v0)
  · refine Int.le_of_mul_le_mul_right (a := v0 * v0 + v1 * v1) ?_ p
    rw [show u1 * v1 * (v0 * v0 + v1 * v1) = v1 * v1 * (u0 * v0 + u1 * v1) by grind]
    exact Int.mul_le_mul_of_nonneg_left h (mul_self_nn v1)
theorem fold_iff {p q s : Pt} (h1 : p ≠ q) (h2 : q ≠ s) : fold p q s = (btw p q s || btw q s p) := by
  have e1 : crs q s p = crs p q s := by unfold crs; grind
  unfold fold btw
  rw [e1]
  by_cases h : crs p q s = 0
  · rw [decide_eq_true h]
    simp only [Bool.true_and]
    -- u from q to p, v from q to s
    have hc : (p.1 - q.1) * (s.2 - q.2) = (p.2 - q.2) * (s.1 - q.1) := by unfold crs at h; grind
    have e2 : (q.1 - p.1) * (s.1 - q.1) + (q.2 - p.2) * (s.2 - q.2) = -((p.1 - q.1) * (s.1 - q.1) + (p.2 - q.2) * (s.2 - q.2)) := by grind
    have e3 : (s.1 - p.1) * (s.1 - q.1) = (s.1 - q.1) * (s.1 - q.1) - (p.1 - q.1) * (s.1 - q.1) := by grind
    have e4 : (s.2 - p.2) * (s.2 - q.2) = (s.2 - q.2) * (s.2 - q.2) - (p.2 - q.2) * (s.2 - q.2) := by grind
    have e5 : (p.1 - q.1) * (p.1 - s.1) = (p.1 - q.1) * (p.1 - q.1) - (p.1 - q.1) * (s.1 - q.1) := by grind
    have e6 : (p.2 - q.2) * (p.2 - s.2) = (p.2 - q.2) * (p.2 - q.2) - (p.2 - q.2) * (s.2 - q.2) := by grind
    rw [e2, e3, e4, e5, e6]
    have nu : p.1 - q.1 ≠ 0 ∨ p.2 - q.2 ≠ 0 := by
      by_cases z : p.1 = q.1
      · refine .inr fun z2 => h1 (Prod.ext z (by omega))
      · exact .inl (by omega)
    have nv : s.1 - q.1 ≠ 0 ∨ s.2 - q.2 ≠ 0 := by
      by_cases z : q.1 = s.1
      · refine .inr fun z2 => h2 (Prod.ext z (by omega))
      · exact .inl (by omega)
    generalize p.1 - q.1 = u0 at *
    generalize p.2 - q.2 = u1 at *
    generalize s.1 - q.1 = v0 at *
    generalize s.2 - q.2 = v1 at *
    rw [Bool.eq_iff_iff]
    simp only [Bool.or_eq_true, Bool.and_eq_true, decide_eq_true_eq]
    have pu := sq_pos nu
    have pv := sq_pos nv
    constructor
    · intro h3
      have d : 0 < u0 * v0 + u1 * v1 := by omega
      have lag : (u0 * u0 + u1 * u1) * (v0 * v0 + v1 * v1) = (u0 * v0 + u1 * v1) * (u0 * v0 + u1 * v1) := by grind
      by_cases z : v0 * v0 + v1 * v1 ≤ u0 * v0 + u1 * v1
      · have := le_of_dot hc nv z
        left
        omega
      · have z2 : u0 * u0 + u1 * u1 ≤ u0 * v0 + u1 * v1 := by
          refine Decidable.byContradiction fun z3 => ?_
          have m1 : (u0 * v0 + u1 * v1) * (u0 * v0 + u1 * v1) < (u0 * u0 + u1 * u1) * (v0 * v0 + v1 * v1) :=
            Int.lt_of_lt_of_le (Int.mul_lt_mul_of_pos_right (show u0 * v0 + u1 * v1 < u0 * u0 + u1 * u1 by omega) d) (Int.mul_le_mul_of_nonneg_left (by omega) (by omega))
          omega
        have := le_of_dot (u0 := v0) (u1 := v1) (v0 := u0) (v1 := u1) (by grind) nu (by rw [Int.mul_comm v0, Int.mul_comm v1]; exact z2)
        rw [Int.mul_comm v0, Int.mul_comm v1] at this
        right
        omega
    · rintro (⟨h3, h4⟩ | ⟨h3, h4⟩) <;> omega
  · rw [decide_eq_false h]
    simp
end FL
/-! points in order around a middle, as plain functions -/
namespace FL
open PySem PySem.Spec PyProof.Rows L2
variable [TabNames]
abbrev Tr := Int × Int × Pt
def trD (t : Tr) : D := .tuple [.int t.1, .int t.2.1, pt t.2.2]
def okT (t : Tr) : Prop := (-1000000000000 ≤ t.1 ∧ t.1 ≤ 1000000000000) ∧ (-1000000000000 ≤ t.2.1 ∧ t.2.1 ≤ 1000000000000) ∧ okP t.2.2
/-- o stands ahead of t -/
def ahead (o t : Tr) : Bool := decide (0 < o.2.1 * t.1 - o.1 * t.2.1) || (decide (o.2.1 * t.1 - o.1 * t.2.1 = 0) && decide ((if o.1 < 0 then -o.1 else o.1) + (if o.2.1 < 0 then -o.2.1 else o.2.1) < (if t.1 < 0 then -t.1 else t.1) + (if t.2.1 < 0 then -t.2.1 else t.2.1)))
def gt (O : List Tr) (k : Nat) : Tr := O.getD k (0, 0, 0, 0)
def posN (O : List Tr) (t : Tr) : Nat → Nat
  | 0 => 0
  | k + 1 => if ahead (gt O k) t then k + 1 else posN O t k
def insT (O : List Tr) (t : Tr) : List Tr := O.take (posN O t O.length) ++ [t] ++ O.drop (posN O t O.length)
def ordT (S : List Tr) : List Tr := S.foldl insT []
def isNew (O : List Tr) (k : Nat) : Bool := decide (k = 0) || decide ((gt O k).2.1 * (gt O (k - 1)).1 ≠ (gt O k).1 * (gt O (k - 1)).2.1)
def fndN (O : List Tr) : Nat → List Pt
  | 0 => []
  | k + 1 => if isNew O k then fndN O k ++ [(gt O k).2.2] else fndN O k
def plc (C : List Pt) : List Pt := C.foldl (fun P p => if p ∈ P then P else P ++ [p]) []
def midI (P : List Pt) : Int × Int := ((P.map Prod.fst).sum, (P.map Prod.snd).sum)
def trO (P : List Pt) (p : Pt) : Tr := (p.1 * (P.length : Int) - (midI P).1, p.2 * (P.length : Int) - (midI P).2, p)
def upT (t : Tr) : Bool := decide (0 < t.1) || (decide (t.1 = 0) && decide (0 < t.2.1))
def loT (t : Tr) : Bool := !upT t && (!decide (t.1 = 0) || !decide (t.2.1 = 0))
def upL (P : List Pt) : List Tr := (P.map (trO P)).filter upT
def loL (P : List Pt) : List Tr := (P.map (trO P)).filter loT
def tri : List Pt := [(0, 0), (0, 5), (4, 1)]
def fndL (P : List Pt) : List Pt := fndN (ordT (upL P)) (ordT (upL P)).length ++ fndN (ordT (loL P)) (ordT (loL P)).length
def around (C : List Pt) : List Pt := if (plc C).length < 3 then tri else if (fndL (plc C)).length < 3 then tri else fndL (plc C)
theorem posN_le (O : List Tr) (t : Tr) : ∀ k, posN O t k ≤ k
  | 0 => Nat.le_refl _
  | k + 1 => by
    unfold posN
    split
    · omega
    · have := posN_le O t k; omega
theorem insT_len (O : List Tr) (t : Tr) : (insT O t).length = O.length + 1 := by
  have := posN_le O t O.length
  unfold insT
  rw [List.length_append, List.length_append, List.length_take, List.length_drop, List.length_singleton]
  omega
theorem insT_mem {O : List Tr} {t x : Tr} : x ∈ insT O t ↔ x = t ∨ x ∈ O := by
  unfold insT
  rw [List.mem_append, List.mem_append, List.mem_singleton]
  constructor
  · rintro ((h | h) | h)
    · exact .inr (List.mem_of_mem_take h)
    · exact .inl h
    · exact .inr (List.mem_of_mem_drop h)
  · rintro (h | h)
    · exact .inl (.inr h)
    · rw [← List.take_append_drop (posN O t O.length) O, List.mem_append] at h
      exact h.imp .inl id
theorem ord_app (S : List Tr) (t : Tr) : ordT (S ++ [t]) = insT (ordT S) t := by unfold ordT; rw [List.foldl_append]; rfl
theorem foldl_take {A : Type} {B : Type} (f : B → A → B) (b : B) (l : List A) (k : Nat) (h : k < l.length) : (l.take (k + 1)).foldl f b = f ((l.take k).foldl f b) l[k] := by
  rw [List.take_add_one, List.getElem?_eq_getElem h, Option.toList_some, List.foldl_append]
  rfl
theorem foldl_ins (b : List Tr) : ∀ S : List Tr, (S.foldl insT b).length = b.length + S.length ∧ ∀ x, x ∈ S.foldl insT b ↔ x ∈ b ∨ x ∈ S
  | [] => by simp
  | t :: S => by
    obtain ⟨h1, h2⟩ := foldl_ins (insT b t) S
    rw [List.foldl_cons, h1, insT_len]
    refine ⟨by rw [List.length_cons]; omega, fun x => ?_⟩
    rw [h2, insT_mem, List.mem_cons]
    constructor
    · rintro ((h | h) | h)
      · exact .inr (.inl h)
      · exact .inl h
      · exact .inr (.inr h)
    · rintro (h | h | h)
      · exact .inl (.inr h)
      · exact .inl (.inl h)
      · exact .inr h
theorem ordT_len (S : List Tr) : (ordT S).length = S.length := by have := (foldl_ins [] S).1; simpa [ordT] using this
theorem ordT_mem {S : List Tr} {x : Tr} : x ∈ ordT S ↔ x ∈ S := by have := (foldl_ins [] S).2 x; simpa [ordT] using this
theorem gt_mem {O : List Tr} {k : Nat} (h : k < O.length) : gt O k ∈ O := by
  unfold gt
  rw [List.getD_eq_getElem?_getD, List.getElem?_eq_getElem h]
  exact List.getElem_mem h
theorem gt_at {O : List Tr} {k : Nat} (h : k < O.length) : atI (O.map trD) (k : Int) = some (trD (gt O k)) := by
  rw [FL.atI_nat (by rw [List.length_map]; exact h)]
  unfold gt
  rw [List.getElem_map, List.getD_eq_getElem?_getD, List.getElem?_eq_getElem h]
  rfl
theorem fndN_mem {O : List Tr} : ∀ {k : Nat}, k ≤ O.length → ∀ p ∈ fndN O k, ∃ t ∈ O, t.2.2 = p
  | 0, _, p, h => by cases h
  | k + 1, hk, p, h => by
    unfold fndN at h
    split at h
    · rcases List.mem_append.mp h with h | h
      · exact fndN_mem (by omega) p h
      · rw [List.mem_singleton.mp h]
        exact ⟨_, gt_mem (by omega), rfl⟩
    · exact fndN_mem (by omega) p h
theorem fndN_len (O : List Tr) : ∀ k, (fndN O k).length ≤ k
  | 0 => Nat.le_refl _
  | k + 1 => by
    have := fndN_len O k
    unfold fndN
    split
    · rw [List.length_append, List.length_singleton]; omega
    · omega
theorem plc_foldl : ∀ (C P : List Pt), (C.foldl (fun P p => if p ∈ P then P else P ++ [p]) P).length ≤ P.length + C.length ∧ ∀ x, x ∈ C.foldl (fun P p => if p ∈ P then P else P ++ [p]) P ↔ x ∈ P ∨ x ∈ C
  | [], P => by simp
  | p :: C, P => by
    obtain ⟨h1, h2⟩ := plc_foldl C (if p ∈ P then P else P ++ [p])
    rw [List.foldl_cons]
    refine ⟨?_, fun x => ?_⟩
    · rw [List.length_cons]
      have l : (if p ∈ P then P else P ++ [p]).length ≤ P.length + 1 := by
        split
        · omega
        · rw [List.length_append, List.length_singleton]
          omega
      omega
    · rw [h2, List.mem_cons]
      by_cases q : p ∈ P
      · rw [if_pos q]
        constructor
        · rintro (h | h)
          · exact .inl h
          · exact .inr (.inr h)
        · rintro (h | h | h)
          · exact .inl h
          · exact .inl (h ▸ q)
          · exact .inr h
      · rw [if_neg q, List.mem_append, List.mem_singleton]
        constructor
        · rintro ((h | h) | h)
          · exact .inl h
          · exact .inr (.inl h)
          · exact .inr (.inr h)
        · rintro (h | h | h)
          · exact .inl (.inl h)
          · exact .inl (.inr h)
          · exact .inr h
theorem plc_len (C : List Pt) : (plc C).length ≤ C.length := by have := (plc_foldl C []).1; simpa [plc] using this
theorem plc_mem {C : List Pt} {x : Pt} : x ∈ plc C ↔ x ∈ C := by have := (plc_foldl C []).2 x; simpa [plc] using this
theorem upL_mem {P : List Pt} {t : Tr} (h : t ∈ upL P ∨ t ∈ loL P) : ∃ p ∈ P, trO P p = t := by
  rcases h with h | h
  · obtain ⟨p, hp, e⟩ := List.mem_map.mp (List.mem_filter.mp h).1
    exact ⟨p, hp, e⟩
  · obtain ⟨p, hp, e⟩ := List.mem_map.mp (List.mem_filter.mp h).1
    exact ⟨p, hp, e⟩
theorem fndL_mem {P : List Pt} {p : Pt} (h : p ∈ fndL P) : p ∈ P := by
  unfold fndL at h
  rcases List.mem_append.mp h with h | h
  · obtain ⟨t, ht, rfl⟩ := fndN_mem (Nat.le_refl _) p h
    obtain ⟨q, hq, rfl⟩ := upL_mem (.inl (ordT_mem.mp ht))
    exact hq
  · obtain ⟨t, ht, rfl⟩ := fndN_mem (Nat.le_refl _) p h
    obtain ⟨q, hq, rfl⟩ := upL_mem (.inr (ordT_mem.mp ht))
    exact hq
theorem around_ok {C : List Pt} (h : ∀ p ∈ C, okP p) : (∀ p ∈ around C, okP p) ∧ (around C).length ≤ 2 * C.length + 3 ∧ 3 ≤ (around C).length := by
  have ht : ∀ p ∈ tri, okP p := by
    intro p hp
    unfold tri at hp
    simp at hp
    unfold okP
    rcases hp with rfl | rfl | rfl <;> decide
  unfold around
  by_cases q : (plc C).length < 3
  · rw [if_pos q]
    exact ⟨ht, by simp [tri], by simp [tri]⟩
  · rw [if_neg q]
    by_cases q2 : (fndL (plc C)).length < 3
    · rw [if_pos q2]
      exact ⟨ht, by simp [tri], by simp [tri]⟩
    · rw [if_neg q2]
      refine ⟨fun p hp => h p (plc_mem.mp (fndL_mem hp)), ?_, by omega⟩
      have l1 := fndN_len (ordT (upL (plc C))) (ordT (upL (plc C))).length
      have l2 := fndN_len (ordT (loL (plc C))) (ordT (loL (plc C))).length
      rw [ordT_len] at l1 l2
      have l3 : (upL (plc C)).length ≤ (plc C).length := by
        have := List.length_filter_le upT ((plc C).map (trO (plc C)))
        rw [List.length_map] at this
        exact this
      have l4 : (loL (plc C)).length ≤ (plc C).length := by
        have := List.length_filter_le loT ((plc C).map (trO (plc C)))
        rw [List.length_map] at this
        exact this
      have l5 := plc_len C
      unfold fndL
      rw [List.length_append, ordT_len, ordT_len]
      omega
end FL
/-! powers, str of ints and texts, join of a list of the frame's own, a test that pops -/
namespace FL
open PySem PySem.Spec PyProof.Rows L2
variable [TabNames]
section
variable {X : Cx} {K : PySem.W.Frag} {mg : Str → Option Value} {G : Gx} {pos : Pos} {a b c d e o : Expr} {es : List Expr} {ma mb mc ms md mo mk : Ev → R} {ρ : Ev} {m1 m2 : Ev → Out}
def powB (i j : Int) : Bool := decide (0 ≤ j) && (decide (j ≤ 1000) && decide (i.natAbs < 18446744073709551616))
def powD : D → D → Option D
  | .int i, .int j => if powB i j then some (.int (i ^ j.toNat)) else none
  | _, _ => none
theorem okPow : OpOk K (rI CPow fun i j => .int (i ^ j.toNat)) powD := by
  intro S H x y d v u Q hS hv hu e q
  cases hv with
  | int i =>
    cases hu with
    | int j =>
      obtain ⟨k, rfl⟩ := ok_of_if e
      unfold powB at k
      simp only [Bool.and_eq_true, decide_eq_true_eq] at k
      exact ⟨i, j, rfl, rfl, ⟨k.1, by omega, by rw [show (2 : Nat) ^ 64 = 18446744073709551616 by decide]; exact k.2.2⟩, post_val q (.int _)⟩
    | _ => cases e
  | _ => cases hu <;> cases e
def mPow := mBin powD
theorem x_pow (ha : XE X G a ma) (hb : XE X G b mb) : XE X G (.BinOp a .Pow b pos) (mPow ma mb) := x_op op_pow okPow ha hb
@[simp] theorem ev_pow : mPow = mBin powD := Eq.trans rfl rfl
@[simp] theorem ev_powI {i j : Int} (h1 : 0 ≤ j) (h2 : j ≤ 1000) (h3 : -18446744073709551616 < i) (h4 : i < 18446744073709551616) : powD (.int i) (.int j) = some (.int (i ^ j.toNat)) := if_pos (by unfold powB; simp [h1, h2]; omega)
def strXD : List D → Option D
  | [.int i] => if strB i then some (.str (toString i)) else none
  | [.str z] => some (.str z)
  | _ => none
theorem okStrX : CrOk K (fun xs H Q => (∃ i : Int, xs = [.int i] ∧ i.natAbs.log2 < 1920 ∧ Q (.str (toString i)) H) ∨ ∃ a, xs = [.str a] ∧ Q (.str a) H) strXD :=
  okOne (fun ds d e => by
    unfold strXD at e
    split at e
    · exact ⟨_, rfl⟩
    · exact ⟨_, rfl⟩
    · cases e) fun S H v x d Q hS hv e q => by
    cases hv with
    | int i =>
      obtain ⟨k, rfl⟩ := ok_of_if e
      exact .inl ⟨i, rfl, of_decide_eq_true k, post_val q (.str _)⟩
    | str z =>
      cases e
      exact .inr ⟨z, rfl, post_val q (.str _)⟩
    | _ => cases e
theorem x_strX {p : Pos} (ha : XA X G (e :: es) ms) (hm : X.mg "str" = none) (hg : Gl X "str" := by rfl) (he : starEach (e :: es) X.env = (false, eval e X.env) :: starEach es X.env := by rfl) (hpl : (backTo pos (starEach es X.env)).any (·.1) = false := by rfl) :
    XE X G (.Call (.Name "str" p) (e :: es) [] pos) (mFun strXD ms) := x_ty (call_str_int.or SkE.call_str_str) okStrX ha hm boot_str' hg (by decide) (by decide) he hpl
@[simp] theorem ev_strXs {z : Str} : strXD [.str z] = some (.str z) := Eq.trans rfl rfl
theorem ev_strXi {i : Int} : strXD [.int i] = strD [.int i] := rfl
/-- join, the list perhaps of the frame's own -/
theorem x_joinB {apos : Pos} (ho : XE X G o mo) (ha : XB X G a ma) (hs : starEach [a] X.env = [(false, eval a X.env)] := by rfl) (hbase : attributeBase o "join" X.env (eval o X.env) = eval o X.env := by rfl) (hline : (apos.endLine == pos.line) = true := by rfl) :
    XE X G (.Call (.Attribute o "join" apos) [a] [] pos) (mM1 joinD mo ma) :=
  ⟨fun ρ => (pe_m1 F.slot_str_join F.type_str_join mt_join (ho.pe ρ) (PE.mk fun pins s σ H Q I h => (ha.pe ρ).run pins s σ H Q I h) hs hbase hline).imp fun σ H Q ⟨H0, S0, S, env, h⟩ => tE_bind env h fun d H1 v _ x1 hv h1 => by
    cases hv with
    | str z =>
      refine ⟨⟨z, rfl⟩, tB_bind (env.mono x1) h1 fun y H2 u _ x2 hu h2 => ?_⟩
      obtain ⟨d, e, q⟩ := of_some (show RPost X.K X.mg G S H2 σ (R.of (joinD z y)) Q from h2)
      cases y with
      | list ds =>
        obtain ⟨p, vs, rfl, hp, kp⟩ := hu.list
        have e : joinK z (strsOf ds) = some d := e
        cases es : strsOf ds with
        | none => rw [es] at e; cases e
        | some ys =>
          rw [es] at e
          obtain ⟨k2, rfl⟩ := ok_of_if e
          have e2 := strs_of kp es
          subst e2
          exact ⟨z, _, ys, rfl, rfl, .inl hp, of_decide_eq_true k2, post_val q (.str _)⟩
      | _ => cases e
    | _ => exact h1.elim⟩
/-- what pop gives and leaves, as an expression -/
def tPopE (i : Nat) : TE := fun σ H Q => ∃ l vs y, σ[i]? = some (some (.ref l)) ∧ H l = some (.lst vs) ∧ vs[vs.length - 1]? = some y ∧ Q y (upd H l (.lst vs.dropLast))
theorem pe_popE (i : Nat) {x : Str} {p p2 : Pos} (hi : X.N[i]? = some x := by rfl) (hv : Vis X.env.scope x := by first | exact Or.inl rfl | exact Or.inr (Or.inl rfl) | exact Or.inr (Or.inr rfl)) (hd : (x == ("__debug__" : Str)) = false := by decide)
    (hcd : (x == ("__classdict__" : Str)) = false := by decide) (hline : (p2.endLine == pos.line) = true := by rfl) : PE X (.Call (.Attribute (.Name x p) "pop" p2) [] [] pos) (tPopE i) :=
  (pe_bm0 PySem.F.plainAttrs_list PySem.F.slot_list_pop PySem.F.type_list_pop mt_pop (pe_var hi hv hd hcd) (by rfl) hline).imp fun σ H Q ⟨l, vs, y, e1, hl, hy, q⟩ => ⟨.ref l, e1, .inl ⟨rfl, _, .inl (.inl hl)⟩, l, vs, y, rfl, rfl, hl, hy, q⟩
theorem s_ifPopStr (i : Nat) {k : Nat} {x z : Str} {j : Nat} {p p2 p3 p4 p5 p6 : Pos} {rest : List Expr} {b1 b2 : List Stmt} (hr : Room k X.A) (hb : XW X G (.BoolOp .Or (b :: rest) pos) mb) (h1 : XSs X G b1 m1) (h2 : XSs X G b2 m2)
    (hi : X.N[i]? = some x := by rfl) (hv : Vis X.env.scope x := by first | exact Or.inl rfl | exact Or.inr (Or.inl rfl) | exact Or.inr (Or.inr rfl)) (hd : (x == ("__debug__" : Str)) = false := by decide)
    (hcd : (x == ("__classdict__" : Str)) = false := by decide) (hline : (p2.endLine == p3.line) = true := by rfl) (hm : behindInMarks .NotEq (.Constant (.str z) j p4) = false := by first | exact nomark _ | rfl) :
    XS X G (.If (.BoolOp .Or (.Compare (.Call (.Attribute (.Name x p) "pop" p2) [] [] p3) [.NotEq] [.Constant (.str z) j p4] p5 :: b :: rest) pos) b1 b2 p6) (mIfPop i (.str z) mb m1 m2) := ⟨fun ρ => by
  have t1 : PT X (.Compare (.Call (.Attribute (.Name x p) "pop" p2) [] [] p3) [.NotEq] [.Constant (.str z) j p4] p5) (tTest (tOp (rNeD X.K) (tPopE i) (fun σ H Q => Q (.str z) H))) := pt_cmpR (op_neD hr.units) (pe_popE i hi hv hd hcd hline) pe_str hm
  have t2 : PW X (.BoolOp .Or (b :: rest) pos) (fun σ H Q => ∃ ρ, tT X.K X.mg G ρ (mb ρ) σ H Q) := ⟨fun wh pins s σ H Q I ⟨ρ, hw⟩ => (hb.pw ρ).run wh pins s σ H Q I hw⟩
  have s1 : PSs X b1 (fun Dn σ H => ∃ ρ, tS X.K X.mg G ρ (m1 ρ) Dn σ H) := ⟨fun pins s σ H Dn I ⟨ρ, hw⟩ => (h1.ps ρ).run pins s σ H Dn I hw⟩
  have s2 : PSs X b2 (fun Dn σ H => ∃ ρ, tS X.K X.mg G ρ (m2 ρ) Dn σ H) := ⟨fun pins s σ H Dn I ⟨ρ, hw⟩ => (h2.ps ρ).run pins s σ H Dn I hw⟩
  refine (ps_if (pw_or t1 t2).pt s1 s2).imp fun Dn σ H ⟨H0, S0, S, env, h⟩ => ?_
  unfold mIfPop at h
  split at h
  · rename_i xs er
    obtain ⟨l, vs, e1, lS, hl, kk⟩ := own_get env er
    split at h
    · rename_i y ey
      have lv := da_length kk
      have hy : ∃ v, vs[vs.length - 1]? = some v ∧ Dp X.K (hide S H) v y := da_get kk (by rw [lv, ← List.getLast?_eq_getElem?]; exact ey)
      obtain ⟨v, hv1, hv2⟩ := hy
      have env2 := env.updO e1 er (da_dropLast kk)
      have hv3 : Dp X.K (upd H l (.lst vs.dropLast)) v y := by
        have := hide_upd (S := S) (H := H) (o := .lst vs.dropLast) lS
        rw [← this] at hv2
        exact dp_mono hide_sub hv2
      refine ⟨l, vs, v, e1, hl, hv1, ?_⟩
      show rNeD X.K v (.str z) (upd H l (.lst vs.dropLast)) _
      split at h
      · rename_i en
        obtain ⟨kn, e3⟩ := ok_of_if en
        rw [Bool.and_eq_true] at kn
        have e4 : (!PyData.eqv y (.str z)) = true := PyData.bool.inj e3
        refine ⟨y, .str z, hv3, .str z, kn.1, kn.2, true, by rw [e4], ?_⟩
        exact iteT (iteT ⟨_, H0, S0, S, env2, h⟩)
      · rename_i en
        obtain ⟨kn, e3⟩ := ok_of_if en
        rw [Bool.and_eq_true] at kn
        have e4 : (!PyData.eqv y (.str z)) = false := PyData.bool.inj e3
        refine ⟨y, .str z, hv3, .str z, kn.1, kn.2, false, by rw [e4], ?_⟩
        refine iteF ⟨_, H0, S0, S, env2, ?_⟩
        generalize mb (ρ.set i (.ol xs.dropLast)) = r at h
        cases r with
        | ok d =>
          cases d with
          | bool t =>
            intro H2 x2
            have env3 := env2.mono x2
            cases t with
            | true => exact iteT ⟨_, H0, S0, S, env3, h⟩
            | false => exact iteF ⟨_, H0, S0, S, env3, h⟩
          | _ => exact h.elim
        | ex c => exact fun C H' e x => h C σ S H' e (env2.mono x)
        | no => exact h
      · exact h.elim
    · exact h.elim
  · exact h.elim⟩
def popIfK (ρ : Ev) (r : R) (m1 m2 : Ev → Out) : D → Out
  | .bool true => m1 ρ
  | .bool false => r.go ρ (ifO (m1 ρ) (m2 ρ))
  | _ => .no
theorem ev_ifPop {i : Nat} {xs : List D} {y z : D} {t : Bool} (h1 : ρ[i]? = some (.ol (xs ++ [y]))) (h2 : neD y z = some (.bool t)) : mIfPop i z mb m1 m2 ρ = popIfK (ρ.set i (.ol xs)) (mb (ρ.set i (.ol xs))) m1 m2 (.bool t) := by
  unfold mIfPop
  rw [h1]
  simp only [List.getLast?_append, List.getLast?_singleton, Option.some_or, List.dropLast_concat]
  rw [h2]
  cases t
  · show R.go _ _ _ = R.go _ _ _
    congr 1
  · rfl
end
end FL
/-! whole numbers as texts, lines of words -/
namespace FL
open PySem PySem.Spec PyProof.Rows L2
variable [TabNames]
section
variable {a b p q f l : List Nat} {i j : Int} {c k n : Nat}
def sgI (neg : Bool) : List Nat := if neg = true then [45] else []
/-- a whole number's signs -/
def intL (i : Int) : List Nat := sgI (decide (i < 0)) ++ TL.numL i.natAbs
theorem int_txt : ∀ i : Int, Str.ofString (toString i) = SX.S (intL i)
  | .ofNat m => SX.num_S m
  | .negSucc m => by
    refine TL.ext_tl ?_
    have e : (toString (Int.negSucc m) : String) = "-" ++ toString ((m + 1 : Nat) : Int) := rfl
    rw [e, TL.tl_ofString, String.toList_append, List.map_append]
    have := TL.tl_num (m + 1)
    rw [TL.tl_ofString] at this
    rw [this]
    have d : List.map Char.toNat "-".toList = [45] := by decide +kernel
    have d2 : decide (Int.negSucc m < 0) = true := decide_eq_true (Int.negSucc_lt_zero m)
    show _ = sgI (decide (Int.negSucc m < 0)) ++ TL.numL (m + 1)
    rw [d, d2]
    rfl
theorem strX_I (h : i.natAbs < 10 ^ 570) : strXD [.int i] = some (T (intL i)) := by
  have e : strB i = true := by
    refine strB_ok ?_
    have z : (10 : Nat) ^ 570 ≤ 2 ^ 1920 := by decide +kernel
    exact Nat.lt_of_lt_of_le h z
  rw [ev_strXi, ev_strD e]
  exact congrArg (fun z => some (PyData.str z)) (int_txt i)
theorem sgI_len (b : Bool) : (sgI b).length ≤ 1 := by cases b <;> decide
theorem intL_len (hk : 0 < k) (h : i.natAbs < 10 ^ k) : (intL i).length ≤ k + 1 := by
  have h1 := TL.numL_len hk h
  have h2 := sgI_len (decide (i < 0))
  unfold intL
  rw [List.length_append]
  omega
theorem intL_mem (i : Int) : ∀ c ∈ intL i, c = 45 ∨ (48 ≤ c ∧ c ≤ 57) := by
  intro c hc
  rcases List.mem_append.mp hc with h | h
  · unfold sgI at h
    split at h
    · exact .inl (List.mem_singleton.mp h)
    · cases h
  · exact .inr (numL_digits' _ c h)
theorem intL_no (i : Int) (h : c < 45) : c ∉ intL i := fun hm => by
  have := intL_mem i c hm
  omega
theorem intL_ok (i : Int) : ∀ c ∈ intL i, c < 1114112 := fun c hc => by
  have := intL_mem i c hc
  omega
theorem intL_head (i : Int) : ((intL i).head? = some 45) ↔ i < 0 := by
  unfold intL
  cases h : TL.numL i.natAbs with
  | nil => exact absurd h (TL.numL_ne _)
  | cons x r =>
    have hx := numL_digits' i.natAbs x (by rw [h]; exact List.mem_cons_self ..)
    by_cases n : i < 0
    · rw [decide_eq_true n]
      exact ⟨fun _ => n, fun _ => rfl⟩
    · rw [decide_eq_false n]
      constructor
      · intro z
        have : x = 45 := Option.some.inj z
        omega
      · intro z
        exact absurd z n
/-- a word without the sign ahead of it -/
def strip1 (l : List Nat) : List Nat := if l.head? = some 45 then l.tail else l
theorem strip1_int (i : Int) : strip1 (intL i) = TL.numL i.natAbs := by
  unfold strip1
  by_cases n : i < 0
  · rw [if_pos ((intL_head i).mpr n)]
    unfold intL
    rw [decide_eq_true n]
    rfl
  · rw [if_neg fun h => n ((intL_head i).mp h)]
    unfold intL
    rw [decide_eq_false n]
    rfl
/-- digits, and how many -/
def digA (p : List Nat) : Bool := p.all fun c => decide (48 ≤ c) && decide (c ≤ 57)
theorem digA_ok {p : List Nat} : digA p = true ↔ ∀ x ∈ p, 48 ≤ x ∧ x ≤ 57 := by
  constructor
  · intro h x hx
    have := List.all_eq_true.mp h x hx
    rw [Bool.and_eq_true] at this
    exact ⟨of_decide_eq_true this.1, of_decide_eq_true this.2⟩
  · intro h
    refine List.all_eq_true.mpr fun x hx => ?_
    rw [Bool.and_eq_true]
    exact ⟨decide_eq_true (h x hx).1, decide_eq_true (h x hx).2⟩
/-- the integer of a word in decimal form -/
def intOf (l : List Nat) : Int := if l.head? = some 45 then -((NumText.digitsVal l.tail : Nat) : Int) else ((NumText.digitsVal l : Nat) : Int)
theorem intS_T (h : ∀ x ∈ strip1 l, 48 ≤ x ∧ x ≤ 57) (hne : strip1 l ≠ []) (hl : l.length ≤ 600) : intSD [T l] = some (.int (intOf l)) := by
  unfold strip1 at h hne
  unfold intOf
  by_cases e : l.head? = some 45
  · rw [if_pos e] at h hne ⊢
    cases l with
    | nil => cases e
    | cons x r =>
      have hx : x = 45 := Option.some.inj e
      subst hx
      have v : intText? (SX.S (45 :: r)) = some (-((NumText.digitsVal r : Nat) : Int)) := PySem.intText_neg (x := SX.S (45 :: r)) rfl h hne (by rw [SX.S_len]; omega)
      have b : intSB (SX.S (45 :: r)) = true := decide_eq_true (by rw [SX.S_len]; omega)
      show (if intSB (SX.S (45 :: r)) then (PySem.intText? (SX.S (45 :: r))).map PyData.int else none) = _
      rw [if_pos b, v]
      rfl
  · rw [if_neg e] at h hne ⊢
    exact int_T h hne hl
theorem intOf_int (i : Int) : intOf (intL i) = i := by
  unfold intOf
  by_cases n : i < 0
  · rw [if_pos ((intL_head i).mpr n)]
    have e : (intL i).tail = TL.numL i.natAbs := by
      unfold intL
      rw [decide_eq_true n]
      rfl
    rw [e, TL.numL_val]
    omega
  · rw [if_neg fun h => n ((intL_head i).mp h)]
    have e : intL i = TL.numL i.natAbs := by
      unfold intL
      rw [decide_eq_false n]
      rfl
    rw [e, TL.numL_val]
    omega
/-- what a paper takes as an integer -/
def okI (l : List Nat) : Bool := (decide (1 ≤ (strip1 l).length) && decide ((strip1 l).length ≤ 2000)) && (digA (strip1 l) && !(decide ((strip1 l).head? = some 48) && !decide (l = [48])))
theorem okI_int (i : Int) (h : i.natAbs < 10 ^ 500) : okI (intL i) = true := by
  unfold okI
  rw [strip1_int]
  have h1 := TL.numL_len (n := i.natAbs) (k := 500) (by decide) h
  have h2 := List.length_pos_iff.mpr (TL.numL_ne i.natAbs)
  rw [decide_eq_true (show 1 ≤ (TL.numL i.natAbs).length by omega), decide_eq_true (show (TL.numL i.natAbs).length ≤ 2000 by omega), digA_ok.mpr (numL_digits' _)]
  by_cases e : (TL.numL i.natAbs).head? = some 48
  · have z : ¬ 1 < (TL.numL i.natAbs).length := fun hl => numL_head _ hl e
    have z1 : (TL.numL i.natAbs).length = 1 := by omega
    have v := TL.numL_val i.natAbs
    cases hq : TL.numL i.natAbs with
    | nil => exact absurd hq (TL.numL_ne _)
    | cons x r =>
      rw [hq] at e z1 v
      have hx : x = 48 := Option.some.inj e
      have hr : r = [] := by
        cases r with
        | nil => rfl
        | cons y t => simp at z1
      subst hx hr
      have v0 : i.natAbs = 0 := by rw [← v]; rfl
      have i0 : i = 0 := by omega
      subst i0
      have e0 : intL 0 = [48] := by decide +kernel
      rw [e0]
      rfl
  · rw [decide_eq_false e]
    rfl
/-! words -/
def wdL (c : Nat) : List Nat := (Wd c).cps.toList
theorem wd_S (c : Nat) : Wd c = SX.S (wdL c) := TL.ext_tl rfl
theorem wdL_mem {c : Nat} (h : c < 14) : ∀ x ∈ wdL c, 97 ≤ x ∧ x ≤ 122 := wd_cases (P := fun c => ∀ x ∈ wdL c, 97 ≤ x ∧ x ≤ 122) (by decide +kernel) c h
theorem wdL_len {c : Nat} (h : c < 14) : (wdL c).length ≤ 9 := wd_cases (P := fun c => (wdL c).length ≤ 9) (by decide +kernel) c h
/-! joined, and split again -/
theorem joinL_nil : ∀ ls : List (List Nat), TL.joinL [] ls = ls.flatten
  | [] => rfl
  | [x] => by
    show x = _
    simp
  | x :: y :: r => by
    have e := joinL_nil (y :: r)
    show x ++ ([] ++ TL.joinL [] (y :: r)) = _
    rw [e]
    simp
theorem joinL_ends (c : Nat) : ∀ ls : List (List Nat), TL.joinL [c] (ls ++ [[]]) = (ls.map (· ++ [c])).flatten
  | [] => rfl
  | [x] => by
    show x ++ ([c] ++ TL.joinL [c] [[]]) = _
    simp [TL.joinL]
  | x :: y :: r => by
    have e := joinL_ends c (y :: r)
    show x ++ ([c] ++ TL.joinL [c] ((y :: r) ++ [[]])) = _
    rw [e]
    simp
theorem spl_ends (c : Nat) (ls : List (List Nat)) (h : ∀ x ∈ ls, c ∉ x) : TL.spl [c] 0 [] ((ls.map (· ++ [c])).flatten) = ls ++ [[]] := by
  rw [← joinL_ends]
  refine SX.spl_join (sep := []) (by simp) fun x hx => ?_
  rcases List.mem_append.mp hx with hx | hx
  · exact h x hx
  · rw [List.mem_singleton.mp hx]
    exact List.not_mem_nil
theorem strs_T : ∀ ls : List (List Nat), strsOf (ls.map T) = some (ls.map SX.S)
  | [] => rfl
  | x :: r => by
    rw [List.map_cons, strsOf, strs_T r]
    rfl
theorem join_T {sep : List Nat} {ls : List (List Nat)} (h : (ls.map List.length).sum + ls.length * sep.length ≤ 16777216) : joinD (SX.S sep) (.list (ls.map T)) = some (T (TL.joinL sep ls)) := by
  have k : joinB (SX.S sep) (ls.map SX.S) = true := by
    refine decide_eq_true ?_
    have e : (ls.map SX.S).map (fun z : Str => z.length) = ls.map List.length := by
      rw [List.map_map]
      exact List.map_congr_left fun x _ => SX.S_len ..
    show ((ls.map SX.S).map (fun z : Str => z.length)).sum + (ls.map SX.S).length * (SX.S sep).length ≤ 16777216
    rw [e, List.length_map, SX.S_len]
    exact h
  rw [ev_join, strs_T, ev_joinK k, SX.join_S]
theorem ne_T {x y : List Nat} (hx : ∀ c ∈ x, c < 1114112) (hy : ∀ c ∈ y, c < 1114112) : neD (T x) (T y) = some (.bool (!decide (x = y))) := by
  rw [neD_ok (shp_T hx) (shp_T hy), PyData.eqv, SX.S_beq_eq]
theorem eq_T {x y : List Nat} (hx : ∀ c ∈ x, c < 1114112) (hy : ∀ c ∈ y, c < 1114112) : eqD (T x) (T y) = some (.bool (decide (x = y))) := by
  rw [eqD_ok (shp_T hx) (shp_T hy), PyData.eqv, SX.S_beq_eq]
/-! the lines of a paper -/
abbrev PRow := Stp × (Int × Int)
def rowW (r : PRow) : List (List Nat) := (wdL r.1.1 :: r.1.2.map intL) ++ [[58], intL r.2.1, intL r.2.2]
def rowL (r : PRow) : List Nat := TL.joinL [32] (rowW r)
def papL (bits : Int) (rs : List PRow) : List (List Nat) := ([112, 97, 112, 101, 114, 32] ++ intL bits) :: rs.map rowL
def papT (bits : Int) (rs : List PRow) : List Nat := ((papL bits rs).map (· ++ [10])).flatten
theorem rowW_no {r : PRow} (h : r.1.1 < 14) {c : Nat} (hc : c < 45) : ∀ p ∈ rowW r, c ∉ p := by
  intro p hp
  rcases List.mem_append.mp hp with hp | hp
  · rcases List.mem_cons.mp hp with rfl | hp
    · exact fun hm => by have := wdL_mem h c hm; omega
    · obtain ⟨i, _, rfl⟩ := List.mem_map.mp hp
      exact intL_no i hc
  · simp at hp
    rcases hp with rfl | rfl | rfl
    · simp; omega
    · exact intL_no _ hc
    · exact intL_no _ hc
theorem joinL_mem (s : List Nat) : ∀ (ls : List (List Nat)) (c : Nat), c ∈ TL.joinL s ls → c ∈ s ∨ ∃ p ∈ ls, c ∈ p
  | [], c, h => by cases h
  | [x], c, h => .inr ⟨x, List.mem_singleton.mpr rfl, h⟩
  | x :: y :: r, c, h => by
    have h : c ∈ x ++ (s ++ TL.joinL s (y :: r)) := h
    rcases List.mem_append.mp h with h | h
    · exact .inr ⟨x, List.mem_cons_self .., h⟩
    · rcases List.mem_append.mp h with h | h
      · exact .inl h
      · rcases joinL_mem s (y :: r) c h with h | ⟨p, hp, h⟩
        · exact .inl h
        · exact .inr ⟨p, List.mem_cons_of_mem _ hp, h⟩
theorem joinL_len (s : List Nat) (m : Nat) : ∀ (ls : List (List Nat)), (∀ p ∈ ls, p.length ≤ m) → (TL.joinL s ls).length ≤ ls.length * (m + s.length)
  | [], _ => Nat.zero_le _
  | [x], h => by
    have := h x (List.mem_singleton.mpr rfl)
    show x.length ≤ 1 * _
    omega
  | x :: y :: r, h => by
    have e := joinL_len s m (y :: r) fun p hp => h p (List.mem_cons_of_mem _ hp)
    have hx := h x (List.mem_cons_self ..)
    show (x ++ (s ++ TL.joinL s (y :: r))).length ≤ _
    rw [List.length_append, List.length_append, List.length_cons, Nat.add_mul, Nat.one_mul]
    omega
theorem spl_row {r : PRow} (h : r.1.1 < 14) : TL.spl [32] 0 [] (rowL r) = rowW r := SX.spl_join (sep := []) (by unfold rowW; simp) (rowW_no h (by decide))
theorem rowL_no {r : PRow} (h : r.1.1 < 14) {c : Nat} (hc : c < 45) (h2 : c ≠ 32) : c ∉ rowL r := fun hm => by
  rcases joinL_mem _ _ _ hm with h3 | ⟨p, hp, h3⟩
  · exact h2 (List.mem_singleton.mp h3)
  · exact rowW_no h hc p hp h3
/-- small enough -/
structure okR (r : PRow) : Prop where
  c : r.1.1 < 14
  l : r.1.2.length ≤ 2
  a : ∀ i ∈ r.1.2, i.natAbs < 10 ^ 160
  u : r.2.1.natAbs < 10 ^ 160
  v : r.2.2.natAbs < 10 ^ 160
theorem rowW_len {r : PRow} (h : okR r) : (rowW r).length ≤ 6 ∧ ∀ p ∈ rowW r, p.length ≤ 161 := by
  constructor
  · unfold rowW
    have := h.l
    simp
    omega
  · intro p hp
    rcases List.mem_append.mp hp with hp | hp
    · rcases List.mem_cons.mp hp with rfl | hp
      · have := wdL_len h.c
        omega
      · obtain ⟨i, hi, rfl⟩ := List.mem_map.mp hp
        exact intL_len (by decide) (h.a i hi)
    · simp at hp
      rcases hp with rfl | rfl | rfl
      · simp
      · exact intL_len (by decide) h.u
      · exact intL_len (by decide) h.v
theorem rowL_len {r : PRow} (h : okR r) : (rowL r).length ≤ 972 := by
  have h1 := rowW_len h
  have h2 := joinL_len [32] 161 (rowW r) h1.2
  rw [List.length_singleton] at h2
  unfold rowL
  omega
theorem rowL_ok {r : PRow} (h : okR r) : ∀ c ∈ rowL r, c < 128 := fun c hm => by
  rcases joinL_mem _ _ _ hm with h3 | ⟨p, hp, h3⟩
  · have := List.mem_singleton.mp h3
    omega
  · rcases List.mem_append.mp hp with hp | hp
    · rcases List.mem_cons.mp hp with rfl | hp
      · have := wdL_mem h.c c h3
        omega
      · obtain ⟨i, _, rfl⟩ := List.mem_map.mp hp
        have := intL_mem i c h3
        omega
    · simp at hp
      rcases hp with rfl | rfl | rfl
      · have := List.mem_singleton.mp h3
        omega
      · have := intL_mem _ c h3
        omega
      · have := intL_mem _ c h3
        omega
theorem flat_len (m : Nat) : ∀ ls : List (List Nat), (∀ p ∈ ls, p.length ≤ m) → ((ls.map (· ++ [10])).flatten).length ≤ ls.length * (m + 1)
  | [], _ => Nat.zero_le _
  | x :: r, h => by
    have e := flat_len m r fun p hp => h p (List.mem_cons_of_mem _ hp)
    have hx := h x (List.mem_cons_self ..)
    rw [List.map_cons, List.flatten_cons, List.length_append, List.length_append, List.length_singleton, List.length_cons, Nat.add_mul, Nat.one_mul]
    omega
theorem papT_ok {bits : Int} {rs : List PRow} (h : ∀ r ∈ rs, okR r) : ∀ c ∈ papT bits rs, c < 128 := by
  intro c hc
  obtain ⟨p, hp, h3⟩ := List.mem_flatten.mp hc
  obtain ⟨x, hx, rfl⟩ := List.mem_map.mp hp
  rcases List.mem_append.mp h3 with h3 | h3
  · rcases List.mem_cons.mp hx with rfl | hx
    · rcases List.mem_append.mp h3 with h3 | h3
      · simp at h3
        omega
      · have := intL_mem bits c h3
        omega
    · obtain ⟨r, hr, rfl⟩ := List.mem_map.mp hx
      exact rowL_ok (h r hr) c h3
  · have := List.mem_singleton.mp h3
    omega
theorem papT_len {bits : Int} {rs : List PRow} (h : ∀ r ∈ rs, okR r) (hb : bits.natAbs < 10 ^ 160) (hl : rs.length ≤ 1000) : (papT bits rs).length ≤ 1000000 := by
  have e := flat_len 972 (papL bits rs) fun p hp => by
    rcases List.mem_cons.mp hp with rfl | hp
    · have := intL_len (i := bits) (k := 160) (by decide) hb
      rw [List.length_append]
      simp
      omega
    · obtain ⟨r, hr, rfl⟩ := List.mem_map.mp hp
      exact rowL_len (h r hr)
  have e2 : (papL bits rs).length = rs.length + 1 := by
    unfold papL
    simp
  rw [e2] at e
  unfold papT
  omega
theorem spl_pap {bits : Int} {rs : List PRow} (h : ∀ r ∈ rs, okR r) : TL.spl [10] 0 [] (papT bits rs) = papL bits rs ++ [[]] := by
  refine spl_ends 10 _ fun x hx => ?_
  rcases List.mem_cons.mp hx with rfl | hx
  · intro hm
    rcases List.mem_append.mp hm with h3 | h3
    · simp at h3
    · exact intL_no _ (by decide) h3
  · obtain ⟨r, hr, rfl⟩ := List.mem_map.mp hx
    exact rowL_no (h r hr).c (by decide) (by decide)
/-- one line, as the law puts it together -/
theorem row_law {r : PRow} (h : okR r) (x : List Nat) : ((((((x ++ TL.joinL [32] (wdL r.1.1 :: r.1.2.map intL)) ++ [32, 58, 32]) ++ intL r.2.1) ++ [32]) ++ intL r.2.2) ++ [10]) = x ++ (rowL r ++ [10]) := by
  obtain ⟨⟨c, as⟩, u, v⟩ := r
  unfold rowL rowW
  have hl : as.length ≤ 2 := h.l
  match as, hl with
  | [], _ => simp [TL.joinL]
  | [p], _ => simp [TL.joinL]
  | [p, q], _ => simp [TL.joinL]
end
end FL
/-! max of three; how often lines to the east and to the north cross the sides of a polygon -/
namespace FL
open PySem PySem.Spec PyProof.Rows L2
variable [TabNames]
section
variable {X : Cx} {K : PySem.W.Frag} {mg : Str → Option Value} {G : Gx} {pos : Pos} {a b c : Expr} {ms : Ev → R} {ρ : Ev}
def mx3 (i j k : Int) : Int := if (if i < j then j else i) < k then k else (if i < j then j else i)
def max3D : List D → Option D
  | [.int i, .int j, .int k] => some (.int (mx3 i j k))
  | _ => none
theorem okMax3 : CrOk K (rNuC3 nuMax3) max3D := by
  intro S H xs ds d Q hS hv e q
  unfold max3D at e
  split at e
  · rename_i i j k
    cases hv with
    | cons h1 h2 =>
      cases h2 with
      | cons h2 h3 =>
        cases h3 with
        | cons h3 h4 =>
          cases h4
          cases h1 with
          | int =>
            cases h2 with
            | int =>
              cases h3 with
              | int =>
                cases e
                refine ⟨.int i, .int j, .int k, .int (mx3 i j k), rfl, ?_, post_val q (.int _)⟩
                have two : ∀ x y : Int, nuMax2 (.int x) (.int y) = some (.int (if x < y then y else x)) := fun x y => by
                  have e : nuMax2 (.int x) (.int y) = Option.map (fun c => if c = true then V.int y else V.int x) (some (decide (x < y))) := rfl
                  rw [e]
                  by_cases h : x < y
                  · rw [if_pos h, decide_eq_true h]; rfl
                  · rw [if_neg h, decide_eq_false h]; rfl
                have e : nuMax3 (.int i) (.int j) (.int k) = (nuMax2 (.int i) (.int j)).bind fun m => nuMax2 m (.int k) := rfl
                rw [e, two]
                exact two _ _
  · cases e
theorem x_max3 (ha : XA X G [a, b, c] ms) (hm : X.mg "max" = none) (hc : X.calm = true := by rfl) (hg : Gl X "max" := by rfl) (he : starEach [a, b, c] X.env = (false, eval a X.env) :: starEach [b, c] X.env := by rfl) (hpl : (backTo pos (starEach [b, c] X.env)).any (·.1) = false := by rfl) {p : Pos} : XE X G (.Call (.Name "max" p) [a, b, c] [] pos) (mFun max3D ms) := x_blt (call_max3Nu hc) okMax3 ha hm boot_max hg (by decide) (by decide) he hpl
@[simp] theorem ev_max3 {i j k : Int} : max3D [.int i, .int j, .int k] = some (.int (mx3 i j k)) := Eq.trans rfl rfl
end
/-! sides that a line from a place crosses -/
theorem sgm (x y : Int) : (0 < x → 0 < y → 0 < x * y) ∧ (0 < x → y < 0 → x * y < 0) ∧ (x < 0 → 0 < y → x * y < 0) ∧ (x < 0 → y < 0 → 0 < x * y) ∧ (x = 0 → x * y = 0) ∧ (y = 0 → x * y = 0) := by
  refine ⟨Int.mul_pos, fun h1 h2 => Int.mul_neg_of_pos_of_neg h1 h2, fun h1 h2 => Int.mul_neg_of_neg_of_pos h1 h2, fun h1 h2 => Int.mul_pos_of_neg_of_neg h1 h2, fun h => by rw [h, Int.zero_mul], fun h => by rw [h, Int.mul_zero]⟩
/-- to the east -/
def eA (p q o : Pt) : Bool := (decide (o.1 < p.1) != decide (o.1 < q.1)) && (decide (0 < crs p q o) == decide (p.1 < q.1))
/-- to the north -/
def eB (p q o : Pt) : Bool := (decide (p.2 ≤ o.2) != decide (q.2 ≤ o.2)) && decide ((if q.2 < p.2 then crs q p o else crs p q o) < 0)
def nE (p o : Pt) : Bool := decide (o.1 < p.1) && decide (o.2 < p.2)
theorem eB_sym (p q o : Pt) : eB q p o = eB p q o := by
  unfold eB
  by_cases h : q.2 < p.2
  · rw [if_pos h, if_neg (by omega)]
    congr 1
    cases decide (p.2 ≤ o.2) <;> cases decide (q.2 ≤ o.2) <;> rfl
  · by_cases h2 : p.2 < q.2
    · rw [if_neg h, if_pos h2]
      congr 1
      cases decide (p.2 ≤ o.2) <;> cases decide (q.2 ≤ o.2) <;> rfl
    · have e : p.2 = q.2 := by omega
      rw [e]
      cases decide (q.2 ≤ o.2) <;> rfl
theorem quadP (a b c d u v w z : Int) (hu : u = c * b) (hv : v = a * d) (hw : w = a * c) (hz : z = b * d) (h : ¬ (u - v = 0 ∧ w ≤ 0 ∧ z ≤ 0)) :
    (((¬ (0 < a ↔ 0 < c)) ∧ (0 < u - v ↔ a < c)) ↔ ((¬ (b ≤ 0 ↔ d ≤ 0)) ∧ ((d < b ∧ v - u < 0) ∨ (¬ d < b ∧ u - v < 0)))) ↔ ((0 < a ∧ 0 < b) ↔ (0 < c ∧ 0 < d)) := by
  obtain ⟨u1, u2, u3, u4, u5, u6⟩ := sgm c b
  obtain ⟨v1, v2, v3, v4, v5, v6⟩ := sgm a d
  obtain ⟨w1, w2, w3, w4, w5, w6⟩ := sgm a c
  obtain ⟨z1, z2, z3, z4, z5, z6⟩ := sgm b d
  rw [← hu] at u1 u2 u3 u4 u5 u6
  rw [← hv] at v1 v2 v3 v4 v5 v6
  rw [← hw] at w1 w2 w3 w4 w5 w6
  rw [← hz] at z1 z2 z3 z4 z5 z6
  clear hu hv hw hz
  rcases Int.lt_trichotomy a 0 with ha | ha | ha <;> rcases Int.lt_trichotomy c 0 with hc | hc | hc <;> rcases Int.lt_trichotomy b 0 with hb | hb | hb <;> rcases Int.lt_trichotomy d 0 with hd | hd | hd <;>
    ((first | have ku := u1 hc hb | have ku := u2 hc hb | have ku := u3 hc hb | have ku := u4 hc hb | have ku := u5 hc | have ku := u6 hb); (first | have kv := v1 ha hd | have kv := v2 ha hd | have kv := v3 ha hd | have kv := v4 ha hd | have kv := v5 ha | have kv := v6 hd); (first | have kw := w1 ha hc | have kw := w2 ha hc | have kw := w3 ha hc | have kw := w4 ha hc | have kw := w5 ha | have kw := w6 hc); (first | have kz := z1 hb hd | have kz := z2 hb hd | have kz := z3 hb hd | have kz := z4 hb hd | have kz := z5 hb | have kz := z6 hd); clear u1 u2 u3 u4 u5 u6 v1 v2 v3 v4 v5 v6 w1 w2 w3 w4 w5 w6 z1 z2 z3 z4 z5 z6; omega)
end FL
/-! the two counts agree; areas -/
namespace FL
open PySem PySem.Spec PyProof.Rows L2
variable [TabNames]
theorem bne_iff4 {x y z t : Bool} (h : ((x = true ↔ y = true) ↔ (z = true ↔ t = true))) : (x != y) = (z != t) := by
  cases x <;> cases y <;> cases z <;> cases t <;> simp_all
theorem quad {p q o : Pt} (h : btw p q o = false) : (eA p q o != eB p q o) = (nE p o != nE q o) := by
  obtain ⟨p1, p2⟩ := p
  obtain ⟨q1, q2⟩ := q
  obtain ⟨o1, o2⟩ := o
  have e1 : crs (p1, p2) (q1, q2) (o1, o2) = (q1 - o1) * (p2 - o2) - (p1 - o1) * (q2 - o2) := by unfold crs; grind
  have e2 : crs (q1, q2) (p1, p2) (o1, o2) = (p1 - o1) * (q2 - o2) - (q1 - o1) * (p2 - o2) := by unfold crs; grind
  have hb : ¬ ((q1 - o1) * (p2 - o2) - (p1 - o1) * (q2 - o2) = 0 ∧ (p1 - o1) * (q1 - o1) ≤ 0 ∧ (p2 - o2) * (q2 - o2) ≤ 0) := by
    intro ⟨h1, h2, h3⟩
    unfold btw at h
    rw [e1, decide_eq_true h1] at h
    have g1 : (o1 - p1) * (o1 - q1) = (p1 - o1) * (q1 - o1) := by grind
    have g2 : (o2 - p2) * (o2 - q2) = (p2 - o2) * (q2 - o2) := by grind
    simp only [g1, g2] at h
    rw [decide_eq_true h2, decide_eq_true h3] at h
    cases h
  have k := quadP (p1 - o1) (p2 - o2) (q1 - o1) (q2 - o2) _ _ _ _ rfl rfl rfl rfl hb
  unfold eA eB nE
  simp only [e1, e2]
  generalize (q1 - o1) * (p2 - o2) = u at *
  generalize (p1 - o1) * (q2 - o2) = v at *
  clear e1 e2 hb h
  have hA : (((decide (o1 < p1) != decide (o1 < q1)) && (decide (0 < u - v) == decide (p1 < q1))) = true) ↔ ((¬ (0 < p1 - o1 ↔ 0 < q1 - o1)) ∧ (0 < u - v ↔ p1 - o1 < q1 - o1)) := by
    rw [Bool.and_eq_true, bne_iff_ne, beq_iff_eq, ne_eq, decide_eq_decide, decide_eq_decide]
    constructor <;> (intro ⟨h1, h2⟩; exact ⟨by omega, by omega⟩)
  have hB : (((decide (p2 ≤ o2) != decide (q2 ≤ o2)) && decide ((if q2 < p2 then v - u else u - v) < 0)) = true) ↔ ((¬ (p2 - o2 ≤ 0 ↔ q2 - o2 ≤ 0)) ∧ ((q2 - o2 < p2 - o2 ∧ v - u < 0) ∨ (¬ q2 - o2 < p2 - o2 ∧ u - v < 0))) := by
    rw [Bool.and_eq_true, bne_iff_ne, ne_eq, decide_eq_decide, decide_eq_true_eq]
    by_cases c : q2 < p2
    · rw [if_pos c]
      constructor <;> (intro ⟨h1, h2⟩; exact ⟨by omega, by omega⟩)
    · rw [if_neg c]
      constructor <;> (intro ⟨h1, h2⟩; exact ⟨by omega, by omega⟩)
  have hP : ∀ x y : Int, ((decide (o1 < x) && decide (o2 < y)) = true) ↔ (0 < x - o1 ∧ 0 < y - o2) := fun x y => by
    rw [Bool.and_eq_true, decide_eq_true_eq, decide_eq_true_eq]
    omega
  refine bne_iff4 ?_
  rw [hA, hB, hP, hP]
  exact k
/-- how often, whether odd -/
def xorN : Nat → (Nat → Bool) → Bool
  | 0, _ => false
  | k + 1, f => xorN k f != f k
theorem xor4 (a b c d : Bool) : ((a != b) != (c != d)) = ((a != c) != (b != d)) := by cases a <;> cases b <;> cases c <;> cases d <;> rfl
theorem xorN_add (f g : Nat → Bool) : ∀ k, xorN k (fun j => f j != g j) = (xorN k f != xorN k g)
  | 0 => rfl
  | k + 1 => by
    show (xorN k (fun j => f j != g j) != (f k != g k)) = ((xorN k f != f k) != (xorN k g != g k))
    rw [xorN_add f g k, xor4]
theorem xorN_congr {f g : Nat → Bool} : ∀ {k}, (∀ j, j < k → f j = g j) → xorN k f = xorN k g
  | 0, _ => rfl
  | k + 1, h => by
    unfold xorN
    rw [xorN_congr fun j hj => h j (by omega), h k (by omega)]
theorem xorN_shift (f : Nat → Bool) : ∀ k, (f 0 != xorN k (fun j => f (j + 1))) = xorN (k + 1) f
  | 0 => by unfold xorN; cases f 0 <;> rfl
  | k + 1 => by
    show (f 0 != (xorN k (fun j => f (j + 1)) != f (k + 1))) = (xorN (k + 1) f != f (k + 1))
    rw [← xorN_shift f k]
    cases f 0 <;> cases xorN k (fun j => f (j + 1)) <;> cases f (k + 1) <;> rfl
/-- one step on, around -/
theorem xorN_rot (f : Nat → Bool) (N : Nat) (h : 1 ≤ N) : xorN N (fun j => f ((j + 1) % N)) = xorN N f := by
  obtain ⟨k, rfl⟩ : ∃ k, N = k + 1 := ⟨N - 1, by omega⟩
  show (xorN k (fun j => f ((j + 1) % (k + 1))) != f ((k + 1) % (k + 1))) = _
  rw [Nat.mod_self, xorN_congr (g := fun j => f (j + 1)) fun j hj => by rw [Nat.mod_eq_of_lt (by omega)], ← xorN_shift f k]
  cases f 0 <;> cases xorN k (fun j => f (j + 1)) <;> rfl
theorem ray_eq (g : Nat → Pt) (N : Nat) (h : 1 ≤ N) (o : Pt) (hb : ∀ j, j < N → btw (g j) (g ((j + 1) % N)) o = false) :
    xorN N (fun j => eA (g j) (g ((j + 1) % N)) o) = xorN N (fun j => eB (g j) (g ((j + 1) % N)) o) := by
  have e1 := xorN_add (fun j => eA (g j) (g ((j + 1) % N)) o) (fun j => eB (g j) (g ((j + 1) % N)) o) N
  have e2 := xorN_add (fun j => nE (g j) o) (fun j => nE (g ((j + 1) % N)) o) N
  have e3 : xorN N (fun j => eA (g j) (g ((j + 1) % N)) o != eB (g j) (g ((j + 1) % N)) o) = xorN N (fun j => nE (g j) o != nE (g ((j + 1) % N)) o) := xorN_congr fun j hj => quad (hb j hj)
  have e4 := xorN_rot (fun j => nE (g j) o) N h
  rw [e3, e2, e4, bne_self_eq_false] at e1
  revert e1
  cases xorN N (fun j => eA (g j) (g ((j + 1) % N)) o) <;> cases xorN N (fun j => eB (g j) (g ((j + 1) % N)) o) <;> simp
end FL
/-! what goes around a middle turns to the left -/
namespace FL
open PySem PySem.Spec PyProof.Rows L2
variable [TabNames]
def kT (a b : Tr) : Int := a.2.1 * b.1 - a.1 * b.2.1
def hU (t : Tr) : Prop := 0 < t.1 ∨ (t.1 = 0 ∧ 0 < t.2.1)
def ngT (t : Tr) : Tr := (-t.1, -t.2.1, t.2.2)
theorem kT_ng (a b : Tr) : kT (ngT a) (ngT b) = kT a b := by unfold kT ngT; grind
theorem kT_ngr (a b : Tr) : kT a (ngT b) = - kT a b := by unfold kT ngT; grind
theorem kT_sw (a b : Tr) : kT b a = - kT a b := by unfold kT; grind
theorem kT_self (a : Tr) : kT a a = 0 := by unfold kT; grind
theorem pos_of_mul {x y : Int} (hy : 0 < y) (h : 0 ≤ x * y) : 0 ≤ x := by
  refine Int.not_lt.mp fun hx => ?_
  have := Int.mul_neg_of_neg_of_pos hx hy
  omega
theorem pos_of_mul' {x y : Int} (hy : 0 < y) (h : 0 < x * y) : 0 < x := by
  refine Int.not_le.mp fun hx => ?_
  have := Int.mul_nonneg (show 0 ≤ -x by omega) (show 0 ≤ y by omega)
  have e : -x * y = -(x * y) := by grind
  omega
theorem kT_tr {a b c : Tr} (ha : hU a) (hb : hU b) (hc : hU c) (h1 : 0 ≤ kT a b) (h2 : 0 ≤ kT b c) : 0 ≤ kT a c ∧ (0 < kT a b ∨ 0 < kT b c → 0 < kT a c) := by
  have id : kT a c * b.1 = kT a b * c.1 + kT b c * a.1 := by unfold kT; grind
  have a0 : 0 ≤ a.1 := by unfold hU at ha; omega
  have c0 : 0 ≤ c.1 := by unfold hU at hc; omega
  have m1 := Int.mul_nonneg h1 c0
  have m2 := Int.mul_nonneg h2 a0
  by_cases b0 : 0 < b.1
  · refine ⟨pos_of_mul b0 (by omega), fun h => pos_of_mul' b0 ?_⟩
    rcases h with h | h
    · by_cases z : 0 < c.1
      · have := Int.mul_pos h z
        omega
      · exfalso
        have z0 : c.1 = 0 := by omega
        have z1 : 0 < c.2.1 := by unfold hU at hc; omega
        have : kT b c = -(b.1 * c.2.1) := by unfold kT; rw [z0]; grind
        have := Int.mul_pos b0 z1
        omega
    · by_cases z : 0 < a.1
      · have := Int.mul_pos h z
        omega
      · have z0 : a.1 = 0 := by omega
        have z1 : 0 < a.2.1 := by unfold hU at ha; omega
        by_cases w : 0 < c.1
        · have e : kT a b = a.2.1 * b.1 := by unfold kT; rw [z0]; grind
          have := Int.mul_pos z1 b0
          have := Int.mul_pos (show 0 < kT a b by omega) w
          omega
        · exfalso
          have w0 : c.1 = 0 := by omega
          have w1 : 0 < c.2.1 := by unfold hU at hc; omega
          have : kT b c = -(b.1 * c.2.1) := by unfold kT; rw [w0]; grind
          have := Int.mul_pos b0 w1
          omega
  · have b1 : b.1 = 0 := by unfold hU at hb; omega
    have b2 : 0 < b.2.1 := by unfold hU at hb; omega
    have e1 : kT a b = -(a.1 * b.2.1) := by unfold kT; rw [b1]; grind
    have e2 : kT b c = b.2.1 * c.1 := by unfold kT; rw [b1]; grind
    have z0 : a.1 = 0 := by
      by_cases z : 0 < a.1
      · have := Int.mul_pos z b2
        omega
      · omega
    have z1 : 0 < a.2.1 := by unfold hU at ha; omega
    have e3 : kT a c = a.2.1 * c.1 := by unfold kT; rw [z0]; grind
    have e4 : kT a b = 0 := by rw [e1, z0, Int.zero_mul]; rfl
    refine ⟨by rw [e3]; exact Int.mul_nonneg (by omega) c0, fun h => ?_⟩
    rw [e3]
    refine Int.mul_pos z1 ?_
    have : 0 < b.2.1 * c.1 := by omega
    exact pos_of_mul' b2 (by rw [Int.mul_comm]; exact this)
/-- in one half of the plane -/
def half (s : Bool) (t : Tr) : Prop := hU (if s then t else ngT t)
theorem kT_half (s : Bool) (a b : Tr) : kT (if s then a else ngT a) (if s then b else ngT b) = kT a b := by
  cases s
  · exact kT_ng a b
  · rfl
theorem half_tr {s : Bool} {a b c : Tr} (ha : half s a) (hb : half s b) (hc : half s c) (h1 : 0 ≤ kT a b) (h2 : 0 ≤ kT b c) : 0 ≤ kT a c ∧ (0 < kT a b ∨ 0 < kT b c → 0 < kT a c) := by
  have := kT_tr ha hb hc (by rw [kT_half]; exact h1) (by rw [kT_half]; exact h2)
  rw [kT_half, kT_half, kT_half] at this
  exact this
theorem posN_at (O : List Tr) (t : Tr) : ∀ k, (posN O t k = 0 ∨ ahead (gt O (posN O t k - 1)) t = true) ∧ ∀ j, posN O t k ≤ j → j < k → ahead (gt O j) t = false
  | 0 => ⟨.inl rfl, fun j _ h => absurd h (Nat.not_lt_zero _)⟩
  | k + 1 => by
    unfold posN
    split
    · rename_i h
      exact ⟨.inr h, fun j h1 h2 => by omega⟩
    · rename_i h
      obtain ⟨h1, h2⟩ := posN_at O t k
      refine ⟨h1, fun j hj hk => ?_⟩
      by_cases e : j = k
      · subst e
        simpa using h
      · exact h2 j hj (by omega)
theorem ahead_k {o t : Tr} : (ahead o t = true → 0 ≤ kT o t) ∧ (ahead o t = false → 0 ≤ kT t o) := by
  have e : kT t o = -(o.2.1 * t.1 - o.1 * t.2.1) := by unfold kT; grind
  have e2 : kT o t = o.2.1 * t.1 - o.1 * t.2.1 := rfl
  rw [e, e2]
  unfold ahead
  constructor
  · intro h
    simp at h
    omega
  · intro h
    simp at h
    omega
theorem gt_el {O : List Tr} {k : Nat} (h : k < O.length) : gt O k = O[k] := by
  unfold gt
  rw [List.getD_eq_getElem?_getD, List.getElem?_eq_getElem h]
  rfl
def srt (O : List Tr) : Prop := O.Pairwise fun a b => 0 ≤ kT a b
theorem ins_srt {s : Bool} {O : List Tr} {t : Tr} (h : srt O) (hO : ∀ x ∈ O, half s x) (ht : half s t) : srt (insT O t) := by
  obtain ⟨p1, p2⟩ := posN_at O t O.length
  have pl := posN_le O t O.length
  unfold insT
  generalize posN O t O.length = m at *
  unfold srt at *
  have sp : O.take m ++ O.drop m = O := List.take_append_drop ..
  rw [← sp, List.pairwise_append] at h
  obtain ⟨h1, h2, h3⟩ := h
  have a1 : ∀ a ∈ O.take m, 0 ≤ kT a t := fun a ha => by
    have m0 : m ≠ 0 := fun z => by rw [z] at ha; cases ha
    have hm : m - 1 < O.length := by omega
    have k1 := ahead_k.1 (p1.resolve_left m0)
    rw [gt_el hm] at k1
    obtain ⟨i, hi, e⟩ := List.mem_iff_getElem.mp ha
    rw [List.length_take] at hi
    have hi2 : i < O.length := by omega
    have e : O[i] = a := by rw [← e, List.getElem_take]
    by_cases q : i = m - 1
    · subst q
      rw [← e]
      exact k1
    · have pw := List.pairwise_iff_getElem.mp h1 i (m - 1) (by rw [List.length_take]; omega) (by rw [List.length_take]; omega) (by omega)
      rw [List.getElem_take, List.getElem_take, e] at pw
      exact (half_tr (hO a (List.mem_of_mem_take ha)) (hO _ (List.getElem_mem hm)) ht pw k1).1
  have a2 : ∀ b ∈ O.drop m, 0 ≤ kT t b := fun b hb => by
    obtain ⟨i, hi, e⟩ := List.mem_iff_getElem.mp hb
    rw [List.length_drop] at hi
    rw [List.getElem_drop] at e
    have := ahead_k.2 (p2 (m + i) (by omega) (by omega))
    rw [gt_el (by omega), e] at this
    exact this
  rw [List.pairwise_append, List.pairwise_append]
  refine ⟨⟨h1, List.pairwise_singleton .., fun a ha b hb => by rw [List.mem_singleton.mp hb]; exact a1 a ha⟩, h2, fun a ha b hb => ?_⟩
  rcases List.mem_append.mp ha with ha | ha
  · exact h3 a ha b hb
  · rw [List.mem_singleton.mp ha]
    exact a2 b hb
theorem foldl_srt {s : Bool} : ∀ (S O : List Tr), (∀ x ∈ S, half s x) → (∀ x ∈ O, half s x) → srt O → srt (S.foldl insT O)
  | [], O, _, _, h => h
  | t :: S, O, hS, hO, h => by
    have ht := hS t (List.mem_cons_self ..)
    refine foldl_srt S (insT O t) (fun x hx => hS x (List.mem_cons_of_mem _ hx)) (fun x hx => ?_) (ins_srt h hO ht)
    rcases insT_mem.mp hx with rfl | hx
    · exact ht
    · exact hO x hx
theorem ord_srt {s : Bool} {S : List Tr} (h : ∀ x ∈ S, half s x) : srt (ordT S) := foldl_srt S [] h (fun _ h => nomatch h) List.Pairwise.nil
/-! one of each direction -/
def fndT (O : List Tr) : Nat → List Tr
  | 0 => []
  | k + 1 => if isNew O k then fndT O k ++ [gt O k] else fndT O k
theorem fndT_N (O : List Tr) : ∀ k, fndN O k = (fndT O k).map fun t => t.2.2
  | 0 => rfl
  | k + 1 => by
    unfold fndN fndT
    rw [fndT_N O k]
    split
    · rw [List.map_append]; rfl
    · rfl
theorem srt_at {O : List Tr} (h : srt O) {i j : Nat} (hij : i ≤ j) (hj : j < O.length) : 0 ≤ kT (gt O i) (gt O j) := by
  by_cases e : i = j
  · subst e
    rw [kT_self]
    exact Int.le_refl 0
  · rw [gt_el (by omega), gt_el hj]
    exact List.pairwise_iff_getElem.mp h i j (by omega) hj (by omega)
theorem isNew_k {O : List Tr} {k : Nat} (h0 : k ≠ 0) : isNew O k = true ↔ kT (gt O (k - 1)) (gt O k) ≠ 0 := by
  have e : kT (gt O (k - 1)) (gt O k) = -((gt O k).2.1 * (gt O (k - 1)).1 - (gt O k).1 * (gt O (k - 1)).2.1) := by unfold kT; grind
  unfold isNew
  rw [e, decide_eq_false h0, Bool.false_or, decide_eq_true_eq]
  omega
theorem fndT_ok {s : Bool} {O : List Tr} (h : srt O) (hO : ∀ x ∈ O, half s x) : ∀ k, k ≤ O.length →
    (∀ t ∈ fndT O k, ∃ j, j < k ∧ t = gt O j) ∧ (fndT O k).Pairwise (fun a b => 0 < kT a b) ∧ (1 ≤ k → ∃ l e, fndT O k = l ++ [e] ∧ ∀ j, j < k → 0 ≤ kT (gt O j) e) ∧ (1 ≤ k → (fndT O k).head? = some (gt O 0))
  | 0, _ => ⟨fun _ h => (nomatch h), List.Pairwise.nil, fun h => by omega, fun h => by omega⟩
  | k + 1, hk => by
    obtain ⟨i1, i2, i3, i4⟩ := fndT_ok h hO k (by omega)
    have hh : ∀ j, j < O.length → half s (gt O j) := fun j hj => hO _ (gt_mem hj)
    unfold fndT
    by_cases q : isNew O k = true
    · rw [if_pos q]
      refine ⟨fun t ht => ?_, ?_, fun _ => ⟨_, _, rfl, fun j hj => srt_at h (by omega) (by omega)⟩, fun _ => ?_⟩
      · rcases List.mem_append.mp ht with ht | ht
        · obtain ⟨j, hj, e⟩ := i1 t ht
          exact ⟨j, by omega, e⟩
        · exact ⟨k, by omega, List.mem_singleton.mp ht⟩
      · rw [List.pairwise_append]
        refine ⟨i2, List.pairwise_singleton .., fun a ha b hb => ?_⟩
        rw [List.mem_singleton.mp hb]
        obtain ⟨j, hj, rfl⟩ := i1 a ha
        have k1 := srt_at h (i := j) (j := k - 1) (by omega) (by omega)
        have k2 := srt_at h (i := k - 1) (j := k) (by omega) (by omega)
        have k3 := (isNew_k (by omega)).mp q
        exact (half_tr (hh j (by omega)) (hh (k - 1) (by omega)) (hh k (by omega)) k1 k2).2 (.inr (by omega))
      · by_cases z : k = 0
        · subst z
          rfl
        · have := i4 (by omega)
          rw [List.head?_append, this]
          rfl
    · rw [if_neg q]
      have k0 : k ≠ 0 := fun z => q (by rw [z]; rfl)
      obtain ⟨l, e, e1, e2⟩ := i3 (by omega)
      refine ⟨fun t ht => ?_, i2, fun _ => ⟨l, e, e1, fun j hj => ?_⟩, fun _ => i4 (by omega)⟩
      · obtain ⟨j, hj, e⟩ := i1 t ht
        exact ⟨j, by omega, e⟩
      · by_cases z : j = k
        · subst z
          have z0 : kT (gt O (j - 1)) (gt O j) = 0 := by
            refine Decidable.not_not.mp fun w => q ((isNew_k k0).mpr w)
          have z1 := e2 (j - 1) (by omega)
          obtain ⟨i, hi, ee⟩ := i1 e (by rw [e1]; exact List.mem_append_right _ (List.mem_singleton.mpr rfl))
          have z2 : 0 ≤ kT (gt O j) (gt O (j - 1)) := by rw [kT_sw, z0]; decide
          rw [ee] at z1 ⊢
          exact (half_tr (hh j (by omega)) (hh (j - 1) (by omega)) (hh i (by omega)) z2 z1).1
        · exact e2 j (by omega)
end FL
/-! its area is positive -/
namespace FL
open PySem PySem.Spec PyProof.Rows L2
variable [TabNames]
theorem sum_lin {A : Type} (c d : Int) (f g : A → Int) : ∀ l : List A, (l.map fun x => c * f x - d * g x).sum = c * (l.map f).sum - d * (l.map g).sum
  | [] => by simp
  | x :: l => by
    have := sum_lin c d f g l
    simp only [List.map_cons, List.sum_cons, this]
    grind
theorem sum_aff {A : Type} (f : A → Int) (N M : Int) : ∀ l : List A, (l.map fun x => f x * N - M).sum = (l.map f).sum * N - M * l.length
  | [] => by simp
  | x :: l => by
    have := sum_aff f N M l
    simp only [List.map_cons, List.sum_cons, this, List.length_cons]
    grind
theorem sum_np {A : Type} (f : A → Int) : ∀ l : List A, (∀ x ∈ l, f x ≤ 0) → (l.map f).sum ≤ 0 ∧ ((l.map f).sum = 0 → ∀ x ∈ l, f x = 0)
  | [], _ => ⟨by simp, fun _ x hx => nomatch hx⟩
  | x :: l, h => by
    obtain ⟨h1, h2⟩ := sum_np f l fun y hy => h y (List.mem_cons_of_mem _ hy)
    have hx := h x (List.mem_cons_self ..)
    simp only [List.map_cons, List.sum_cons]
    refine ⟨by omega, fun e y hy => ?_⟩
    rcases List.mem_cons.mp hy with rfl | hy
    · omega
    · exact h2 (by omega) y hy
theorem mid_sum (P : List Pt) (u : Tr) : (P.map fun p => kT u (trO P p)).sum = 0 := by
  have e : (P.map fun p => kT u (trO P p)) = P.map fun p => u.2.1 * (p.1 * (P.length : Int) - (midI P).1) - u.1 * (p.2 * (P.length : Int) - (midI P).2) := rfl
  rw [e, sum_lin, sum_aff (fun p : Pt => p.1), sum_aff (fun p : Pt => p.2)]
  have e1 : (P.map fun p : Pt => p.1).sum = (midI P).1 := rfl
  have e2 : (P.map fun p : Pt => p.2).sum = (midI P).2 := rfl
  rw [e1, e2]
  grind
theorem all_flat {P : List Pt} {u : Tr} (h : ∀ p ∈ P, kT u (trO P p) ≤ 0) : ∀ p ∈ P, kT u (trO P p) = 0 := (sum_np (fun p => kT u (trO P p)) P h).2 (mid_sum P u)
theorem par {u a b : Tr} (hu : u.1 ≠ 0 ∨ u.2.1 ≠ 0) (h1 : kT u a = 0) (h2 : kT u b = 0) : kT a b = 0 := by
  have h1' : kT a u = 0 := by rw [kT_sw, h1]; rfl
  have i1 : kT a b * u.1 = kT a u * b.1 + kT u b * a.1 := by unfold kT; grind
  have i2 : kT a b * u.2.1 = kT a u * b.2.1 + kT u b * a.2.1 := by unfold kT; grind
  rw [h1', h2, Int.zero_mul, Int.zero_mul] at i1 i2
  rcases hu with hu | hu
  · exact (Int.mul_eq_zero.mp i1).resolve_right hu
  · exact (Int.mul_eq_zero.mp i2).resolve_right hu
theorem half_ne {s : Bool} {t : Tr} (h : half s t) : t.1 ≠ 0 ∨ t.2.1 ≠ 0 := by
  unfold half hU ngT at h
  cases s <;> simp at h <;> omega
theorem up_half {P : List Pt} : ∀ x ∈ upL P, half true x := fun x hx => by
  have := (List.mem_filter.mp hx).2
  unfold upT at this
  simp at this
  exact this
theorem lo_half {P : List Pt} : ∀ x ∈ loL P, half false x := fun x hx => by
  have := (List.mem_filter.mp hx).2
  unfold loT upT at this
  simp at this
  unfold half hU ngT
  simp
  omega
theorem tr_cases (P : List Pt) {p : Pt} (hp : p ∈ P) : trO P p ∈ upL P ∨ trO P p ∈ loL P ∨ ((trO P p).1 = 0 ∧ (trO P p).2.1 = 0) := by
  have hm : trO P p ∈ P.map (trO P) := List.mem_map_of_mem hp
  by_cases u : upT (trO P p) = true
  · exact .inl (List.mem_filter.mpr ⟨hm, u⟩)
  · by_cases l : loT (trO P p) = true
    · exact .inr (.inl (List.mem_filter.mpr ⟨hm, l⟩))
    · refine .inr (.inr ?_)
      have u' : upT (trO P p) = false := by simpa using u
      unfold loT at l
      rw [u'] at l
      simp at l
      exact l
theorem pw_len {l : List Tr} (h : l.Pairwise fun a b => 0 < kT a b) (z : ∀ a ∈ l, ∀ b ∈ l, kT a b = 0) : l.length ≤ 1 := by
  match l, h, z with
  | [], _, _ => simp
  | [a], _, _ => simp
  | a :: b :: r, h, z =>
    have := (List.pairwise_cons.mp h).1 b (List.mem_cons_self ..)
    have := z a (List.mem_cons_self ..) b (List.mem_cons_of_mem _ (List.mem_cons_self ..))
    omega
/-- the directions, one place of each -/
def dirs (P : List Pt) : List Tr := fndT (ordT (upL P)) (ordT (upL P)).length ++ fndT (ordT (loL P)) (ordT (loL P)).length
theorem fndL_dirs (P : List Pt) : fndL P = (dirs P).map fun t => t.2.2 := by
  unfold fndL dirs
  rw [fndT_N, fndT_N, List.map_append]
theorem upO (P : List Pt) : ∀ x ∈ ordT (upL P), half true x ∧ x ∈ P.map (trO P) := fun x hx => ⟨up_half x (ordT_mem.mp hx), (List.mem_filter.mp (ordT_mem.mp hx)).1⟩
theorem loO (P : List Pt) : ∀ x ∈ ordT (loL P), half false x ∧ x ∈ P.map (trO P) := fun x hx => ⟨lo_half x (ordT_mem.mp hx), (List.mem_filter.mp (ordT_mem.mp hx)).1⟩
theorem fnd_in {O : List Tr} {t : Tr} (h : ∀ t ∈ fndT O O.length, ∃ j, j < O.length ∧ t = gt O j) (ht : t ∈ fndT O O.length) : t ∈ O := by
  obtain ⟨j, hj, rfl⟩ := h t ht
  exact gt_mem hj
theorem not_flat {P : List Pt} (h3 : 3 ≤ (dirs P).length) {u : Tr} (hu : u.1 ≠ 0 ∨ u.2.1 ≠ 0) (h : ∀ p ∈ P, kT u (trO P p) ≤ 0) : False := by
  have z := all_flat h
  have z2 : ∀ x ∈ P.map (trO P), kT u x = 0 := fun x hx => by
    obtain ⟨p, hp, rfl⟩ := List.mem_map.mp hx
    exact z p hp
  obtain ⟨a1, a2, _, _⟩ := fndT_ok (ord_srt up_half) (fun x hx => (upO P x hx).1) (ordT (upL P)).length (Nat.le_refl _)
  obtain ⟨b1, b2, _, _⟩ := fndT_ok (ord_srt lo_half) (fun x hx => (loO P x hx).1) (ordT (loL P)).length (Nat.le_refl _)
  have l1 := pw_len a2 fun a ha b hb => par hu (z2 a (upO P a (fnd_in a1 ha)).2) (z2 b (upO P b (fnd_in a1 hb)).2)
  have l2 := pw_len b2 fun a ha b hb => par hu (z2 a (loO P a (fnd_in b1 ha)).2) (z2 b (loO P b (fnd_in b1 hb)).2)
  unfold dirs at h3
  rw [List.length_append] at h3
  omega
/-- from the last one of a half to the first one of the other -/
theorem gap {P : List Pt} (h3 : 3 ≤ (dirs P).length) {s : Bool} {A B : List Tr} (hA : ∀ x ∈ A, half s x) (hB : ∀ x ∈ B, half (!s) x) (sp : ∀ p ∈ P, trO P p ∈ A ∨ trO P p ∈ B ∨ ((trO P p).1 = 0 ∧ (trO P p).2.1 = 0))
    {u v : Tr} (hu : half s u) (hv : half (!s) v) (h1 : ∀ x ∈ A, 0 ≤ kT x u) (h2 : ∀ x ∈ B, 0 ≤ kT v x) : 0 < kT u v := by
  refine Int.not_le.mp fun hn => not_flat h3 (half_ne hu) fun p hp => ?_
  have flip : ∀ t, half (!s) t → half s (ngT t) := fun t ht => by
    unfold half at ht ⊢
    cases s
    · have e : ngT (ngT t) = t := by unfold ngT; simp
      show hU (ngT (ngT t))
      rw [e]
      exact ht
    · exact ht
  rcases sp p hp with k | k | ⟨k1, k2⟩
  · have := h1 _ k
    rw [kT_sw]
    omega
  · have g1 : 0 ≤ kT u (ngT v) := by rw [kT_ngr]; omega
    have g2 : 0 ≤ kT (ngT v) (ngT (trO P p)) := by rw [kT_ng]; exact h2 _ k
    have := (half_tr hu (flip v hv) (flip _ (hB _ k)) g1 g2).1
    rw [kT_ngr] at this
    omega
  · unfold kT
    rw [k1, k2]
    simp
theorem empty_no {P : List Pt} (h3 : 3 ≤ (dirs P).length) {s : Bool} {A : List Tr} {u : Tr} (hu : half s u) (sp : ∀ p ∈ P, trO P p ∈ A ∨ ((trO P p).1 = 0 ∧ (trO P p).2.1 = 0)) (h1 : ∀ x ∈ A, 0 ≤ kT x u) : False :=
  not_flat h3 (half_ne hu) fun p hp => by
    rcases sp p hp with k | ⟨k1, k2⟩
    · have := h1 _ k
      rw [kT_sw]
      omega
    · unfold kT
      rw [k1, k2]
      simp
/-- each one turns to the left of the one ahead of it -/
theorem dirs_pos {P : List Pt} (h3 : 3 ≤ (dirs P).length) (j : Nat) (hj : j < (dirs P).length) : 0 < kT ((dirs P).getD j (0, 0, 0, 0)) ((dirs P).getD ((j + 1) % (dirs P).length) (0, 0, 0, 0)) := by
  have sU := ord_srt (s := true) (S := upL P) up_half
  have sL := ord_srt (s := false) (S := loL P) lo_half
  obtain ⟨a1, a2, a3, a4⟩ := fndT_ok sU (fun x hx => (upO P x hx).1) (ordT (upL P)).length (Nat.le_refl _)
  obtain ⟨b1, b2, b3, b4⟩ := fndT_ok sL (fun x hx => (loO P x hx).1) (ordT (loL P)).length (Nat.le_refl _)
  have spl : ∀ p ∈ P, trO P p ∈ ordT (upL P) ∨ trO P p ∈ ordT (loL P) ∨ ((trO P p).1 = 0 ∧ (trO P p).2.1 = 0) := fun p hp => (tr_cases P hp).imp ordT_mem.mpr (Or.imp ordT_mem.mpr id)
  have hU' := fun x hx => (upO P x hx).1
  have hL' := fun x hx => (loO P x hx).1
  have all : ∀ {O : List Tr} {e : Tr}, (∀ j, j < O.length → 0 ≤ kT (gt O j) e) → ∀ x ∈ O, 0 ≤ kT x e := fun {O e} h x hx => by
    obtain ⟨i, hi, q⟩ := List.mem_iff_getElem.mp hx
    have := h i hi
    rw [gt_el hi, q] at this
    exact this
  have fst : ∀ {O : List Tr}, srt O → ∀ x ∈ O, 0 ≤ kT (gt O 0) x := fun {O} h x hx => by
    obtain ⟨i, hi, q⟩ := List.mem_iff_getElem.mp hx
    have := srt_at h (Nat.zero_le i) hi
    rw [gt_el hi, q] at this
    exact this
  -- both halves have places
  have nU : 1 ≤ (ordT (upL P)).length := by
    refine Decidable.not_not.mp fun z => ?_
    have z0 : ordT (upL P) = [] := List.eq_nil_of_length_eq_zero (by omega)
    have z1 : 1 ≤ (ordT (loL P)).length := by
      refine Decidable.not_not.mp fun w => ?_
      have w0 : ordT (loL P) = [] := List.eq_nil_of_length_eq_zero (by omega)
      unfold dirs at h3
      rw [z0, w0] at h3
      simp [fndT] at h3
    obtain ⟨l, e, e1, e2⟩ := b3 z1
    have me : e ∈ ordT (loL P) := fnd_in b1 (by rw [e1]; exact List.mem_append_right _ (List.mem_singleton.mpr rfl))
    refine empty_no h3 (A := ordT (loL P)) (hL' e me) (fun p hp => ?_) (all e2)
    rcases spl p hp with k | k | k
    · rw [z0] at k; cases k
    · exact .inl k
    · exact .inr k
  have nL : 1 ≤ (ordT (loL P)).length := by
    refine Decidable.not_not.mp fun z => ?_
    have z0 : ordT (loL P) = [] := List.eq_nil_of_length_eq_zero (by omega)
    obtain ⟨l, e, e1, e2⟩ := a3 nU
    have me : e ∈ ordT (upL P) := fnd_in a1 (by rw [e1]; exact List.mem_append_right _ (List.mem_singleton.mpr rfl))
    refine empty_no h3 (A := ordT (upL P)) (hU' e me) (fun p hp => ?_) (all e2)
    rcases spl p hp with k | k | k
    · exact .inl k
    · rw [z0] at k; cases k
    · exact .inr k
  obtain ⟨la, ea, ea1, ea2⟩ := a3 nU
  obtain ⟨lb, eb, eb1, eb2⟩ := b3 nL
  have ha := a4 nU
  have hb := b4 nL
  have mea : ea ∈ ordT (upL P) := fnd_in a1 (by rw [ea1]; exact List.mem_append_right _ (List.mem_singleton.mpr rfl))
  have meb : eb ∈ ordT (loL P) := fnd_in b1 (by rw [eb1]; exact List.mem_append_right _ (List.mem_singleton.mpr rfl))
  have g1 := gap h3 (s := true) hU' hL' spl (hU' ea mea) (hL' _ (gt_mem nL)) (all ea2) (fst sL)
  have g2 := gap h3 (s := false) hL' hU' (fun p hp => by
    rcases spl p hp with k | k | k
    · exact .inr (.inl k)
    · exact .inl k
    · exact .inr (.inr k)) (hL' eb meb) (hU' _ (gt_mem nU)) (all eb2) (fst sU)
  unfold dirs at hj ⊢
  generalize fndT (ordT (upL P)) (ordT (upL P)).length = A at *
  generalize fndT (ordT (loL P)) (ordT (loL P)).length = B at *
  generalize gt (ordT (upL P)) 0 = fa at *
  generalize gt (ordT (loL P)) 0 = fb at *
  have lA : A.length = la.length + 1 := by rw [ea1, List.length_append, List.length_singleton]
  have lB : B.length = lb.length + 1 := by rw [eb1, List.length_append, List.length_singleton]
  have dA : ∀ i, i < A.length → (A ++ B).getD i (0, 0, 0, 0) = A.getD i (0, 0, 0, 0) := fun i hi => by
    rw [List.getD_eq_getElem?_getD, List.getD_eq_getElem?_getD, List.getElem?_append_left hi]
  have dB : ∀ i, A.length ≤ i → (A ++ B).getD i (0, 0, 0, 0) = B.getD (i - A.length) (0, 0, 0, 0) := fun i hi => by
    rw [List.getD_eq_getElem?_getD, List.getD_eq_getElem?_getD, List.getElem?_append_right hi]
  have el : ∀ (C : List Tr) (i : Nat) (h : i < C.length), C.getD i (0, 0, 0, 0) = C[i] := fun C i h => by
    rw [List.getD_eq_getElem?_getD, List.getElem?_eq_getElem h]
    rfl
  have lastA : A.getD (A.length - 1) (0, 0, 0, 0) = ea := by
    rw [List.getD_eq_getElem?_getD, lA, ea1, Nat.add_sub_cancel, List.getElem?_append_right (Nat.le_refl _), Nat.sub_self]
    rfl
  have lastB : B.getD (B.length - 1) (0, 0, 0, 0) = eb := by
    rw [List.getD_eq_getElem?_getD, lB, eb1, Nat.add_sub_cancel, List.getElem?_append_right (Nat.le_refl _), Nat.sub_self]
    rfl
  have headA : A.getD 0 (0, 0, 0, 0) = fa := by
    rw [List.head?_eq_getElem?] at ha
    rw [List.getD_eq_getElem?_getD, ha]
    rfl
  have headB : B.getD 0 (0, 0, 0, 0) = fb := by
    rw [List.head?_eq_getElem?] at hb
    rw [List.getD_eq_getElem?_getD, hb]
    rfl
  rw [List.length_append] at hj ⊢
  by_cases c1 : j + 1 < A.length
  · rw [Nat.mod_eq_of_lt (by omega), dA j (by omega), dA (j + 1) c1, el A j (by omega), el A (j + 1) c1]
    exact List.pairwise_iff_getElem.mp a2 j (j + 1) (by omega) c1 (by omega)
  · by_cases c2 : j + 1 = A.length
    · rw [Nat.mod_eq_of_lt (by omega), dA j (by omega), dB (j + 1) (by omega), c2, Nat.sub_self, headB, show j = A.length - 1 by omega, lastA]
      exact g1
    · by_cases c3 : j + 1 < A.length + B.length
      · rw [Nat.mod_eq_of_lt c3, dB j (by omega), dB (j + 1) (by omega), el B _ (by omega), el B _ (by omega)]
        exact List.pairwise_iff_getElem.mp b2 (j - A.length) (j + 1 - A.length) (by omega) (by omega) (by omega)
      · have c4 : j + 1 = A.length + B.length := by omega
        rw [c4, Nat.mod_self, dB j (by omega), dA 0 (by omega), headA, show j - A.length = B.length - 1 by omega, lastB]
        exact g2
end FL
/-! the sum of what the sides span -/
namespace FL
open PySem PySem.Spec PyProof.Rows L2
variable [TabNames]
def xC (p q : Pt) : Int := p.2 * q.1 - q.2 * p.1
def gC (C : List Pt) (j : Nat) : Pt := C.getD j (0, 0)
def aC (C : List Pt) : Int := sumN C.length fun j => xC (gC C j) (gC C ((j + 1) % C.length))
theorem sumN_shift (f : Nat → Int) : ∀ k, f 0 + sumN k (fun j => f (j + 1)) = sumN (k + 1) f
  | 0 => by simp [sumN]
  | k + 1 => by
    show f 0 + (sumN k (fun j => f (j + 1)) + f (k + 1)) = sumN (k + 1) f + f (k + 1)
    rw [← sumN_shift f k]
    omega
theorem sumN_rot1 (f : Nat → Int) (N : Nat) (h : 1 ≤ N) : sumN N (fun j => f ((j + 1) % N)) = sumN N f := by
  obtain ⟨k, rfl⟩ : ∃ k, N = k + 1 := ⟨N - 1, by omega⟩
  show sumN k (fun j => f ((j + 1) % (k + 1))) + f ((k + 1) % (k + 1)) = _
  rw [Nat.mod_self, sumN_congr (Y := fun j => f (j + 1)) fun j hj => by rw [Nat.mod_eq_of_lt (by omega)], ← sumN_shift f k]
  omega
theorem sumN_lin (c : Int) (f g h : Nat → Int) : ∀ k, sumN k (fun j => c * f j + g j - h j) = c * sumN k f + sumN k g - sumN k h
  | 0 => by simp [sumN]
  | k + 1 => by
    have := sumN_lin c f g h k
    unfold sumN
    rw [this]
    grind
theorem sumN_pos (f : Nat → Int) : ∀ k, 1 ≤ k → (∀ j, j < k → 0 < f j) → 0 < sumN k f
  | 0, h, _ => by omega
  | 1, _, h => by
    have := h 0 (by decide)
    simp [sumN]
    omega
  | k + 2, _, h => by
    have e := sumN_pos f (k + 1) (by omega) fun j hj => h j (by omega)
    have := h (k + 1) (by omega)
    show 0 < sumN (k + 1) f + f (k + 1)
    omega
theorem dirs_tr (P : List Pt) : ∀ t ∈ dirs P, ∃ p ∈ P, t = trO P p := fun t ht => by
  have sU := ord_srt (s := true) (S := upL P) up_half
  have sL := ord_srt (s := false) (S := loL P) lo_half
  obtain ⟨a1, _⟩ := fndT_ok sU (fun x hx => (upO P x hx).1) (ordT (upL P)).length (Nat.le_refl _)
  obtain ⟨b1, _⟩ := fndT_ok sL (fun x hx => (loO P x hx).1) (ordT (loL P)).length (Nat.le_refl _)
  unfold dirs at ht
  rcases List.mem_append.mp ht with ht | ht
  · obtain ⟨p, hp, e⟩ := List.mem_map.mp (upO P t (fnd_in a1 ht)).2
    exact ⟨p, hp, e.symm⟩
  · obtain ⟨p, hp, e⟩ := List.mem_map.mp (loO P t (fnd_in b1 ht)).2
    exact ⟨p, hp, e.symm⟩
theorem area_fnd {P : List Pt} (h3 : 3 ≤ (fndL P).length) : 0 < aC (fndL P) := by
  have hd := fndL_dirs P
  have hl : (fndL P).length = (dirs P).length := by rw [hd, List.length_map]
  rw [hl] at h3
  have g : ∀ j, j < (dirs P).length → ∃ p ∈ P, (dirs P).getD j (0, 0, 0, 0) = trO P p ∧ gC (fndL P) j = p := fun j hj => by
    obtain ⟨p, hp, e⟩ := dirs_tr P _ (List.getElem_mem hj)
    refine ⟨p, hp, ?_, ?_⟩
    · rw [List.getD_eq_getElem?_getD, List.getElem?_eq_getElem hj, e]
      rfl
    · unfold gC
      rw [hd, List.getD_eq_getElem?_getD, List.getElem?_map, List.getElem?_eq_getElem hj, e]
      rfl
  have pl : (P.length : Int) ≠ 0 := fun z => by
    obtain ⟨p, hp, _⟩ := g 0 (by omega)
    have : P = [] := List.eq_nil_of_length_eq_zero (by omega)
    rw [this] at hp
    cases hp
  have pos := sumN_pos (fun j => kT ((dirs P).getD j (0, 0, 0, 0)) ((dirs P).getD ((j + 1) % (dirs P).length) (0, 0, 0, 0))) (dirs P).length (by omega) fun j hj => dirs_pos h3 j hj
  have F := fun p : Pt => (P.length : Int) * (midI P).1 * p.2 - (P.length : Int) * (midI P).2 * p.1
  have eq : sumN (dirs P).length (fun j => kT ((dirs P).getD j (0, 0, 0, 0)) ((dirs P).getD ((j + 1) % (dirs P).length) (0, 0, 0, 0))) = sumN (dirs P).length (fun j => ((P.length : Int) * P.length) * xC (gC (fndL P) j) (gC (fndL P) ((j + 1) % (dirs P).length)) + ((P.length : Int) * (midI P).1 * (gC (fndL P) ((j + 1) % (dirs P).length)).2 - (P.length : Int) * (midI P).2 * (gC (fndL P) ((j + 1) % (dirs P).length)).1) - ((P.length : Int) * (midI P).1 * (gC (fndL P) j).2 - (P.length : Int) * (midI P).2 * (gC (fndL P) j).1)) := sumN_congr fun j hj => by
    obtain ⟨p, _, e1, e2⟩ := g j hj
    obtain ⟨q, _, e3, e4⟩ := g ((j + 1) % (dirs P).length) (Nat.mod_lt _ (by omega))
    rw [e1, e2, e3, e4]
    unfold kT trO xC
    grind
  rw [eq, sumN_lin, sumN_rot1 (fun j => (P.length : Int) * (midI P).1 * (gC (fndL P) j).2 - (P.length : Int) * (midI P).2 * (gC (fndL P) j).1) _ (by omega)] at pos
  unfold aC
  rw [hl]
  have np : 0 < (P.length : Int) * P.length := Int.mul_pos (by omega) (by omega)
  refine pos_of_mul' np ?_
  rw [Int.mul_comm]
  omega
theorem area_around (C : List Pt) : 0 < aC (around C) := by
  unfold around
  split
  · decide +kernel
  · split
    · decide +kernel
    · exact area_fnd (by omega)
/-- the other way round -/
theorem gC_rev {C : List Pt} {j : Nat} (h : j < C.length) : gC C.reverse j = gC C (C.length - 1 - j) := by
  unfold gC
  rw [List.getD_eq_getElem?_getD, List.getD_eq_getElem?_getD, List.getElem?_reverse h]
theorem sumN_rev (f : Nat → Int) : ∀ k, sumN k (fun j => f (k - 1 - j)) = sumN k f
  | 0 => rfl
  | k + 1 => by
    have e := sumN_shift (fun j => f (k - j)) k
    have e1 : sumN k (fun j => f (k - (j + 1))) = sumN k (fun j => f (k - 1 - j)) := sumN_congr fun j _ => by rw [show k - (j + 1) = k - 1 - j by omega]
    have e2 : sumN (k + 1) (fun j => f (k + 1 - 1 - j)) = sumN (k + 1) (fun j => f (k - j)) := rfl
    rw [e2, ← e, e1, sumN_rev f k]
    show f (k - 0) + sumN k f = sumN k f + f k
    rw [Nat.sub_zero]
    omega
theorem area_rev (C : List Pt) (h : 1 ≤ C.length) : aC C.reverse = - aC C := by
  unfold aC
  rw [List.length_reverse]
  have e1 : sumN C.length (fun j => xC (gC C.reverse j) (gC C.reverse ((j + 1) % C.length))) = sumN C.length (fun j => (fun i => - xC (gC C i) (gC C ((i + 1) % C.length))) ((C.length - 1 - ((j + 1) % C.length)))) := sumN_congr fun j hj => by
    have hm : (j + 1) % C.length < C.length := Nat.mod_lt _ (by omega)
    have sw : ∀ p q : Pt, xC p q = - xC q p := fun p q => by unfold xC; grind
    have ix : (C.length - 1 - (j + 1) % C.length + 1) % C.length = C.length - 1 - j := by
      by_cases z : j + 1 = C.length
      · rw [z, Nat.mod_self, show C.length - 1 - 0 + 1 = C.length by omega, Nat.mod_self]
        omega
      · rw [Nat.mod_eq_of_lt (show j + 1 < C.length by omega), Nat.mod_eq_of_lt (by omega)]
        omega
    rw [gC_rev hj, gC_rev hm]
    show _ = - xC (gC C (C.length - 1 - (j + 1) % C.length)) (gC C ((C.length - 1 - (j + 1) % C.length + 1) % C.length))
    rw [ix]
    exact sw _ _
  rw [e1, sumN_rot1 (fun i => (fun i => - xC (gC C i) (gC C ((i + 1) % C.length))) (C.length - 1 - i)) _ h, sumN_rev (fun i => - xC (gC C i) (gC C ((i + 1) % C.length)))]
  have e2 := sumN_lin (-1) (fun i => xC (gC C i) (gC C ((i + 1) % C.length))) (fun _ => 0) (fun _ => 0) C.length
  have e3 : sumN C.length (fun i => - xC (gC C i) (gC C ((i + 1) % C.length))) = sumN C.length (fun j => -1 * xC (gC C j) (gC C ((j + 1) % C.length)) + 0 - 0) := sumN_congr fun j _ => by omega
  rw [e3, e2]
  omega
/-- triangles from the first corner -/
theorem fan (g : Nat → Pt) : ∀ k, sumN k (fun j => crs (g 0) (g (j + 1)) (g (j + 2))) = sumN (k + 1) (fun j => xC (g j) (g (j + 1))) + xC (g (k + 1)) (g 0)
  | 0 => by
    simp only [sumN]
    unfold xC
    grind
  | k + 1 => by
    have e := fan g k
    show sumN k (fun j => crs (g 0) (g (j + 1)) (g (j + 2))) + crs (g 0) (g (k + 1)) (g (k + 2)) = sumN (k + 1) (fun j => xC (g j) (g (j + 1))) + xC (g (k + 1)) (g (k + 2)) + xC (g (k + 2)) (g 0)
    rw [e]
    unfold xC crs
    grind
theorem fan_aC (C : List Pt) (h : 2 ≤ C.length) : sumN (C.length - 2) (fun j => crs (gC C 0) (gC C (j + 1)) (gC C (j + 2))) = aC C := by
  obtain ⟨k, e⟩ : ∃ k, C.length = k + 2 := ⟨C.length - 2, by omega⟩
  unfold aC
  rw [e, Nat.add_sub_cancel, fan (gC C) k]
  show _ = sumN (k + 1) (fun j => xC (gC C j) (gC C ((j + 1) % (k + 2)))) + xC (gC C (k + 1)) (gC C ((k + 1 + 1) % (k + 2)))
  have e2 : sumN (k + 1) (fun j => xC (gC C j) (gC C ((j + 1) % (k + 2)))) = sumN (k + 1) (fun j => xC (gC C j) (gC C (j + 1))) := sumN_congr fun j hj => by rw [Nat.mod_eq_of_lt (by omega)]
  rw [Nat.mod_self, e2]
end FL
/-! loops that return on the way, with what holds after k turns -/
namespace FL
open PySem PySem.Spec PyProof.Rows L2
variable [TabNames]
section
variable {ds : List D} {bt : Ev → D → Option Ev} {m1 m : Ev → Out} {ρ : Ev} {mi : Ev → R} {o : Out}
theorem for_ret2 {P : Nat → Ev → Prop} {bad : Nat → Prop} {r : D} (h0 : P 0 ρ) (hs : ∀ k ρ (hk : k < ds.length), P k ρ → ∃ ρ1, bt ρ ds[k] = some ρ1 ∧ ((bad k ∧ m1 ρ1 = .ret r) ∨ (¬ bad k ∧ ∃ ρ2, (m1 ρ1 = .nx ρ2 ∨ m1 ρ1 = .ct ρ2) ∧ P (k + 1) ρ2))) :
    ((∃ k, k < ds.length ∧ bad k) ∧ forD bt m1 ds ρ = .ret r) ∨ ((∀ k, k < ds.length → ¬ bad k) ∧ ∃ ρ', forD bt m1 ds ρ = .nx ρ' ∧ P ds.length ρ') := by
  have main : ∀ (l : List D) (k : Nat) (ρ : Ev), k + l.length = ds.length → (∀ j (hj : j < l.length), l[j]? = ds[k + j]?) → P k ρ → (∀ j, j < k → ¬ bad j) →
      ((∃ k, k < ds.length ∧ bad k) ∧ forD bt m1 l ρ = .ret r) ∨ ((∀ k, k < ds.length → ¬ bad k) ∧ ∃ ρ', forD bt m1 l ρ = .nx ρ' ∧ P ds.length ρ') := by
    intro l
    induction l with
    | nil =>
      intro k ρ e _ p nb
      have e2 : k = ds.length := by simpa using e
      subst e2
      exact .inr ⟨nb, ρ, rfl, p⟩
    | cons x l ih =>
      intro k ρ e q p nb
      have hk : k < ds.length := by simp at e; omega
      have e0 := q 0 (by simp)
      simp at e0
      have ex : x = ds[k] := by
        rw [List.getElem?_eq_getElem hk] at e0
        exact Option.some.inj e0
      obtain ⟨ρ1, h1, h2⟩ := hs k ρ hk p
      rcases h2 with ⟨hb, h3⟩ | ⟨hb, ρ2, h3, h4⟩
      · refine .inl ⟨⟨k, hk, hb⟩, ?_⟩
        unfold forD
        rw [ex, h1]
        show (match m1 ρ1 with
          | .nx ρ' => forD bt m1 l ρ'
          | .ct ρ' => forD bt m1 l ρ'
          | .bk ρ' => .nx ρ'
          | o => o) = _
        rw [h3]
      · have e4 : forD bt m1 (x :: l) ρ = forD bt m1 l ρ2 := by
          conv => lhs; unfold forD
          rw [ex, h1]
          show (match m1 ρ1 with
            | .nx ρ' => forD bt m1 l ρ'
            | .ct ρ' => forD bt m1 l ρ'
            | .bk ρ' => .nx ρ'
            | o => o) = _
          rcases h3 with h3 | h3 <;> rw [h3]
        rw [e4]
        exact ih (k + 1) ρ2 (by simp at e; omega) (fun j hj => by
          have := q (j + 1) (by simp; omega)
          simp at this
          rw [this]
          congr 1
          omega) h4 fun j hj => by
            by_cases z : j = k
            · rw [z]; exact hb
            · exact nb j (by omega)
  exact main ds 0 ρ (by simp) (fun j _ => by simp) h0 fun j hj => absurd hj (Nat.not_lt_zero j)
end
theorem comp_val {ρ : Ev} {mi mb mc : Ev → R} {bt : Ev → D → Option Ev} {vs : List Nat} {ds es : List D} (h1 : mi ρ = .ok (.list ds)) (hl : ds.length ≤ sizeLine) (h2 : compD (bt (wipeE ρ vs)) mb mc ds = .ok (.list es)) : mComp mi bt mb mc vs ρ = .ok (.list es) := by
  rw [ev_comp, h1, ev_bok, ev_compK hl, h2]
  rfl
/-- the last one -/
theorem atI_last {ds : List D} (h : 0 < ds.length) : atI ds (-1) = ds[ds.length - 1]? := by
  unfold atI
  have : ixN ds.length (-1) = some (ds.length - 1) := by
    unfold ixN
    simp
    omega
  rw [this]
  rfl
/-- in a list that goes around, all places are -/
theorem around_all {Q : Pt → Prop} {C : List Pt} (h : ∀ p ∈ C, Q p) (ht : ∀ p ∈ tri, Q p) : ∀ p ∈ around C, Q p := by
  unfold around
  split
  · exact ht
  · split
    · exact ht
    · intro p hp
      rw [fndL_dirs] at hp
      obtain ⟨t, ht, rfl⟩ := List.mem_map.mp hp
      obtain ⟨q, hq, rfl⟩ := dirs_tr (plc C) t ht
      exact h q (plc_mem.mp hq)
end FL
/-! exceptions that leave a comprehension -/
namespace FL
open PySem PySem.Spec PyProof.Rows L2
/-- what a comprehension leaves; cv: its block -/
def postC (M : Model) (A : Around) (E : Value → Shared → Prop) (use : Option (Value → Sem Unit)) (Q : Value → Shared → Prop) (acc : Value) (cv : Env) : Result → Shared → Prop
  | .ok f, z => compPost M A E use Q acc cv.locals (.ok f) z
  | .error u, z => ∃ m, z.heap.Ns cv.locals m ∧ ∀ g m2, g.Ns cv.locals m2 → Heap.SameBut cv.locals z.heap g → wpAny M A (passOn "comprehension.variables-let-go" u cv : Sem Value) (fun _ _ => False) E { z with heap := g }
theorem comp_free {M : Model} {A : Around} {E : Value → Shared → Prop} {z : Shared} {env : Env} {e : Expr} {scope : Scope} {pos : Pos} {mk fst : Sem Value} {g : Comprehension} {gs : List Comprehension} {cl : List (Str × Addr)} {use : Option (Value → Sem Unit)} {Q : Value → Shared → Prop}
    (h1 : clausesOf e = g :: gs) (h2 : ∀ x, foldedSetIterable g.iter env x = pure x) (h3 : closureFor scope env = pure cl) (h4 : scope.kind = .function) (h5 : ∀ x ∈ scope.names, x.2 = .local → scope.names.lookup x.1 = some .local)
    (h : wpAny M A fst (fun x z1 => wpAny M A (pyIter x) (fun it z2 => wpAny M A mk (fun acc z3 => wpAny M A (newFunctionEnv scope env.globals cl [] env.qual none .none (some env)) (fun cv z4 =>
      codeAny M A (.compStart e 0 it acc { cv with scope := relabel scope env }) (postC M A E use Q acc { cv with scope := relabel scope env }) z4) E z3) E z2) E z1) E z) :
    wpAny M A (comprehension e scope env pos mk false fst use) Q E z := by
  have loc : ∀ (cv : Env) (x : Str × NameKind), x ∈ (scope.names.filter fun x => (x.2 == .local || x.2 == .cell) && x.1 != (".0" : Str)).reverse → x.2 = .local → Env.kindOf { cv with scope := relabel scope env } x.1 = some .local :=
    fun cv x hx hl => lookup_relabel_local (h5 x (List.mem_filter.mp (List.mem_reverse.mp hx)).1 hl)
  unfold comprehension
  rw [h3, h1]
  have same : ∀ {E : Value → Shared → Prop}, ∀ a b, E a b → E a b := fun _ _ x => x
  refine wpAny_bind (wpAny_mono h (fun x z1 k1 => ?_) same)
  refine wpAny_bind (wpAny_standAt (wpAny_bind (wpAny_of_eq (h2 x) (wpAny_bind (wpAny_holding (wpAny_mono k1 (fun it z2 k2 => ?_) same))))))
  refine wpAny_standIf (wpAny_bind (wpAny_mono k2 (fun acc z3 k3 => ?_) same))
  refine wpAny_bind (wpAny_pure (wpAny_bind (wpAny_mono k3 (fun cv z4 k4 => ?_) same)))
  dsimp only
  refine wpAny_holding (wpAny_bind (wpAny_attempt (wpAny_holding (wpAny_run (codeAny_mono k4 fun r z5 hr => ?_)))))
  cases r with
  | ok f =>
    cases use with
    | none =>
      obtain ⟨m, hn, hq⟩ := hr
      exact wpAny_bind (wpAny_holding (wpAny_comp_letGo (cenv := { cv with scope := relabel scope env }) h4 _ z5 m (loc cv) hn fun g m2 _ sb => wpAny_pure (hq g sb)))
    | some us =>
      refine wpAny_bind (wpAny_rule (wpAny_bind (wpAny_holding (wpAny_mono hr (fun _ z6 hr6 => ?_) same))))
      obtain ⟨m, hn, hq⟩ := hr6
      have loc2 : ∀ x ∈ (scope.names.filter fun x => (x.2 == .local || x.2 == .cell) && x.1 != (".0" : Str)).reverse.drop 1 ++ (scope.names.filter fun x => (x.2 == .local || x.2 == .cell) && x.1 != (".0" : Str)).reverse.take 1, x.2 = .local → Env.kindOf { cv with scope := relabel scope env } x.1 = some .local :=
        fun x hx hl => (List.mem_append.mp hx).elim (fun k => loc cv x (List.mem_of_mem_drop k) hl) fun k => loc cv x (List.mem_of_mem_take k) hl
      exact wpAny_bind (wpAny_comp_letGo (cenv := { cv with scope := relabel scope env }) h4 _ z6 m loc2 hn fun g m2 _ sb => wpAny_pure (hq g sb))
  | error u =>
    obtain ⟨m, hn, hq⟩ := hr
    exact wpAny_bind (wpAny_holding (wpAny_comp_letGo (cenv := { cv with scope := relabel scope env }) h4 _ z5 m (loc cv) hn fun g m2 n2 sb => wpAny_mono (hq g m2 n2 sb) (fun _ _ f => f.elim) same))
/-- a frame is noted by its number -/
theorem note_same {u : Value} {e1 e2 : Env} (h : e1.frame = e2.frame) : noteFrame u e1 = noteFrame u e2 := by
  unfold noteFrame PySem.frameOf
  rw [h]
section
variable {M : Model} {A : Around} {E : Value → Shared → Prop} {z : Shared} {Z : Obj → Prop} {base : Heap} {env : Env} {outer : List Env} {L C e : Addr}
/-- noted elsewhere, noted here now -/
theorem look_other {Q : Unit → Shared → Prop} (hZ : HandSPX.Steady Z) (hfr : A.frames = some (env :: outer)) (hf : env.frame = some L) (hne : C ≠ L) (hd0 : HandSPX.HeldZ base (env :: outer) e Z C z.heap)
    (hQ : ∀ g, HandSPX.HeldZ base (env :: outer) e Z L g → z.heap.UpToSlots g → Q () { z with heap := g }) : wpAny M A (noteFrame (.ref e) env) Q E z := by
  obtain ⟨kb, en, hl, oe, vs, T, oT, ts, he, hz, hd, h1, nT, Te, hT, dT, h3⟩ := hd0
  unfold noteFrame
  simp only [hf]
  refine wpAny_bind (wpAny_field he hd h1 ?_)
  rw [if_pos (show (Value.ref T != Value.none) = true from by simp)]
  refine wpAny_bind (wpAny_field hT dT h3 ?_)
  have df : ¬ ((rawInt C == rawInt L) = true) := fun q => by
    have q2 := eq_of_beq q
    simp [rawInt] at q2
    exact hne (Int.ofNat.inj q2)
  rw [if_neg df]
  refine wpAny_bind (wpAny_setField hT dT (Array.getElem?_eq_some_iff.mp h3).1 ?_)
  have oth : ∀ b, b ≠ T → (z.heap.update T (Obj.mapFields (·.setIfInBounds 3 Value.none))).get? b = z.heap.get? b := fun b hb => Heap.get?_update_other _ _ (Ne.symm hb)
  have norec : ∀ b o, z.heap.get? b = some o → (∀ vs, o.data ≠ .fields vs) → b ≠ T := fun b o hb nf q => by
    rw [q, hT] at hb
    exact nf ts (Option.some.inj hb ▸ dT)
  have fl : (z.heap.update T (Obj.mapFields (·.setIfInBounds 3 Value.none))).FunFrames base (env :: outer) := hl.of_keeps fun b o hb nf => ⟨o, (oth b (norec b o hb nf)).trans hb, rfl⟩
  refine HandSPX.wpAny_entryZ hZ hfr fl hf ((oth e (Ne.symm Te)).trans he) (fun b o hb => (oth b fun q => by rw [q, nT] at hb; cases hb).trans (kb b o hb)) en hd (Array.getElem?_eq_some_iff.mp h1).1 hz fun g hN => ?_
  obtain ⟨y1, y2, y3, y4⟩ := hN
  exact hQ g ⟨y1, en, y2, y3⟩ fun b o hb nf => y4 b o ((oth b (norec b o hb nf)).trans hb) nf
end
theorem frames_but {base B g h : Heap} : ∀ {l : List Env}, h.FunFrames base l → (∀ b ∈ frs l, ∀ o, h.get? b = some o → g.get? b = some o) → (∀ b ∈ frs l, B.get? b = none) → g.FunFrames B l
  | [], _, _, _ => trivial
  | e :: l, ⟨hk, ⟨L, o, hf, _, ho, hd⟩, hr⟩, h1, h2 => by
    have hm : L ∈ frs (e :: l) := List.mem_filterMap.mpr ⟨e, List.mem_cons_self, hf⟩
    have more : ∀ b ∈ frs l, b ∈ frs (e :: l) := fun b hb => by
      obtain ⟨x, hx, q⟩ := List.mem_filterMap.mp hb
      exact List.mem_filterMap.mpr ⟨x, List.mem_cons_of_mem _ hx, q⟩
    exact ⟨hk, ⟨L, o, hf, h2 L hm, h1 L hm o ho, hd⟩, frames_but hr (fun b hb => h1 b (more b hb)) fun b hb => h2 b (more b hb)⟩
section
variable {X : Cx} {pins : List (Addr × Obj)} {σ : L2.St} {H3 : Hp} {z3 : Shared} {W W2 : WX}
/-- what leaves the block leaves the comprehension -/
theorem blk_out {use : Option (Value → Sem Unit)} {scope : Scope} {ce : Env} {fp : List Addr} {xe : Value → Shared → Prop} {Q : Value → Shared → Prop} {acc : Value} (I3 : Inv X pins σ H3 z3) (hs : X.stack = X.env :: X.outer) (hf : X.env.frame = some X.env.locals) (f3 : ∀ b ∈ fp, FpOk X pins H3 b)
    (tk : Takes X W) (cL : ce.locals = z3.heap.objs.size) (cF : ce.frame = X.env.frame) (hW : ∀ c d σ2 H, W2 c d σ2 H → W c d σ H) {u : Value} {z : Shared} (x : L2.XE ((X.blk z3 H3 scope ce fp).tr [] xe) W2 u z) :
    notedBy (model X.prog X.w) X.A ce (fun e z' => postC (model X.prog X.w) X.A X.xe use Q acc ce (.error e) z') u z := by
  obtain ⟨a, B, sI, pins2, σ2, H, cls, d, rfl, I, nb, up, sky, na, os, ag, w⟩ := x
  have hfr : X.A.frames = some (X.env :: X.outer) := by rw [I3.ok.frames, hs]
  have nC : H ce.locals = none := I.free
  have fC : FpOk X pins H ce.locals := by rw [cL]; exact I3.fpOk (Nat.le_refl _) (by rw [← cL]; exact nC)
  obtain ⟨c0, c1, c2, c3, c4, c5⟩ := id fC
  have CL : ce.locals ≠ X.env.locals := c1
  have Cst : ce.locals ∉ frs X.stack := fun hm => by
    rcases List.mem_cons.mp (I3.stkSub _ hm) with q | q
    · exact c1 q
    · exact c2 q
  -- the frame's own state without the exception
  have I7 : Inv X pins σ H sI := I3.call' (ch := fp) I.os I.base I.hok I.bare fun b hb => ⟨(f3 b hb).2.2.2.1, (f3 b hb).2.1, (f3 b hb).2.2.2.2.1, (f3 b hb).2.2.2.2.2⟩
  obtain ⟨m0, hn0, _⟩ := I.loc
  have hn0 : sI.heap.Ns ce.locals m0 := hn0
  have fin : ∀ g, HandSPX.HeldZ B (X.env :: X.outer) a (Zc cls d) X.env.locals g → z.heap.UpToSlots g → postC (model X.prog X.w) X.A X.xe use Q acc ce (.error (.ref a)) { z with heap := g } := fun g hh up1 => by
    have up2 := up.trans up1
    obtain ⟨ob, es, ep, hob, hdat, hk⟩ := hn0
    have nfo : ∀ vs, ob.data ≠ .fields vs := fun vs q => by rw [hdat] at q; cases q
    obtain ⟨sl, hg⟩ := up2 _ _ hob nfo
    refine ⟨m0, ⟨_, es, ep, hg, hdat, hk⟩, fun g2 m2 n2 sb => ?_⟩
    obtain ⟨kb, en, hl, oe, vs, T, oT, ts, he, hz, hd, h1, nT, Te, hT, dT, h3⟩ := hh
    have hBC : B.get? ce.locals = some ob := nb _ _ hob Cst
    have aC : a ≠ ce.locals := fun q => by rw [q, hBC] at en; cases en
    have TC : T ≠ ce.locals := fun q => by rw [q, hBC] at nT; cases nT
    obtain ⟨o2, es2, ep2, ho2, d2, _⟩ := id n2
    -- the ground and the state, with the block's variables gone
    obtain ⟨B2, b1, b2⟩ := restrict g2 fun b => (B.get? b).isSome
    have bIn : ∀ b o, B.get? b = some o → b ≠ ce.locals → B2.get? b = some o := fun b o e ne => by
      rw [b1 b (by rw [e]; rfl), sb.2 b ne]
      exact kb b o e
    have bNo : ∀ b, B.get? b = none → B2.get? b = none := fun b e => b2 b (by rw [e]; rfl)
    have bC : B2.get? ce.locals = some o2 := by rw [b1 _ (by rw [hBC]; rfl)]; exact ho2
    have bSt : B2.StaysIn g2 := fun b o e => by
      cases q : (B.get? b).isSome with
      | true => rw [b1 b q] at e; exact e
      | false => rw [b2 b q] at e; cases e
    have keep2 : ∀ b o, g.get? b = some o → b ≠ ce.locals → g2.get? b = some o := fun b o e ne => (sb.2 b ne).trans e
    have nfr : ∀ b ∈ frs (X.env :: X.outer), b ≠ ce.locals := fun b hb q => by
      rw [q, ← hs] at hb
      exact Cst hb
    have fl2 : g2.FunFrames B2 (X.env :: X.outer) := frames_but hl (fun b hb o e => keep2 b o e (nfr b hb)) fun b hb => bNo b (hl.mem hb).1
    have held : HandSPX.HeldZ B2 (X.env :: X.outer) a (Zc cls d) X.env.locals g2 := ⟨bSt, bNo a en, fl2, oe, vs, T, oT, ts, keep2 a oe he aC, hz, hd, h1, bNo T nT, Te, keep2 T oT hT TC, dT, h3⟩
    unfold PySem.passOn
    refine wpAny_bind (wpAny_field (keep2 a oe he aC) hd h1 ?_)
    rw [if_neg (show ¬ ((Value.ref T == Value.none) = true) from by simp)]
    rw [cF, hf]
    refine wpAny_bind (HandSPX.setFlight_onZ (L := X.env.locals) held fun g3 hh3 up3 => wpAny_throw ?_)
    have frd : o2.isFreed = false := (Heap.get?_some_iff.mp ho2).2
    refine tk _ _ ⟨a, B2, { sI with heap := sI.heap.update ce.locals fun _ => o2 }, pins, σ, H, cls, d, rfl, ?_, fun b o e hb => ?_, fun b o e nf => ?_, .inr (.inr (by rw [hs]; exact hh3)), na, os, ag, hW _ _ _ _ w⟩
    · exact I7.turned (t' := sI.toks) (fun b o hb e => (Heap.get?_update_other _ _ (Ne.symm hb)).trans e) c0 c1 c3 c4 c5
    · by_cases q : b = ce.locals
      · subst q
        rw [Heap.get?_update_self _ hob frd] at e
        rw [bC]
        exact e
      · rw [Heap.get?_update_other _ _ (Ne.symm q)] at e
        exact bIn b o (nb b o e hb) q
    · by_cases q : b = ce.locals
      · subst q
        rw [Heap.get?_update_self _ hob frd] at e
        cases e
        exact up3 _ _ ho2 nf
      · rw [Heap.get?_update_other _ _ (Ne.symm q)] at e
        obtain ⟨sl1, e1⟩ := up2 b o e nf
        exact up3 b { o with slots := sl1 } (keep2 b _ e1 q) nf
  have sky : Sky B (X.env :: X.outer) a (Zc cls d) ce.locals z.heap := by
    rw [← hs]
    exact sky
  unfold notedBy
  rw [note_same cF]
  rcases sky with ⟨hB, hn, hl, oe, vs, he, hz, hd, h1⟩ | fl | hd
  · exact HandSPX.look_newZ Zc.steady hfr hl hf he hB hn hd h1 hz fin
  · exact HandSPX.looks_onZ Zc.steady hfr hf fl fin
  · exact look_other Zc.steady hfr hf CL hd fin
end
end FL
/-! comprehensions that may raise -/
namespace FL
open PySem PySem.Spec PyProof.Rows L2
variable [TabNames]
section
variable {X : Cx}
/-- a block's context that lets exceptions out as xe says -/
abbrev blkX (X : Cx) (z : Shared) (H : Hp) (scope : Scope) (C : Addr) (cl : List (Str × Addr)) (fp : List Addr) (xe : Value → Shared → Prop) : Cx := (X.blk z H scope (compEnvC scope cl C X.env) fp).tr [] xe
theorem inv_xe {Y : Cx} {pins : List (Addr × Obj)} {σ : L2.St} {H : Hp} {z : Shared} {xe : Value → Shared → Prop} (I : Inv Y pins σ H z) (hp : Y.pn = []) : Inv (Y.tr [] xe) pins σ H z := by
  have ok : (Y.tr [] xe).Ok := I.ok.toTry [] xe
  exact ⟨ok, I.os, I.bare, I.base, I.loc, I.cell, I.free, I.freeC, fun p h => I.pin p (by rw [hp]; exact h), I.hok, I.len⟩
theorem raise_core {pins : List (Addr × Obj)} {z : Shared} {σ : L2.St} {H : Hp} {Q : VK} {elt tg iter : Expr} {ifs : List Expr} {scope : Scope} {own : List (Str × Nat)} {pos pos2 : Pos} {wi : TI} {g : TG} {tt : TT} {te : TE} {W W2 : WX} {use : Option (Value → Sem Unit)} {Qf : Value → Shared → Prop}
    (hc : X.calm = true) (hN : X.N.Nodup) (I : Inv X pins σ H z) (hi : PI X tg iter wi) (ok : BlkOk X.N X.env.scope scope own) (hst : X.stack = X.env :: X.outer) (hfr : X.env.frame = some X.env.locals) (tk : Takes X W) (hW : ∀ c d σ2 H, W2 c d σ2 H → W c d σ H)
    (hg : ∀ (z : Shared) (H : Hp) (C : Addr) (cl : List (Str × Addr)) (fp : List Addr) (xe : Value → Shared → Prop), PG (blkX X z H scope C cl fp xe) tg g)
    (ht : ∀ (z : Shared) (H : Hp) (C : Addr) (cl : List (Str × Addr)) (fp : List Addr) (xe : Value → Shared → Prop), Takes (blkX X z H scope C cl fp xe) W2 → PTs (blkX X z H scope C cl fp xe) ifs tt)
    (he : ∀ (z : Shared) (H : Hp) (C : Addr) (cl : List (Str × Addr)) (fp : List Addr) (xe : Value → Shared → Prop), Takes (blkX X z H scope C cl fp xe) W2 → PE (blkX X z H scope C cl fp xe) elt te) (hs : ∀ x, foldedSetIterable iter X.env x = pure x)
    (h : tLc wi g tt te (own.map (·.2)) σ H Q)
    (hR : ∀ D C z2 m H2, Inv X pins σ H2 z2 → Q (.ref D) H2 → z2.heap.Ns C m → FpOk X pins H2 C → compPost (model X.prog X.w) X.A X.xe use Qf (.ref D) C (.ok .next) z2) :
    wpAny (model X.prog X.w) X.A (comprehension (.ListComp elt [⟨tg, iter, ifs, 0⟩] scope pos) scope X.env pos2 (newList []) false (eval iter X.env) use) Qf X.xe z := by
  have free : ∀ y ∈ scope.names, y.2 = .free → ∃ c, X.env.cells.lookup y.1 = some c := fun y hy e => (ok.free y hy e).elim (fun k => I.ok.has _ (.inl k)) (fun k => I.ok.has _ (.inr k))
  refine comp_free (use := use) rfl hs (closure_ok free) ok.kind (fun y hy e => by rw [ok.uniq y hy, e]) (thn (hi.run pins z σ H _ I h) fun xv z1 hx => thn hx fun itv z2 k2 => ?_)
  obtain ⟨it, fp, tn, J, H2, e, I2, T, st2, f2, q⟩ := k2
  subst e
  refine wpAny_newObj_type (newEnv_comp ?_) (by show 0 ≤ sizeLine; decide)
  generalize eD : z2.heap.objs.size = D
  have nD : H2 D = none := I2.hok.fresh (Nat.le_of_eq eD)
  obtain ⟨V, ⟨m0, w0⟩, turn⟩ := q D nD
  generalize e3 : ({ z2 with heap := z2.heap.push { cls := .type "list", data := .seq ([] : List Value).toArray } } : Shared) = z3
  have I3 : Inv X pins σ (upd H2 D (.lst [])) z3 := by
    rw [← e3]
    refine I2.laid (t' := z2.toks) (fun b o q => Heap.get?_push_of_some _ q) (Nat.le_of_eq eD) ⟨Nat.zero_le _, [], 0, .nil, ?_⟩
    rw [← eD]
    exact Heap.get?_push_size _ rfl
  have heap3 : z3.heap = z2.heap.push { cls := .type "list", data := .seq ([] : List Value).toArray } := by rw [← e3]
  have f3 : ∀ b ∈ fp, FpOk X pins (upd H2 D (.lst [])) b ∧ b < z3.heap.objs.size := fun b hb => by
    obtain ⟨o, eo, _⟩ := T.obj _ _ st2 b hb
    have lt := Heap.lt_size eo
    refine ⟨⟨?_, (f2 b hb).2⟩, by rw [heap3, Heap.size_push]; exact Nat.lt_succ_of_lt lt⟩
    rw [upd_ne (by rw [← eD]; exact Nat.ne_of_lt lt)]
    exact (f2 b hb).1
  have st3 : tn 0 z3.heap := T.keep _ _ _ st2 fun b _ o q => by rw [heap3]; exact Heap.get?_push_of_some _ q
  have I4 := block_start I3 ok hN f3
  have nfp : ∀ b ∈ fp, (upd H2 D (.lst [])) b = none := fun b hb => (f3 b hb).1.1
  generalize eH : upd H2 D (.lst []) = H3 at I3 I4 w0 nfp f3
  generalize ecl : cellsFrom (z3.heap.objs.size + 1) scope.names (cloFrom X.env.cells scope.names []) = cl at I4
  generalize e4 : ({ z3 with heap := pushCells (z3.heap.push { cls := .type "dict", data := .dict #[] }) scope.names } : Shared) = z4 at I4
  show codeAny _ _ (.compStart (.ListComp elt [⟨tg, iter, ifs, 0⟩] scope pos) 0 (.ref it) (.ref D) (compEnvC scope cl z3.heap.objs.size X.env)) (postC (model X.prog X.w) X.A X.xe use Qf (.ref D) (compEnvC scope cl z3.heap.objs.size X.env)) z4
  -- what an exception out of the block is to reach
  obtain ⟨xe, hxe⟩ : ∃ xe : Value → Shared → Prop, xe = notedBy (model X.prog X.w) X.A (compEnvC scope cl z3.heap.objs.size X.env) fun e z' => postC (model X.prog X.w) X.A X.xe use Qf (.ref D) (compEnvC scope cl z3.heap.objs.size X.env) (.error e) z' := ⟨_, rfl⟩
  have tk2 : Takes (blkX X z3 H3 scope z3.heap.objs.size cl fp xe) W2 := fun u z5 x => by
    rw [hxe]
    exact blk_out (ce := compEnvC scope cl z3.heap.objs.size X.env) I3 hst hfr (fun b hb => (f3 b hb).1) tk rfl rfl hW x
  have pg := hg z3 H3 z3.heap.objs.size cl fp xe
  have pt := ht z3 H3 z3.heap.objs.size cl fp xe tk2
  have pe := he z3 H3 z3.heap.objs.size cl fp xe tk2
  have J4 : Inv (blkX X z3 H3 scope z3.heap.objs.size cl fp xe) [] (L2.wipe σ (own.map (·.2))) H3 z4 := inv_xe I4 rfl
  clear I4
  have st4 : tn 0 z4.heap := T.keep _ _ _ st3 fun b _ o q => by rw [← e4]; exact pushCells_keeps _ _ _ _ (Heap.get?_push_of_some _ q)
  have stat : ∀ {σ2 : L2.St} {K2 : Hp} {z5 : Shared}, Inv (blkX X z3 H3 scope z3.heap.objs.size cl fp xe) [] σ2 K2 z5 → (∀ b ∈ fp, K2 b = none) → ∀ b ∈ fp, FpOk (blkX X z3 H3 scope z3.heap.objs.size cl fp xe) [] K2 b := fun {σ2 K2 z5} J5 n5 b hb =>
    ⟨n5 b hb, (J5.ok.exf b hb).1, J5.ok.exfs b hb, .inl hb, fun x c e => (J5.ok.exf b hb).2 x c e, fun p hp => absurd (show p ∈ ([] : List (Addr × Obj)) ++ [] from hp) (by simp)⟩
  have loop : codeAny (model X.prog X.w) X.A (.compLoop (.ListComp elt [⟨tg, iter, ifs, 0⟩] scope pos) 0 (.ref it) (.ref D) (compEnvC scope cl z3.heap.objs.size X.env)) (postC (model X.prog X.w) X.A X.xe use Qf (.ref D) (compEnvC scope cl z3.heap.objs.size X.env)) z4 := by
    refine compLoop_any (fun k z5 => ∃ i K5, Inv (blkX X z3 H3 scope z3.heap.objs.size cl fp xe) [] (L2.wipe σ (own.map (·.2))) K5 z5 ∧ tn i z5.heap ∧ (∀ b ∈ fp, K5 b = none) ∧ V i k K5) ?_ m0 ⟨0, H3, J4, st4, nfp, w0⟩
    rw [← hxe]
    rintro k z5 ⟨i, K5, J5, st5, n5, w5⟩
    rcases turn i k K5 w5 with ⟨stop, qq⟩ | ⟨go, Nx, hNx, step⟩
    · refine thn (T.done (blkX X z3 H3 scope z3.heap.objs.size cl fp xe) rfl rfl rfl hc i [] z5 _ K5 xe J5 (stat J5 n5) st5 stop) fun r z6 ⟨hr, J6⟩ => ?_
      subst hr
      have I7 : Inv X pins σ K5 z6 := I3.call' (ch := fp) J6.os J6.base J6.hok J6.bare fun b hb => ⟨(f3 b hb).1.2.2.2.1, (f3 b hb).1.2.1, (f3 b hb).1.2.2.2.2.1, (f3 b hb).1.2.2.2.2.2⟩
      have nC : K5 z3.heap.objs.size = none := J6.free
      obtain ⟨m, hn, _⟩ := J6.loc
      exact hR D z3.heap.objs.size z6 m K5 I7 qq hn (I3.fpOk (Nat.le_refl _) nC)
    · refine thn (T.item (blkX X z3 H3 scope z3.heap.objs.size cl fp xe) rfl rfl rfl hc i [] z5 _ K5 xe J5 (stat J5 n5) st5 go) fun r z6 ⟨u, hr, k6⟩ => ?_
      subst hr
      refine thn k6 fun _ z7 ⟨x, K7, J7, r7, y7, st7, n7⟩ => ?_
      have J8 := J7.pinned (stat J7 n7) (T.obj _ _ st7)
      refine thn (pg.run _ z7 _ K7 x u _ J8 r7 (step x K7 y7)) fun _ z8 ⟨σ8, K8, J9, hw8, q8⟩ => ?_
      refine thn (pt.run _ z8 σ8 K8 _ J9 q8) fun b z9 ⟨K9, J10, q9⟩ => ?_
      have next : ∀ {z10 : Shared} {K10 : Hp}, Inv (blkX X z3 H3 scope z3.heap.objs.size cl fp xe) ([] ++ pinsAt fp z7.heap) σ8 K10 z10 → Nx K10 → ∃ m, m < k ∧ ∃ i K5, Inv (blkX X z3 H3 scope z3.heap.objs.size cl fp xe) [] (L2.wipe σ (own.map (·.2))) K5 z10 ∧ tn i z10.heap ∧ (∀ b ∈ fp, K5 b = none) ∧ V i m K5 := fun {z10 K10} J11 nx => by
        obtain ⟨m2, hm, w2⟩ := hNx K10 nx
        have pin2 : ∀ b ∈ fp, ∀ o, z7.heap.get? b = some o → z10.heap.get? b = some o ∧ K10 b = none := fun b hb o e =>
          let p := J11.pin (b, o) (List.mem_append_right _ (List.mem_append_right _ (mem_pinsAt hb e)))
          ⟨p.1, p.2.1⟩
        have hl : (L2.wipe σ (own.map (·.2))).length = σ8.length := by rw [← hw8, wipe_length]
        refine ⟨m2, hm, i + 1, K10, (J11.unpinned (pins := [])).weak hl (fun j v e => ?_), T.keep _ _ _ st7 fun b hb o e => (pin2 b hb o e).1, fun b hb => ?_, w2⟩
        · rw [← hw8] at e
          exact (wipe_some e).1
        · obtain ⟨o, eo, _⟩ := T.obj _ _ st7 b hb
          exact (pin2 b hb o eo).2
      cases b with
      | false =>
        simp only [Bool.false_eq_true, if_false] at q9 ⊢
        exact next J10 q9
      | true =>
        simp only [if_true] at q9 ⊢
        refine thn (pe.run _ z9 σ8 K9 _ J10 q9) fun y z10 ⟨yv, K10, J11, r10, acc, hD10, hz10, nx⟩ => ?_
        exact app_ok (X := blkX X z3 H3 scope z3.heap.objs.size cl fp xe) J11 hD10 hz10 r10 fun z11 J12 => next J12 nx
  exact codeAny_compStart_list loop (T.self X.A 0 _ _ _ st4 loop)
end
end FL
/-! comprehensions that may raise, as functions of data -/
namespace FL
open PySem PySem.Spec PyProof.Rows L2
variable [TabNames]
section
variable {X : Cx} {K : PySem.W.Frag} {mg : Str → Option Value} {G : Gx} {ρ : Ev} {σ : L2.St} {H : Hp} {pos : Pos} {tg : Expr}
def mCompX (mi : Ev → R) (bt : Ev → D → Option Ev) (mt me : Ev → R) (vs : List Nat) : Ev → R := fun ρ => (mi ρ).bind fun x => match x with
  | .list ds => if ds.length ≤ sizeLine then compD (bt (wipeE ρ vs)) mt me ds else .no
  | _ => .no
def compKX (bt : Ev → D → Option Ev) (mt me : Ev → R) (vs : List Nat) (ρ : Ev) : D → R
  | .list ds => if ds.length ≤ sizeLine then compD (bt (wipeE ρ vs)) mt me ds else .no
  | _ => .no
@[simp] theorem ev_compX {bt : Ev → D → Option Ev} {mi mt me : Ev → R} {vs : List Nat} : mCompX mi bt mt me vs ρ = (mi ρ).bind (compKX bt mt me vs ρ) := by
  unfold mCompX
  cases mi ρ with
  | ok d => cases d <;> rfl
  | _ => rfl
@[simp] theorem ev_compKX {bt : Ev → D → Option Ev} {mt me : Ev → R} {vs : List Nat} {ds : List D} (q : ds.length ≤ sizeLine) : compKX bt mt me vs ρ (.list ds) = compD (bt (wipeE ρ vs)) mt me ds := if_pos q
theorem compX_val {mi mb mc : Ev → R} {bt : Ev → D → Option Ev} {vs : List Nat} {ds : List D} {r : R} (h1 : mi ρ = .ok (.list ds)) (hl : ds.length ≤ sizeLine) (h2 : compD (bt (wipeE ρ vs)) mb mc ds = r) : mCompX mi bt mb mc vs ρ = r := by
  rw [ev_compX, h1, ev_bok, ev_compKX hl, h2]
theorem compD_ex {bt : D → Option Ev} {mt me : Ev → R} {d : D} {ds : List D} {c : Str} (h : compD bt mt me (d :: ds) = .ex c) :
    ∃ ρ1, bt d = some ρ1 ∧ (mt ρ1 = .ex c ∨ (mt ρ1 = .ok (.bool true) ∧ (me ρ1 = .ex c ∨ ∃ y, me ρ1 = .ok y ∧ compD bt mt me ds = .ex c)) ∨ (mt ρ1 = .ok (.bool false) ∧ compD bt mt me ds = .ex c)) := by
  unfold compD at h
  cases eb : bt d with
  | none => rw [eb] at h; cases h
  | some ρ1 =>
    rw [eb] at h
    refine ⟨ρ1, rfl, ?_⟩
    dsimp only at h
    cases et : mt ρ1 with
    | no => rw [et] at h; cases h
    | ex c2 => rw [et] at h; exact .inl (by cases h; rfl)
    | ok t =>
      rw [et] at h
      cases t with
      | bool b =>
        cases b with
        | false => exact .inr (.inr ⟨rfl, h⟩)
        | true =>
          refine .inr (.inl ⟨rfl, ?_⟩)
          have h : ((me ρ1).bind fun y => (compD bt mt me ds).bind fun r => consD y r) = .ex c := h
          cases em : me ρ1 with
          | no => rw [em] at h; cases h
          | ex c2 => rw [em] at h; exact .inl (by cases h; rfl)
          | ok y =>
            rw [em] at h
            have h : ((compD bt mt me ds).bind fun r => consD y r) = .ex c := h
            refine .inr ⟨y, rfl, ?_⟩
            cases ec : compD bt mt me ds with
            | no => rw [ec] at h; cases h
            | ex c2 => rw [ec] at h; cases h; rfl
            | ok r =>
              obtain ⟨rs, rfl⟩ := compD_list ec
              rw [ec] at h
              cases h
      | _ => cases h
theorem tT_imp {W2 : WX} {r : R} {Q Q2 : Bool → Hp → Prop} (h : tT K mg G.blk ρ r σ H Q) (hq : ∀ b H, Q b H → Q2 b H) : tT K mg { W := W2, xa := G.xa, lm := G.lm } ρ r σ H Q2 := by
  obtain ⟨H0, S0, S, env, p⟩ := h
  refine ⟨H0, S0, S, env, ?_⟩
  cases r with
  | ok d =>
    cases d with
    | bool b => exact fun H1 x => hq b H1 (p H1 x)
    | _ => exact p.elim
  | ex c => exact fun C H1 e x => (p C H1 e x).elim
  | no => exact p.elim
theorem tE_imp {W2 : WX} {r : R} {Q : VK} (h : tE K mg G.blk ρ r σ H Q) : tE K mg { W := W2, xa := G.xa, lm := G.lm } ρ r σ H Q := by
  obtain ⟨H0, S0, S, env, p⟩ := h
  refine ⟨H0, S0, S, env, ?_⟩
  cases r with
  | ok d => exact p
  | ex c => exact fun C H1 e x => (p C H1 e x).elim
  | no => exact p.elim
theorem tLcX_of {js vs : List Nat} {mi mt me : Ev → R} {bt : Ev → D → Option Ev} {Q : VK} (hj : ∀ j ∈ js, j ∈ vs) (hw : tL K mg G ρ (mCompX mi bt mt me vs ρ) σ H Q) :
    tLc (tI K mg G ρ (mi ρ)) (fun v σ H Q => ∃ ρ, tG K G.xa js ρ (bt ρ) v σ H Q) (fun σ2 H Q => ∃ ρ, tT K mg { W := fun c d _ H => G.W c d σ H, xa := G.xa, lm := G.lm } ρ (mt ρ) σ2 H Q) (fun σ2 H Q => ∃ ρ, tE K mg { W := fun c d _ H => G.W c d σ H, xa := G.xa, lm := G.lm } ρ (me ρ) σ2 H Q) vs σ H Q := by
  by_cases calm : ∀ c ds, mi ρ = .ok (.list ds) → compD (bt (wipeE ρ vs)) mt me ds ≠ .ex c
  · have e : mCompX mi bt mt me vs ρ = mComp mi bt mt me vs ρ := by
      unfold mCompX mComp
      cases em : mi ρ with
      | ok d =>
        cases d with
        | list ds =>
          have k := fun c => calm c ds em
          show (if ds.length ≤ sizeLine then compD (bt (wipeE ρ vs)) mt me ds else .no) = if ds.length ≤ sizeLine then (compD (bt (wipeE ρ vs)) mt me ds).calm else .no
          cases ec : compD (bt (wipeE ρ vs)) mt me ds with
          | ex c => exact absurd ec (k c)
          | _ => rfl
        | _ => rfl
      | _ => rfl
    rw [e] at hw
    refine tLc_of (K := K) (mg := mg) (G := G) hj hw |> fun h => ?_
    obtain ⟨H0, S0, S, env, p⟩ := h
    refine ⟨H0, S0, S, env, ?_⟩
    revert p
    generalize mi ρ = r
    have step : ∀ (J : It) (H1 : Hp), (∀ D, H1 D = none → ∃ W : Nat → Nat → Hp → Prop, (∃ m, W 0 m (upd H1 D (.lst []))) ∧ ∀ i m H, W i m H →
        (J.stop i H ∧ Q (.ref D) H) ∨ (J.go i H ∧ ∃ Nx : Hp → Prop, (∀ H', Nx H' → ∃ m', m' < m ∧ W (i + 1) m' H') ∧ ∀ x H', J.yld i H x H' → (∃ ρ, tG K G.xa js ρ (bt ρ) x (L2.wipe σ vs) H' fun σ2 H2 => L2.wipe σ2 vs = L2.wipe σ vs ∧ ∃ ρ, tT K mg G.blk ρ (mt ρ) σ2 H2 fun b H3 =>
          if b = true then ∃ ρ, tE K mg G.blk ρ (me ρ) σ2 H3 fun y H4 => ∃ acc, H4 D = some (.lst acc) ∧ acc.length < sizeLine ∧ Nx (upd H4 D (.lst (acc ++ [y]))) else Nx H3))) →
        (∀ D, H1 D = none → ∃ W : Nat → Nat → Hp → Prop, (∃ m, W 0 m (upd H1 D (.lst []))) ∧ ∀ i m H_1, W i m H_1 →
        (J.stop i H_1 ∧ Q (.ref D) H_1) ∨ (J.go i H_1 ∧ ∃ Nx : Hp → Prop, (∀ H', Nx H' → ∃ m', m' < m ∧ W (i + 1) m' H') ∧ ∀ x H', J.yld i H_1 x H' → (∃ ρ, tG K G.xa js ρ (bt ρ) x (L2.wipe σ vs) H' fun σ2 H2 => L2.wipe σ2 vs = L2.wipe σ vs ∧ ∃ ρ, tT K mg { W := fun c d _ H => G.W c d σ H, xa := G.xa, lm := G.lm } ρ (mt ρ) σ2 H2 fun b H3 =>
          if b = true then ∃ ρ, tE K mg { W := fun c d _ H => G.W c d σ H, xa := G.xa, lm := G.lm } ρ (me ρ) σ2 H3 fun y H4 => ∃ acc, H4 D = some (.lst acc) ∧ acc.length < sizeLine ∧ Nx (upd H4 D (.lst (acc ++ [y]))) else Nx H3))) := by
      intro J H1 p D nD
      obtain ⟨W, w0, w1⟩ := p D nD
      refine ⟨W, w0, fun i m H_1 hw => (w1 i m H_1 hw).imp id fun ⟨go, Nx, n1, n2⟩ => ⟨go, Nx, n1, fun x H' y => ?_⟩⟩
      obtain ⟨ρ1, H0, S0, S, d, env, kd, ρ2, eb, hk⟩ := n2 x H' y
      refine ⟨ρ1, H0, S0, S, d, env, kd, ρ2, eb, fun σ4 l4 s4 env4 => ?_⟩
      obtain ⟨k1, ρ3, k2⟩ := hk σ4 l4 s4 env4
      refine ⟨k1, ρ3, tT_imp k2 fun b H3 q => ?_⟩
      cases b with
      | true =>
        simp only [if_true] at q ⊢
        obtain ⟨ρ4, q⟩ := q
        exact ⟨ρ4, tE_imp q⟩
      | false => exact q
    intro p
    cases r with
    | ok x =>
      cases x with
      | list ds => exact fun H1 J x1 wd D nD => step J H1 (fun D nD => p H1 J x1 wd D nD) D nD
      | _ => exact p
    | ex c => exact p
    | no => exact p
  · obtain ⟨c, ds, em, ec⟩ : ∃ c ds, mi ρ = .ok (.list ds) ∧ compD (bt (wipeE ρ vs)) mt me ds = .ex c := by
      exact Classical.byContradiction fun z => calm fun c ds e1 e2 => z ⟨c, ds, e1, e2⟩
    obtain ⟨H0, S0, S, env, h⟩ := hw
    refine ⟨H0, S0, S, env, ?_⟩
    unfold mCompX at h
    rw [em] at h ⊢
    intro H1 J x1 wd D nD
    have h1 : LPost K mg G S H σ (if ds.length ≤ sizeLine then compD (bt (wipeE ρ vs)) mt me ds else .no) Q := h
    by_cases hz : ds.length ≤ sizeLine
    · rw [if_pos hz, ec] at h1
      have raise : ∀ C H', mg c = some (.ref C) → Ex H H' → G.W (.ref C) none σ H' := h1
      have env1 := env.mono x1
      have n0 : H0 D = none := fresh_back env1.ex0 nD
      have envS := ((env1.wipe vs).more (p := D) nD (Ex.new (o := .lst []) nD) upd_same trivial)
      have noD : ∀ i, ¬ OwnAt (L2.wipe σ vs) (wipeE ρ vs) i D := fun i o => by
        obtain ⟨_, u, hl, _⟩ := (env1.wipe vs).at_own o
        rw [nD] at hl
        cases hl
      refine ⟨fun i k H2 => k = ds.length - i ∧ i ≤ ds.length ∧ ∃ acc outs, EnvOk K G.xa H0 S0 (D :: S) H2 (L2.wipe σ vs) (wipeE ρ vs) ∧ H2 D = some (.lst acc) ∧ DpAll K (hide (D :: S) H2) acc outs ∧
        compD (bt (wipeE ρ vs)) mt me (ds.drop i) = .ex c ∧ outs.length ≤ i ∧ Ex H1 H2, ⟨ds.length, rfl, Nat.zero_le _, [], [], envS, upd_same, .nil, ec, Nat.le_refl _, Ex.new nD⟩, ?_⟩
      rintro i k H2 ⟨rfl, hi, acc, outs, env2, hD, ka, er, ho, kp⟩
      have sn : Ek (hide S H1) (hide (D :: S) H2) := hide_fresh nD kp
      have all : Ex H H2 := x1.trans kp
      have hlt : i < ds.length := by
        refine Decidable.not_not.mp fun z => ?_
        rw [List.drop_eq_nil_of_le (by omega)] at er
        cases er
      refine .inr ⟨wd.goes i H2 hlt (sn.trans hide_sub), fun H3 => ∃ acc outs, EnvOk K G.xa H0 S0 (D :: S) H3 (L2.wipe σ vs) (wipeE ρ vs) ∧ H3 D = some (.lst acc) ∧ DpAll K (hide (D :: S) H3) acc outs ∧
        compD (bt (wipeE ρ vs)) mt me (ds.drop (i + 1)) = .ex c ∧ outs.length ≤ i + 1 ∧ Ex H1 H3, fun H3 z => ⟨ds.length - (i + 1), by omega, rfl, hlt, z⟩, fun v H3 hy => ?_⟩
      obtain ⟨x3, d, hd, kd⟩ := wd.yields i H2 v H3 hlt (sn.trans hide_sub) hy
      have ed : ds.drop i = d :: ds.drop (i + 1) := by
        rw [List.drop_eq_getElem_cons hlt]
        congr 1
        rw [List.getElem?_eq_getElem hlt] at hd
        exact Option.some.inj hd
      rw [ed] at er
      obtain ⟨ρ1, eb, hb⟩ := compD_ex er
      have env3 := env2.mono x3
      refine ⟨wipeE ρ vs, H0, S0, D :: S, d, env3, kd (D :: S) env2.sH (sn.trans (hide_mono x3)), ρ1, eb, fun σ4 l4 s4 env4 => ⟨(wipe_get l4 fun j hj' => s4 j fun z => hj' (hj j z)).trans (wipe_idem σ vs), ρ1, H0, S0, D :: S, env4, ?_⟩⟩
      rcases hb with et | ⟨et, hb⟩ | ⟨et, ec2⟩
      · rw [et]
        exact fun C H4 e x4 => raise C H4 e ((all.trans x3).trans x4)
      · rw [et]
        intro H4 x4
        refine iteT ⟨ρ1, H0, S0, D :: S, env4.mono x4, ?_⟩
        rcases hb with em2 | ⟨y, em2, ec2⟩
        · rw [em2]
          exact fun C H5 e x5 => raise C H5 e (((all.trans x3).trans x4).trans x5)
        · rw [em2]
          intro H5 w x5 kw
          have x35 : Ex H2 H5 := (x3.trans x4).trans x5
          refine ⟨acc, x35.lst hD, by rw [da_length ka]; omega, acc ++ [w], outs ++ [y], (env2.mono x35).updHid List.mem_cons_self n0 (x35.lst hD) trivial trivial noD, upd_same, ?_, ec2, by rw [List.length_append, List.length_singleton]; omega, (kp.trans x35).mut nD (x35.lst hD) trivial⟩
          rw [hide_upd List.mem_cons_self]
          exact da_app1 (da_mono (hide_mono x35) ka) kw
      · rw [et]
        intro H4 x4
        have x34 : Ex H2 H4 := x3.trans x4
        exact iteF ⟨acc, outs, env2.mono x34, x34.lst hD, da_mono (hide_mono x34) ka, ec2, by omega, kp.trans x34⟩
    · rw [if_neg hz] at h1
      exact h1.elim
theorem mCompX_list {vs : List Nat} {mi mt me : Ev → R} {bt : Ev → D → Option Ev} {ρ : Ev} {d : D} (h : mCompX mi bt mt me vs ρ = .ok d) : ∃ ds, d = .list ds := by
  unfold mCompX at h
  cases er : mi ρ with
  | ok x =>
    rw [er] at h
    cases x with
    | list ds =>
      have h : (if ds.length ≤ sizeLine then compD (bt (wipeE ρ vs)) mt me ds else .no) = .ok d := h
      by_cases hz : ds.length ≤ sizeLine
      · rw [if_pos hz] at h
        exact compD_list h
      · rw [if_neg hz] at h; cases h
    | _ => cases h
  | ex c => rw [er] at h; cases h
  | no => rw [er] at h; cases h
variable {elt iter : Expr} {ifs : List Expr} {scope : Scope} {own : List (Str × Nat)} {js : List Nat} {mi mt me : Ev → R} {bt : Ev → D → Option Ev}
theorem xl_compX (hN : X.N.Nodup) (hi : XI X G tg iter mi) (ok : BlkOk X.N X.env.scope scope own) (tk : Takes X G.W)
    (hg : ∀ (z : Shared) (H : Hp) (C : Addr) (cl : List (Str × Addr)) (fp : List Addr) (xe : Value → Shared → Prop), XG (blkX X z H scope C cl fp xe) G.xa tg js bt)
    (ht : ∀ (z : Shared) (H : Hp) (C : Addr) (cl : List (Str × Addr)) (fp : List Addr) (xe : Value → Shared → Prop) (W : WX), Takes (blkX X z H scope C cl fp xe) W → XTs (blkX X z H scope C cl fp xe) { W := W, xa := G.xa, lm := G.lm } ifs mt)
    (he : ∀ (z : Shared) (H : Hp) (C : Addr) (cl : List (Str × Addr)) (fp : List Addr) (xe : Value → Shared → Prop) (W : WX), Takes (blkX X z H scope C cl fp xe) W → XE (blkX X z H scope C cl fp xe) { W := W, xa := G.xa, lm := G.lm } elt me)
    (hj : ∀ j ∈ js, j ∈ own.map (·.2) := by decide) (hc : X.calm = true := by rfl) (hst : X.stack = X.env :: X.outer := by rfl) (hfr : X.env.frame = some X.env.locals := by rfl) (hs : ∀ x, foldedSetIterable iter X.env x = pure x := by intro _; rfl) :
    XL X G (.ListComp elt [⟨tg, iter, ifs, 0⟩] scope pos) (mCompX mi bt mt me (own.map (·.2))) :=
  ⟨fun ρ => ⟨fun pins s σ H Q I h => by
    rw [eval_ListComp]
    refine raise_core (W2 := fun c d _ H => G.W c d σ H) (g := fun v σ H Q => ∃ ρ, tG X.K G.xa js ρ (bt ρ) v σ H Q) (tt := fun σ2 H Q => ∃ ρ, tT X.K X.mg { W := fun c d _ H => G.W c d σ H, xa := G.xa, lm := G.lm } ρ (mt ρ) σ2 H Q) (te := fun σ2 H Q => ∃ ρ, tE X.K X.mg { W := fun c d _ H => G.W c d σ H, xa := G.xa, lm := G.lm } ρ (me ρ) σ2 H Q)
      hc hN I (hi.pi ρ) ok hst hfr tk (fun _ _ _ _ w => w) (fun z H C cl fp xe => ⟨fun pins s' σ H' v u Q I r ⟨ρ, hw⟩ => ((hg z H C cl fp xe).pg ρ).run pins s' σ H' v u Q I r hw⟩)
      (fun z H C cl fp xe t => ⟨fun pins s' σ H' Q I ⟨ρ, hw⟩ => ((ht z H C cl fp xe _ t).pt ρ).run pins s' σ H' Q I hw⟩) (fun z H C cl fp xe t => ⟨fun pins s' σ H' Q I ⟨ρ, hw⟩ => ((he z H C cl fp xe _ t).pe ρ).run pins s' σ H' Q I hw⟩) hs (tLcX_of hj h) fun D C z2 m H2 I2 q hn f => ⟨m, hn, fun g sb => ?_⟩
    obtain ⟨f0, f1, f2, f3, f4, f5⟩ := f
    exact ⟨.ref D, H2, I2.turned (t' := z2.toks) (fun b o hb e => (sb.2 b hb).trans e) f0 f1 f3 f4 f5, rfl, q⟩⟩, fun ρ d h => mCompX_list h⟩
/-- name = [..] on one line -/
theorem s_setLcX0 (i : Nat) {y : Str} {py spos : Pos} {m : Ev → Out} (hN : X.N.Nodup) (hi : XI X G tg iter mi) (ok : BlkOk X.N X.env.scope scope own) (tk : Takes X G.W)
    (hm : ∀ ρ σ H H0 S0 S Dn, EnvOk X.K G.xa H0 S0 S H σ ρ → SPost X.K X.mg G H0 S0 (m ρ) Dn → tL X.K X.mg G ρ (mCompX mi bt mt me (own.map (·.2)) ρ) σ H (fun x H1 => gName i x σ H1 Dn.nx))
    (hg : ∀ (z : Shared) (H : Hp) (C : Addr) (cl : List (Str × Addr)) (fp : List Addr) (xe : Value → Shared → Prop), XG (blkX X z H scope C cl fp xe) G.xa tg js bt)
    (ht : ∀ (z : Shared) (H : Hp) (C : Addr) (cl : List (Str × Addr)) (fp : List Addr) (xe : Value → Shared → Prop) (W : WX), Takes (blkX X z H scope C cl fp xe) W → XTs (blkX X z H scope C cl fp xe) { W := W, xa := G.xa, lm := G.lm } ifs mt)
    (he : ∀ (z : Shared) (H : Hp) (C : Addr) (cl : List (Str × Addr)) (fp : List Addr) (xe : Value → Shared → Prop) (W : WX), Takes (blkX X z H scope C cl fp xe) W → XE (blkX X z H scope C cl fp xe) { W := W, xa := G.xa, lm := G.lm } elt me)
    (hj : ∀ j ∈ js, j ∈ own.map (·.2)) (hc : X.calm = true) (hst : X.stack = X.env :: X.outer) (hfr : X.env.frame = some X.env.locals) (hs : ∀ x, foldedSetIterable iter X.env x = pure x)
    (hi2 : X.N[i]? = some y) (hyl : X.env.scope.names.lookup y = some .local) (hsw : swapsWith (.ListComp elt [⟨tg, iter, ifs, 0⟩] scope pos) (some (.Name y py)) spos.line X.env = pure true) :
    XS X G (.Assign [.Name y py] (.ListComp elt [⟨tg, iter, ifs, 0⟩] scope pos) spos) m := ⟨fun ρ => ⟨fun pins s σ H Dn I ⟨H0, S0, S, env, h⟩ => by
  rw [exec_Assign_Name_used _ _ _ _ hsw]
  refine wpAny_bind (wpAny_standAt (wpAny_bind ?_))
  show wpAny _ X.A (do let _ ← comprehension (.ListComp elt [⟨tg, iter, ifs, 0⟩] scope pos) scope X.env (firstIterPos [⟨tg, iter, ifs, 0⟩] pos) (newList []) false (eval iter X.env) (some (assign (.Name y py) X.env))) _ _ s
  have w := tLcX_of (js := js) hj (hm ρ σ H H0 S0 S Dn env h)
  refine wpAny_bind (thn (raise_core (Qf := fun _ s' => SP X pins Dn .next s') (W2 := fun c d _ H => G.W c d σ H) (g := fun v σ H Q => ∃ ρ, tG X.K G.xa js ρ (bt ρ) v σ H Q) (tt := fun σ2 H Q => ∃ ρ, tT X.K X.mg { W := fun c d _ H => G.W c d σ H, xa := G.xa, lm := G.lm } ρ (mt ρ) σ2 H Q) (te := fun σ2 H Q => ∃ ρ, tE X.K X.mg { W := fun c d _ H => G.W c d σ H, xa := G.xa, lm := G.lm } ρ (me ρ) σ2 H Q)
      hc hN I (hi.pi ρ) ok hst hfr tk (fun _ _ _ _ w => w) (fun z H C cl fp xe => ⟨fun pins s' σ H' v u Q I r ⟨ρ, hw⟩ => ((hg z H C cl fp xe).pg ρ).run pins s' σ H' v u Q I r hw⟩)
      (fun z H C cl fp xe t => ⟨fun pins s' σ H' Q I ⟨ρ, hw⟩ => ((ht z H C cl fp xe _ t).pt ρ).run pins s' σ H' Q I hw⟩) (fun z H C cl fp xe t => ⟨fun pins s' σ H' Q I ⟨ρ, hw⟩ => ((he z H C cl fp xe _ t).pe ρ).run pins s' σ H' Q I hw⟩) hs w fun D C z2 m H2 I2 q hn f => ?_) fun _ s' hq => wpAny_pure (wpAny_pure hq))
  refine wpAny_assign_Name (store_ok2 (v := V.ref D) I2 hN hi2 (.inl hyl) rfl (fun z3 I3 ⟨a, sb, ha⟩ => ?_) (.inr hyl))
  obtain ⟨f0, f1, f2, f3, f4, f5⟩ := f
  have hCa : C ≠ a := by
    rcases ha with k | k
    · rw [k]; exact f1
    · exact fun e => f4 y a k e.symm
  exact ⟨m, hn.sameBut sb hCa, fun z4 sb4 => ⟨_, H2, I3.turned (t' := z3.toks) (fun b o hb e => (sb4.2 b hb).trans e) f0 f1 f3 f4 f5, q⟩⟩⟩⟩
theorem s_setLcX (i : Nat) {y : Str} {py spos : Pos} (hN : X.N.Nodup) (hi : XI X G tg iter mi) (ok : BlkOk X.N X.env.scope scope own) (tk : Takes X G.W)
    (hg : ∀ (z : Shared) (H : Hp) (C : Addr) (cl : List (Str × Addr)) (fp : List Addr) (xe : Value → Shared → Prop), XG (blkX X z H scope C cl fp xe) G.xa tg js bt)
    (ht : ∀ (z : Shared) (H : Hp) (C : Addr) (cl : List (Str × Addr)) (fp : List Addr) (xe : Value → Shared → Prop) (W : WX), Takes (blkX X z H scope C cl fp xe) W → XTs (blkX X z H scope C cl fp xe) { W := W, xa := G.xa, lm := G.lm } ifs mt)
    (he : ∀ (z : Shared) (H : Hp) (C : Addr) (cl : List (Str × Addr)) (fp : List Addr) (xe : Value → Shared → Prop) (W : WX), Takes (blkX X z H scope C cl fp xe) W → XE (blkX X z H scope C cl fp xe) { W := W, xa := G.xa, lm := G.lm } elt me)
    (hj : ∀ j ∈ js, j ∈ own.map (·.2) := by decide) (hc : X.calm = true := by rfl) (hst : X.stack = X.env :: X.outer := by rfl) (hfr : X.env.frame = some X.env.locals := by rfl) (hs : ∀ x, foldedSetIterable iter X.env x = pure x := by intro _; rfl)
    (hi2 : X.N[i]? = some y := by rfl) (hyl : X.env.scope.names.lookup y = some .local := by rfl) (hsw : swapsWith (.ListComp elt [⟨tg, iter, ifs, 0⟩] scope pos) (some (.Name y py)) spos.line X.env = pure true := by exact sw_true rfl rfl rfl (by decide +kernel)) :
    XS X G (.Assign [.Name y py] (.ListComp elt [⟨tg, iter, ifs, 0⟩] scope pos) spos) (mSetL i (mCompX mi bt mt me (own.map (·.2)))) :=
  s_setLcX0 i hN hi ok tk (fun ρ σ H H0 S0 S Dn env h => setL_of env (fun ρ d h => mCompX_list h) h) hg ht he hj hc hst hfr hs hi2 hyl hsw
theorem s_setLcXD (i : Nat) {y : Str} {py spos : Pos} (hN : X.N.Nodup) (hi : XI X G tg iter mi) (ok : BlkOk X.N X.env.scope scope own) (tk : Takes X G.W)
    (hg : ∀ (z : Shared) (H : Hp) (C : Addr) (cl : List (Str × Addr)) (fp : List Addr) (xe : Value → Shared → Prop), XG (blkX X z H scope C cl fp xe) G.xa tg js bt)
    (ht : ∀ (z : Shared) (H : Hp) (C : Addr) (cl : List (Str × Addr)) (fp : List Addr) (xe : Value → Shared → Prop) (W : WX), Takes (blkX X z H scope C cl fp xe) W → XTs (blkX X z H scope C cl fp xe) { W := W, xa := G.xa, lm := G.lm } ifs mt)
    (he : ∀ (z : Shared) (H : Hp) (C : Addr) (cl : List (Str × Addr)) (fp : List Addr) (xe : Value → Shared → Prop) (W : WX), Takes (blkX X z H scope C cl fp xe) W → XE (blkX X z H scope C cl fp xe) { W := W, xa := G.xa, lm := G.lm } elt me)
    (hj : ∀ j ∈ js, j ∈ own.map (·.2) := by decide) (hc : X.calm = true := by rfl) (hst : X.stack = X.env :: X.outer := by rfl) (hfr : X.env.frame = some X.env.locals := by rfl) (hs : ∀ x, foldedSetIterable iter X.env x = pure x := by intro _; rfl)
    (hi2 : X.N[i]? = some y := by rfl) (hyl : X.env.scope.names.lookup y = some .local := by rfl) (hsw : swapsWith (.ListComp elt [⟨tg, iter, ifs, 0⟩] scope pos) (some (.Name y py)) spos.line X.env = pure true := by exact sw_true rfl rfl rfl (by decide +kernel)) :
    XS X G (.Assign [.Name y py] (.ListComp elt [⟨tg, iter, ifs, 0⟩] scope pos) spos) (mSet i (mCompX mi bt mt me (own.map (·.2)))) :=
  s_setLcX0 i hN hi ok tk (fun ρ σ H H0 S0 S Dn env h => setD_of env (fun ρ d h => mCompX_list h) h) hg ht he hj hc hst hfr hs hi2 hyl hsw
end
end FL
/-! lambdas: made, handed to a def, called there -/
namespace FL
open PySem PySem.Spec PyProof.Rows L2 LamX NdefX
variable [TabNames]
section
variable {X : Cx} {pins : List (Addr × Obj)} {σ : L2.St} {H : Hp} {s : Shared}
theorem inv_lam {F : LF} {o : Obj} {t1 : Nat} {pm ctv : Value} (I : Inv X pins σ H s) (ho : o = { cls := .type "function", data := .func (F.fd pm ctv) }) :
    Inv X pins σ (upd H s.heap.objs.size (LamO s.heap.objs.size F)) { s with heap := s.heap.push o, toks := t1 } := by
  have e : (s.heap.push o).get? s.heap.objs.size = some ({ cls := .type "function", data := .func (F.fd pm ctv) } : Obj) := by
    rw [ho]
    exact Heap.get?_push_size _ rfl
  exact I.laid (a := s.heap.objs.size) (fun b u e => Heap.get?_push_of_some _ e) (Nat.le_refl _) ⟨⟨_, _, pm, ctv, e⟩, ⟨_, e⟩, fun g1 g2 ⟨od, sl, p, t, z⟩ st => ⟨od, sl, p, t, st _ z⟩⟩
/-- the lambda's object is made, its code object new or found -/
theorem lam_mk {c P : Addr} {params : Arguments} {body : Expr} {scope : Scope} {pos : Pos} {E Q : Value → Shared → Prop} (I : Inv X pins σ H s) (TB : TabB X.base X.mg c P) (hcode : X.env.code = .ref c) (hn : TabNames.nm P = X.env.qual ++ "<lambda>")
    (hT : TabS H P (TabNames.nm P)) (hdef : defaultsOf params X.env = ([], [])) (hfree : ∀ y ∈ scope.names, y.2 = .free → ∃ c, X.env.cells.lookup y.1 = some c)
    (h : ∀ (f c1 : Addr) (H1 : Hp) (s1 : Shared), Inv X pins σ H1 s1 → Ex H H1 → H f = none → H1 f = some (LamO f ⟨X.env.qual ++ "<lambda>", params, body, scope, cloFrom X.env.cells scope.names [], c1⟩) → H1 c1 = some (CodeO c1 (X.env.qual ++ "<lambda>")) → Q (.ref f) s1) :
    wpAny (model X.prog X.w) X.A (eval (.Lambda params body scope pos) X.env) Q E s := by
  obtain ⟨ps, hP, ht, ha⟩ := hT
  refine PySem.W.kla_eval hdef ?_
  have bP : s.heap.BuiltinsAt X.mg P := TB.bm.keeps I.bk
  have oP : s.heap.get? P = some { cls := .none, data := .fields ps } := I.hok P _ hP
  cases hc : codeAmong pos ps.toList with
  | none =>
    refine PySem.W.kla_makeFunction (mg := X.mg) (c := c) (P := P) (ps := ps) (closure_ok hfree) I.ok.glob (I.mod.glob.keeps I.bk) hcode (TB.code.keeps I.bk) oP ht hc TB.gP bP fun c1 ctv h1 tk hx hge hlt hrec htb => ?_
    obtain ⟨c2, oc, vs, t, e2, hoc, hd, hv⟩ := hrec
    cases e2
    have nC : H c1 = none := I.hok.fresh hge
    have I1 := inv_table (t' := tk) (more := #[rawInt pos.line, rawInt pos.col, .ref c1]) (h' := h1) I hP (fun b o hb e => hx b o hb e) htb hge ⟨oc, vs, t, hoc, hd, hv⟩
    generalize hU : upd (upd H P (.tbl (ps ++ #[rawInt pos.line, rawInt pos.col, .ref c1]))) c1 (CodeO c1 (X.env.qual ++ "<lambda>")) = U at I1
    have nF : U h1.objs.size = none := I1.hok.fresh (Nat.le_refl _)
    have nF0 : H h1.objs.size = none := I.hok.fresh (Nat.le_trans hge (Nat.le_of_lt hlt))
    have uC : U c1 = some (CodeO c1 (X.env.qual ++ "<lambda>")) := by rw [← hU]; exact upd_same
    have uP : U P = some (.tbl (ps ++ #[rawInt pos.line, rawInt pos.col, .ref c1])) := by rw [← hU, upd_ne (ne_of_none hP nC), upd_same]
    have uO : ∀ b o, H b = some o → (∀ qs, o ≠ .tbl qs) → U b = some o := fun b o e n => by
      rw [← hU, upd_ne (ne_of_none e nC), upd_ne fun z => n ps (by rw [z, hP] at e; exact (Option.some.inj e).symm)]
      exact e
    have uN : ∀ b, b ≠ P → b ≠ c1 → U b = H b := fun b n1 n2 => by rw [← hU, upd_ne n2, upd_ne n1]
    have eL : (ps ++ #[rawInt pos.line, rawInt pos.col, .ref c1]).toList = ps.toList ++ [rawInt pos.line, rawInt pos.col, .ref c1] := by simp
    have x1 : Ex H U := ⟨uO, fun b nb => by
      by_cases hb : b = P
      · rw [hb, uP]; simp
      · by_cases hb2 : b = c1
        · rw [hb2, uC]; simp
        · rw [uN b hb hb2]; exact nb, fun P2 t2 => by
      by_cases hb : P2 = P
      · rw [hb] at t2 ⊢
        refine ⟨_, uP, by rw [eL]; exact PySem.TriplesOk_snoc _ _ _ _ ht, fun p2 cv hcv => ?_⟩
        rw [eL] at hcv
        rcases among_app _ ht hcv with z | z
        · obtain ⟨c0, e1, e2⟩ := ha p2 cv z
          exact ⟨c0, e1, uO _ _ e2 codeO_ne⟩
        · exact ⟨c1, z, by rw [hn]; exact uC⟩
      · obtain ⟨qs, a1, a2, a3⟩ := t2
        refine ⟨qs, by rw [uN P2 hb (ne_of_none a1 nC)]; exact a1, a2, fun p2 cv hcv => ?_⟩
        obtain ⟨c0, e1, e2⟩ := a3 p2 cv hcv
        exact ⟨c0, e1, uO _ _ e2 codeO_ne⟩⟩
    have I2 := inv_lam (F := ⟨X.env.qual ++ "<lambda>", params, body, scope, cloFrom X.env.cells scope.names [], c1⟩) (t1 := tk) (pm := (X.mg "__name__").getD .none) (ctv := ctv) I1 rfl
    exact h h1.objs.size c1 _ _ I2 (x1.trans (Ex.new nF)) nF0 upd_same (by rw [upd_ne (Nat.ne_of_lt hlt)]; exact uC)
  | some cv =>
    obtain ⟨c1, e, hco⟩ := ha pos cv hc
    subst e
    rw [hn] at hco
    refine PySem.W.kla_makeFunctionHit (mg := X.mg) (c := c) (P := P) (ps := ps) (closure_ok hfree) I.ok.glob (I.mod.glob.keeps I.bk) hcode (TB.code.keeps I.bk) oP ht hc bP fun ctv h1 tk hx hsz => ?_
    have I1 : Inv X pins σ H { s with heap := h1, toks := tk } := I.kept hx
    have nF : H h1.objs.size = none := I1.hok.fresh (Nat.le_refl _)
    have I2 := inv_lam (F := ⟨X.env.qual ++ "<lambda>", params, body, scope, cloFrom X.env.cells scope.names [], c1⟩) (t1 := tk) (pm := (X.mg "__name__").getD .none) (ctv := ctv) I1 rfl
    exact h h1.objs.size c1 _ _ I2 (Ex.new nF) nF upd_same (by rw [upd_ne (ne_of_none hco nF)]; exact hco)
end
/-! ### its promise -/
abbrev LF.nf (F : LF) : NF := ⟨"<lambda>", F.qual, F.params, [], F.scope, F.cl, F.c⟩
structure LOk (P : Program) (w : World) (K : PySem.W.Frag) (mg : Str → Option Value) (base : Heap) (k : Nat) (f : Addr) (F : LF) (n : Nat) (fr : List Str) (ws : List (Option V)) (g : List D → R) : Prop where
  run : ∀ (A : Around) (outer : List Env) (s : Shared) (H : Hp) (us : List Value) (vs : List V) (Q : VK) (E : XK), Room k A → Env0 P w K mg base A outer s H → H f = some (LamO f F) → H F.c = some (CodeO F.c F.qual) →
    CellsAt F.cl fr ws s.heap H → Vals vs us → SpF K mg n g vs H Q E → codeAny (model P w) A (.call (.ref f) ⟨us, []⟩) (CR (L2.CX P w) outer P w H s Q E) s
/-- the lambda's function: its parameters, then what it captured -/
def startC (N : Nat) (ds : List D) (cs : List Int) : Ev := ds.map Sl.d ++ (cs.map (fun i => Sl.d (.int i)) ++ List.replicate (N - ds.length - cs.length) .un)
def lamF (N n : Nat) (m : Ev → R) (cs : List Int) (ds : List D) : R := if ds.length = n then m (startC N ds cs) else .no
def capV (cs : List Int) : List (Option V) := cs.map fun i => some (.int i)
theorem env_startC {K : PySem.W.Frag} {N : List Str} {vs : List V} {ds : List D} {cs : List Int} {H : Hp} {S : List Addr} (tb : Tbs H) (sH : ∀ l ∈ S, H l ≠ none) (k : DpAll K (hide S H) vs ds) : EnvOk K none H S S H (startF N vs (capV cs)) (startC N.length ds cs) := by
  have el := da_length k
  have at_ : ∀ (i : Nat) (x : Sl), (startC N.length ds cs)[i]? = some x → (∃ d, x = .d d ∧ ds[i]? = some d) ∨ (∃ j c, i = ds.length + j ∧ cs[j]? = some c ∧ x = .d (.int c)) ∨ x = .un := fun i x e => by
    unfold startC at e
    by_cases h : i < ds.length
    · rw [List.getElem?_append_left (by rw [List.length_map]; exact h), List.getElem?_map] at e
      cases q : ds[i]? with
      | none => rw [q] at e; cases e
      | some d => rw [q] at e; cases e; exact .inl ⟨d, rfl, rfl⟩
    · rw [List.getElem?_append_right (by rw [List.length_map]; omega), List.length_map] at e
      by_cases h2 : i - ds.length < cs.length
      · rw [List.getElem?_append_left (by rw [List.length_map]; exact h2), List.getElem?_map] at e
        cases q : cs[i - ds.length]? with
        | none => rw [q] at e; cases e
        | some c => rw [q] at e; cases e; exact .inr (.inl ⟨i - ds.length, c, by omega, q, rfl⟩)
      · rw [List.getElem?_append_right (by rw [List.length_map]; omega), List.getElem?_replicate] at e
        split at e
        · cases e; exact .inr (.inr rfl)
        · cases e
  have noO : ∀ (i : Nat) xs, (startC N.length ds cs)[i]? = some xs → xs.ow ≠ true := fun i xs z w => by
    rcases at_ i _ z with ⟨d, e, _⟩ | ⟨_, _, _, _, e⟩ | e <;> cases e <;> cases w
  refine ⟨by unfold startF startC capV; simp only [List.length_append, List.length_map, List.length_replicate, el], fun i x e => ?_, fun i j l h1 _ => ?_, Ex.refl H, fun l h => h, sH, sH, fun l h => .inl h, fun i l h1 => ?_, fun l m n => absurd m n, tb⟩
  · rcases at_ i x e with ⟨d, rfl, q⟩ | ⟨j, c, ei, q, rfl⟩ | rfl
    · obtain ⟨v, ev, kv⟩ := da_get k q
      have hi : i < vs.length := (List.getElem?_eq_some_iff.mp ev).1
      refine ⟨v, ?_, kv⟩
      unfold startF
      rw [List.getElem?_append_left (by rw [List.length_map]; exact hi), List.getElem?_map, ev]
      rfl
    · have hj : j < cs.length := (List.getElem?_eq_some_iff.mp q).1
      refine ⟨.int c, ?_, .int c⟩
      unfold startF capV
      rw [List.getElem?_append_right (by rw [List.length_map]; omega), List.length_map (f := some) (as := vs), show i - vs.length = j by omega, List.getElem?_append_left (by rw [List.length_map]; exact hj), List.getElem?_map, q]
      rfl
    · trivial
  · obtain ⟨_, xs, e, w⟩ := h1
    exact absurd w (noO i xs e)
  · obtain ⟨_, xs, e, w⟩ := h1
    exact absurd w (noO i xs e)
section
variable {P : Program} {w : World} {K : PySem.W.Frag} {mg : Str → Option Value} {base : Heap} {N ps fr : List Str} {F : LF} {f : Addr} {k : Nat} {cs : List Int} {m : Ev → R}
/-- a lambda by its body -/
theorem lam_ok (S : NScope N ps fr F.scope) (hb : ∀ (pm ctv : Value) (us : List Value), us.length = ps.length → bindArgs (F.fd pm ctv) ⟨us, []⟩ = pure (ps.zip us))
    (hbody : ∀ (A : Around) (outer : List Env) (s : Shared) (H : Hp) (E : XK), Room k (A.deeper (envF F.nf f s.heap.objs.size)) → Takes (ncx (L2.CX P w) P w K mg base N F.nf f A outer s H E) (fun cls d _ H => E cls d H) →
      XE (ncx (L2.CX P w) P w K mg base N F.nf f A outer s H E) { W := fun cls d _ H => E cls d H } F.body m) :
    LOk P w K mg base (k + 1) f F ps.length fr (capV cs) (lamF N.length ps.length m cs) := by
  refine ⟨fun A outer s H us vs Q E hr e0 hf hc C r ⟨hl, tb, Sv, ds, sH, kd, h⟩ => ?_⟩
  have lim : s.heap.NoLimit := e0.mod.nolimit.keeps fun b o e => (e0.bs b o e).1
  obtain ⟨⟨od, sl, pm, ctv, ho⟩, _, _⟩ := e0.hok f _ hf
  refine PySem.W.kla_callFunE hr.depth ho rfl S.co S.gen rfl (codeO_at e0.hok hc) ?_
  rw [hb pm ctv us (by rw [← r.length]; exact hl)]
  refine wpAny_pure (wpAny_newFunctionEnv S.nocell (fun ⟨n, _⟩ hy => S.par n (List.of_mem_zip hy).1) (fun h₁ hns hsb => ⟨lim.fresh _ hsb, ?_⟩) S.kind)
  show codeAny _ _ (.expr F.body (envF F.nf f s.heap.objs.size)) _ _
  have kp : ∀ b o, s.heap.get? b = some o → h₁.get? b = some o := fun b o e => hsb.extBut b o (Nat.ne_of_lt (Heap.lt_size e)) (Heap.get?_push_of_some _ e)
  have I : Inv (ncx (L2.CX P w) P w K mg base N F.nf f A outer s H E) [] (startF N vs (capV cs)) H { s with heap := h₁, toks := s.toks + (ps.zip us).length } := inv_startN S hr.hd e0 hl r C hns kp
  have pe := (hbody A outer s H E (hr.deeper _) (takes_of rfl rfl rfl rfl)).pe (startC N.length ds cs)
  have hm : lamF N.length ps.length m cs ds = m (startC N.length ds cs) := if_pos (by rw [← da_length kd]; exact hl)
  rw [hm] at h
  refine PySem.W.kla_codeExpr (wpAny_mono (pe.run [] _ _ H Q I ⟨H, Sv, Sv, env_startC tb sH kd, ?_⟩) (fun v s1 hq => ?_) fun e s1 hq => hq)
  · generalize m (startC N.length ds cs) = x at h
    cases x with
    | ok d => exact h
    | ex c => exact h
    | no => exact h
  · obtain ⟨v1, H1, J, rv, q⟩ := hq
    exact ⟨v1, H1, J.os, J.bare, J.base, J.hok, rv, q⟩
end
theorem cells_later {X : Cx} {pins : List (Addr × Obj)} {σ : L2.St} {H : Hp} {s : Shared} {cl : List (Str × Addr)} {fr : List Str} {ws : List (Option V)} (C : CellsAt cl fr ws X.s_0.heap X.H_0) (hx : ∀ y c, cl.lookup y = some c → c ∉ X.ex) (I : Inv X pins σ H s) : CellsAt cl fr ws s.heap H := by
  have kp : ∀ y c, cl.lookup y = some c → ∀ v, X.s_0.heap.IsCell c v → s.heap.IsCell c v := fun y c e v ⟨o, ho, hd⟩ => by
    obtain ⟨sl, q⟩ := I.base.any ho (C.all y c e).1 (hx y c e)
    exact ⟨_, q, hd⟩
  refine ⟨C.len, fun y c e => ?_, C.inj, fun i y e => ?_⟩
  · obtain ⟨n, v, z⟩ := C.all y c e
    obtain ⟨o, ho, _⟩ := id z
    exact ⟨I.base.free c o ho n (hx y c e), v, kp y c e v z⟩
  · obtain ⟨c, hc, hv⟩ := C.has i y e
    refine ⟨c, hc, fun v ev => ?_⟩
    obtain ⟨u, r, z⟩ := hv v ev
    exact ⟨u, r, kp y c hc _ z⟩
/-! ### the call in the def that got it -/
def fnK (g : List D → R) : D → R
  | .list ds => g ds
  | _ => .no
def mFn (i : Nat) (g : List D → R) (ms : Ev → R) : Ev → R := fun ρ => match ρ[i]? with
  | some .fn => (ms ρ).bind (fnK g)
  | _ => .no
section
variable {X : Cx} {G : Gx} {pos : Pos} {e : Expr} {es : List Expr} {ms : Ev → R}
theorem x_act (i : Nat) {k j n : Nat} {f : Addr} {F : LF} {fr : List Str} {ws : List (Option V)} {g : List D → R} {a : Str} {p1 : Pos} (L : LOk X.prog X.w X.K X.mg X.base k f F n fr ws g) (ln : ∀ ds, ds.length ≠ n → g ds = .no) (C : CellsAt F.cl fr ws X.s_0.heap X.H_0)
    (hxa : G.xa = some (.fn f F)) (hr : Room j X.A) (tk : Takes X G.W) (ha : XA X G (e :: es) ms) (hk : k ≤ j := by first | decide | omega) (hex : X.ex = [] := by rfl) (hN : X.N[i]? = some a := by rfl)
    (hv : Vis X.env.scope a := by first | exact Or.inl rfl | exact Or.inr (Or.inl rfl) | exact Or.inr (Or.inr rfl)) (hd : (a == ("__debug__" : Str)) = false := by decide) (hcd : (a == ("__classdict__" : Str)) = false := by decide)
    (he : starEach (e :: es) X.env = (false, eval e X.env) :: starEach es X.env := by rfl) (hpl : (backTo pos (starEach es X.env)).any (·.1) = false := by rfl) :
    XE X G (.Call (.Name a p1) (e :: es) [] pos) (mFn i g ms) := by
  refine ⟨fun ρ => ⟨fun pins s σ H Q I h => ?_⟩⟩
  obtain ⟨H0, S0, S, env, h⟩ := h
  unfold mFn at h
  split at h
  · rename_i er
    obtain ⟨f1, F1, e1, e2, e3, e4⟩ := env.sl i _ er
    rw [hxa] at e2
    cases e2
    refine wpAny_Call_Name_kw (thn ((pe_var (pos := p1) hN hv hd hcd).run pins s σ H (fun v H1 => v = .ref f ∧ H1 = H) I ⟨.ref f, e1, rfl, rfl⟩) fun u s1 ⟨v, H1, I1, r1, q1⟩ => ?_)
    obtain ⟨ev, eH⟩ := q1
    subst ev
    rw [eH] at I1
    obtain rfl : u = Value.ref f := r1
    have fnAt : ∀ {s2 : Shared} {H2 : Hp}, Inv X pins σ H2 s2 → H2 f = some (LamO f F) → PySem.W.FnAt f s2.heap := fun {s2 H2} I2 z => by
      obtain ⟨⟨od, sl, pm, ctv, ho⟩, _, _⟩ := I2.hok f _ z
      exact ⟨_, od, _, sl, ho⟩
    have hA := tA_bind (r := ms ρ) (Q' := fun vs H1 => H1 f = some (LamO f F) ∧ H1 F.c = some (CodeO F.c F.qual) ∧ SpF X.K X.mg n g vs H1 Q (WE G.W σ)) env h (fun ds H2 vs _ x hv h2 => ⟨x.k f _ e3 lamO_ne, x.k F.c _ e4 codeO_ne, spF_of ln (env.mono x).tb (env.mono x).sH hv h2⟩) (notList fun d hd => by cases d <;> first | rfl | exact (hd _ rfl).elim)
    refine PySem.W.callWith_F (first := []) (fnAt I1 e3) (thn ((ha.pa ρ).run pos pins s1 σ H _ I1 hA) fun us s2 ⟨vs, H2, I2, r, h1, h2, q⟩ => ⟨fnAt I2 h1, ?_⟩) he hpl
    show wpAny _ _ (call (.ref f) us) _ _ _
    refine wpAny_call (codeAny_mono (L.run X.A X.stack s2 H2 us vs Q (WE G.W σ) (hr.mono hk) I2.env0 h1 h2 (cells_later C (fun y c _ => by rw [hex]; simp) I2) r q) fun r s3 hq => ?_)
    cases r with
    | error e => exact passAt tk σ pins H2 s2 e s3 I2 hq
    | ok fl =>
      cases fl with
      | ret u => exact I2.after hq
      | next => exact False.elim hq
      | brk => exact False.elim hq
      | cont => exact False.elim hq
  · exact h.elim
end
end FL
/-! f(.., lambda ..: ..) -/
namespace FL
open PySem PySem.Spec PyProof.Rows L2 LamX NdefX
variable [TabNames]
/-- arguments, a lambda behind them -/
def ALPost (K : PySem.W.Frag) (mg : Str → Option Value) (G : Gx) (mk : Addr → LF) (S : List Addr) (H : Hp) (σ : L2.St) (r : R) (Q : List V → Hp → Prop) : Prop :=
  match r with
  | .ok (.list ds) => ∀ H' vs f c, Ex H H' → DpAll K (hide S H') vs ds → H' f = some (LamO f (mk c)) → H' c = some (CodeO c (mk c).qual) → Q (vs ++ [.ref f]) H'
  | .ok _ => False
  | .ex c => ∀ C H', mg c = some (.ref C) → Ex H H' → G.W (.ref C) none σ H'
  | .no => False
def tAL (K : PySem.W.Frag) (mg : Str → Option Value) (G : Gx) (mk : Addr → LF) (ρ : Ev) (r : R) : TA := fun σ H Q => ∃ H0 S0 S, EnvOk K G.xa H0 S0 S H σ ρ ∧ ALPost K mg G mk S H σ r Q
structure XAL (X : Cx) (G : Gx) (mk : Addr → LF) (es : List Expr) (m : Ev → R) : Prop where
  pa : ∀ ρ, PA X es (tAL X.K X.mg G mk ρ (m ρ))
section
variable {X : Cx} {G : Gx} {pos : Pos} {e : Expr} {es : List Expr} {ma mb ms : Ev → R} {mk : Addr → LF}
/-- the words of the lambda that the running frame makes -/
def lamW (X : Cx) (params : Arguments) (body : Expr) (scope : Scope) (c : Addr) : LF := ⟨X.env.qual ++ "<lambda>", params, body, scope, cloFrom X.env.cells scope.names [], c⟩
/-- what the making asks of the def that runs: its code object, its table -/
structure Mk (X : Cx) : Prop where
  ex : ∃ c P, TabB X.base X.mg c P ∧ X.env.code = .ref c ∧ P ∈ TabNames.ps ∧ TabNames.nm P = X.env.qual ++ "<lambda>"
theorem pe_lam {params : Arguments} {body : Expr} {scope : Scope} {lpos : Pos} (M : Mk X) (hdef : defaultsOf params X.env = ([], [])) (hfree : ∀ y ∈ scope.names, y.2 = .free → X.env.scope.names.lookup y.1 = some .cell ∨ X.env.scope.names.lookup y.1 = some .free) :
    PE X (.Lambda params body scope lpos) (fun σ H Q => Tbs H ∧ ∀ f c H1, Ex H H1 → H1 f = some (LamO f (lamW X params body scope c)) → H1 c = some (CodeO c (X.env.qual ++ "<lambda>")) → Q (.ref f) H1) := by
  refine ⟨fun pins s σ H Q I ⟨tb, h⟩ => ?_⟩
  obtain ⟨c, P, TB, hc, hP, hn⟩ := M.ex
  exact lam_mk I TB hc hn (tb P hP) hdef (fun y hy e => (hfree y hy e).elim (fun z => I.ok.has _ (.inl z)) fun z => I.ok.has _ (.inr z)) fun f c1 H1 s1 I1 x _ h1 h2 => ⟨.ref f, H1, I1, rfl, h f c1 H1 x h1 h2⟩
theorem xal_lam {params : Arguments} {body : Expr} {scope : Scope} {lpos : Pos} (M : Mk X) (hdef : defaultsOf params X.env = ([], []) := by rfl) (hfree : ∀ y ∈ scope.names, y.2 = .free → X.env.scope.names.lookup y.1 = some .cell ∨ X.env.scope.names.lookup y.1 = some .free)
    (hs : starEach [.Lambda params body scope lpos] X.env = (false, eval (.Lambda params body scope lpos) X.env) :: starEach [] X.env := by rfl) : XAL X G (lamW X params body scope) [.Lambda params body scope lpos] mNil :=
  ⟨fun ρ => (pa_cons (pe_lam M hdef hfree) pa_nil hs).imp fun σ H Q ⟨H0, S0, S, env, h⟩ => ⟨env.tb, fun f c H1 x h1 h2 => h H1 [] f c x .nil h1 h2⟩⟩
theorem xal_cons (ha : XE X G e ma) (hb : XAL X G mk es mb) (hs : starEach (e :: es) X.env = (false, eval e X.env) :: starEach es X.env := by rfl) : XAL X G mk (e :: es) (mCons ma mb) := ⟨fun ρ => (pa_cons (ha.pe ρ) (hb.pa ρ) hs).imp fun σ H Q ⟨H0, S0, S, env, h⟩ => by
  unfold mCons at h
  refine ⟨H0, S0, S, env, ?_⟩
  generalize ma ρ = q1 at h
  generalize mb ρ = q2 at h
  cases q1 with
  | ok d =>
    intro H1 v x1 hv
    refine ⟨H0, S0, S, env.mono x1, ?_⟩
    cases q2 with
    | ok y =>
      cases y with
      | list ds => exact fun H2 vs f c x2 hvs h1 h2 => h H2 (v :: vs) f c (x1.trans x2) (.cons (dp_mono (hide_mono x2) hv) hvs) h1 h2
      | _ => exact h
    | ex c => exact fun C H2 k x => h C H2 k (x1.trans x)
    | no => exact h
  | ex c => exact h
  | no => exact h⟩
/-! ### the captured numbers -/
def capI : List Nat → Ev → Option (List Int)
  | [], _ => some []
  | j :: js, ρ => match ρ[j]? with
    | some (.d (.int i)) => (capI js ρ).map (i :: ·)
    | _ => none
theorem capI_at {K : PySem.W.Frag} {xa : Option Hx} {H0 H : Hp} {S0 S : List Addr} {σ : L2.St} {ρ : Ev} (env : EnvOk K xa H0 S0 S H σ ρ) : ∀ {js : List Nat} {cs : List Int}, capI js ρ = some cs → js.map (slotAt σ) = capV cs
  | [], cs, h => by cases h; rfl
  | j :: js, cs, h => by
    unfold capI at h
    split at h
    · rename_i i er
      obtain ⟨v, ev, kv⟩ := env.sl j _ er
      cases kv
      cases q : capI js ρ with
      | none => rw [q] at h; cases h
      | some l =>
        rw [q] at h
        cases h
        rw [List.map_cons, slotAt_of ev, capI_at env q]
        rfl
    · cases h
/-- the slots of a def that got a function behind its other arguments -/
def startG (N : Nat) (ds : List D) : Ev := ds.map Sl.d ++ (.fn :: List.replicate (N - ds.length - 1) .un)
def lamK (nN nP : Nat) (M : (List D → R) → Ev → Out) (go : Option (List D → R)) : D → R
  | .list ds => match go with
    | some g => if ds.length = nP then bodyR (M g (startG nN ds)) else .no
    | none => .no
  | _ => .no
def mCallL (nN nP : Nat) (M : (List D → R) → Ev → Out) (js : List Nat) (gl : List Int → List D → R) (ms : Ev → R) : Ev → R := fun ρ => (ms ρ).bind (lamK nN nP M ((capI js ρ).map gl))
theorem env_startG {K : PySem.W.Frag} {N : List Str} {vs : List V} {ds : List D} {f : Addr} {F : LF} {H : Hp} {S : List Addr} (hN : ds.length < N.length) (tb : Tbs H) (sH : ∀ l ∈ S, H l ≠ none) (k : DpAll K (hide S H) vs ds) (h1 : H f = some (LamO f F)) (h2 : H F.c = some (CodeO F.c F.qual)) :
    EnvOk K (some (.fn f F)) H S S H (L2.start N (vs ++ [.ref f])) (startG N.length ds) := by
  have el := da_length k
  have at_ : ∀ (i : Nat) (x : Sl), (startG N.length ds)[i]? = some x → (∃ d, x = .d d ∧ ds[i]? = some d) ∨ (i = ds.length ∧ x = .fn) ∨ x = .un := fun i x e => by
    unfold startG at e
    by_cases h : i < ds.length
    · rw [List.getElem?_append_left (by rw [List.length_map]; exact h), List.getElem?_map] at e
      cases q : ds[i]? with
      | none => rw [q] at e; cases e
      | some d => rw [q] at e; cases e; exact .inl ⟨d, rfl, rfl⟩
    · rw [List.getElem?_append_right (by rw [List.length_map]; omega), List.length_map] at e
      by_cases h3 : i - ds.length = 0
      · rw [h3] at e
        cases e
        exact .inr (.inl ⟨by omega, rfl⟩)
      · rw [List.getElem?_cons, if_neg h3, List.getElem?_replicate] at e
        split at e
        · cases e; exact .inr (.inr rfl)
        · cases e
  have noO : ∀ (i : Nat) xs, (startG N.length ds)[i]? = some xs → xs.ow ≠ true := fun i xs z w => by
    rcases at_ i _ z with ⟨d, e, _⟩ | ⟨_, e⟩ | e <;> cases e <;> cases w
  refine ⟨by unfold L2.start startG; simp only [List.length_append, List.length_map, List.length_replicate, List.length_cons, List.length_nil, el]; omega, fun i x e => ?_, fun i j l h1 _ => ?_, Ex.refl H, fun l h => h, sH, sH, fun l h => .inl h, fun i l h1 => ?_, fun l m n => absurd m n, tb⟩
  · unfold L2.start
    rcases at_ i x e with ⟨d, rfl, q⟩ | ⟨ei, rfl⟩ | rfl
    · obtain ⟨v, ev, kv⟩ := da_get k q
      have hi : i < vs.length := (List.getElem?_eq_some_iff.mp ev).1
      refine ⟨v, ?_, kv⟩
      rw [List.getElem?_append_left (by rw [List.length_map, List.length_append]; omega), List.getElem?_map, List.getElem?_append_left hi, ev]
      rfl
    · refine ⟨f, F, ?_, rfl, h1, h2⟩
      rw [List.getElem?_append_left (by rw [List.length_map, List.length_append, List.length_singleton]; omega), List.getElem?_map, List.getElem?_append_right (by omega), show i - vs.length = 0 by omega]
      rfl
    · trivial
  · obtain ⟨_, xs, e, w⟩ := h1
    exact absurd w (noO i xs e)
  · obtain ⟨_, xs, e, w⟩ := h1
    exact absurd w (noO i xs e)
end
section
variable {X : Cx} {G : Gx} {pos : Pos} {e : Expr} {es : List Expr} {ms : Ev → R}
theorem tAL_bind {K : PySem.W.Frag} {mg : Str → Option Value} {G : Gx} {mk : Addr → LF} {ρ : Ev} {r : R} {f : D → R} {σ : L2.St} {H H0 : Hp} {S0 S : List Addr} {Q : VK} {Q' : List V → Hp → Prop} (env : EnvOk K G.xa H0 S0 S H σ ρ) (h : RPost K mg G S H σ (r.bind f) Q)
    (k : ∀ ds H' vs a c, r = .ok (.list ds) → Ex H H' → DpAll K (hide S H') vs ds → H' a = some (LamO a (mk c)) → H' c = some (CodeO c (mk c).qual) → RPost K mg G S H' σ (f (.list ds)) Q → Q' (vs ++ [.ref a]) H') (kn : ∀ d, (∀ ds, d ≠ .list ds) → f d = .no) : tAL K mg G mk ρ r σ H Q' := by
  refine ⟨H0, S0, S, env, ?_⟩
  cases r with
  | ok d =>
    cases d with
    | list ds => exact fun H1 vs a c x hv h1 h2 => k ds H1 vs a c rfl x hv h1 h2 (RPost.mono h x)
    | _ =>
      have h1 : RPost K mg G S H σ (f _) Q := h
      rw [kn _ fun ds z => by cases z] at h1
      exact h1.elim
  | ex c => exact h
  | no => exact h
/-- f(.., lambda ..: ..) -/
theorem x_callL {k j kL : Nat} {x : Str} {st : Stmt} {ps N : List Str} {fa : Addr} {fd : FuncData} {p : Pos} {params : Arguments} {body : Expr} {scope : Scope} {NL pL fr : List Str} {js : List Nat} {mL : Ev → R} {M : (List D → R) → Ev → Out} (nN nP nL nA : Nat)
    (dA : DefAt X.K X.mg x st ps fa fd) (Sg : FnScope N ps (defScope st)) (eN : N.length = nN) (eP : ps.length = nP + 1) (hlt : nP < nN) (eL : NL.length = nL) (eA : pL.length = nA) (hr : Room j X.A) (tk : Takes X G.W)
    (hbody : ∀ (cdv : Value) (A : Around) (outer : List Env) (s : Shared) (H : Hp) (E : XK) (f : Addr) (F : LF) (ws : List (Option V)) (g : List D → R), Room k (A.deeper (envOfC x (defScope st) s.heap.objs.size fa cdv)) →
      Takes (cxOf (L2.CX X.prog X.w) X.prog X.w X.K X.mg X.base N x (defScope st) fa cdv A outer s H E) (fun cls d _ H => E cls d H) →
      LOk X.prog X.w X.K X.mg X.base (kL + 1) f F nA fr ws g → (∀ ds, ds.length ≠ nA → g ds = .no) → CellsAt F.cl fr ws s.heap H →
      XSs (cxOf (L2.CX X.prog X.w) X.prog X.w X.K X.mg X.base N x (defScope st) fa cdv A outer s H E) { W := fun cls d _ H => E cls d H, xa := some (.fn f F) } (defBody st) (M g))
    (SL : NScope NL pL fr scope) (hbL : ∀ (q : Str) (cl : List (Str × Addr)) (pm cv ctv : Value) (us : List Value), us.length = pL.length → bindArgs (PySem.W.kla_fn "<lambda>" q params body scope cl pm cv ctv) ⟨us, []⟩ = pure (pL.zip us))
    (hB : ndefB X.env.scope scope fr = true) (hjs : js.map (fun j => X.N[j]?) = fr.map some)
    (hlam : ∀ (f c : Addr) (A : Around) (outer : List Env) (s : Shared) (H : Hp) (E : XK), Room kL (A.deeper (envF (lamW X params body scope c).nf f s.heap.objs.size)) →
      Takes (ncx (L2.CX X.prog X.w) X.prog X.w X.K X.mg X.base NL (lamW X params body scope c).nf f A outer s H E) (fun cls d _ H => E cls d H) →
      XE (ncx (L2.CX X.prog X.w) X.prog X.w X.K X.mg X.base NL (lamW X params body scope c).nf f A outer s H E) { W := fun cls d _ H => E cls d H } body mL)
    (ha : XAL X G (lamW X params body scope) (e :: es) ms) (hk : k + 1 ≤ j := by first | decide | omega) (hg : Gl X x := by rfl)
    (hdb : (x == ("__debug__" : Str)) = false := by decide) (he : starEach (e :: es) X.env = (false, eval e X.env) :: starEach es X.env := by rfl) (hpl : (backTo pos (starEach es X.env)).any (·.1) = false := by rfl) :
    XE X G (.Call (.Name x p) (e :: es) [] pos) (mCallL nN nP M js (lamF nL nA mL) ms) := by
  subst eN eL eA
  refine ⟨fun ρ => ⟨fun pins s σ H Q I h => ?_⟩⟩
  obtain ⟨H0, S0, S, env, h⟩ := h
  refine wpAny_Call_Name_kw (ld_glob I hg dA.g ?_ hdb)
  unfold mCallL at h
  obtain ⟨oc, od, dV, kV, doc, pm, an, cdv, ct, osl, efd, lk, hcd, _, _⟩ := dA.F.ex
  have hA := tAL_bind (r := ms ρ) (mk := lamW X params body scope) (Q' := fun ws H1 => ∃ vs ds a c S0 S, ws = vs ++ [.ref a] ∧ (∀ l ∈ S, H1 l ≠ none) ∧ Tbs H1 ∧ DpAll X.K (hide S H1) vs ds ∧ H1 a = some (LamO a (lamW X params body scope c)) ∧ H1 c = some (CodeO c (X.env.qual ++ "<lambda>")) ∧
      EnvOk X.K G.xa H0 S0 S H1 σ ρ ∧ RPost X.K X.mg G S H1 σ (lamK N.length nP M ((capI js ρ).map (lamF NL.length pL.length mL)) (.list ds)) Q) env h
    (fun ds H1 vs a c _ x hv h1 h2 h3 => ⟨vs, ds, a, c, S0, S, rfl, (env.mono x).sH, (env.mono x).tb, hv, h1, h2, env.mono x, h3⟩) (fun d hd => by cases d <;> first | rfl | exact (hd _ rfl).elim)
  refine PySem.W.callWith_K (h₀ := X.base) I.ok.mod.kin dA.F.kp (thn ((ha.pa ρ).run pos pins s σ H _ I hA) fun us s1 ⟨ws, H1, I1, r, q⟩ => ⟨I1.kIn, ?_⟩) he hpl
  obtain ⟨vs, ds, a, c, S0, S, rfl, sH, tb, hv, h1, h2, env1, h3⟩ := q
  show wpAny _ _ (call (.ref fa) us) _ _ _
  -- the captured numbers, the arguments' number
  unfold lamK at h3
  cases ec : capI js ρ with
  | none => rw [ec] at h3; exact h3.elim
  | some cs =>
  rw [ec] at h3
  simp only [Option.map_some] at h3
  by_cases hl : ds.length = nP
  · rw [if_pos hl] at h3
    have el := da_length hv
    have hw := capI_at env1 ec
    have CA : CellsAt (lamW X params body scope c).cl fr (capV cs) s1.heap H1 := by
      rw [← hw]
      exact cells_of I1 (Caps.made I1.ok (ndef_free hB) (ndef_fr hB) hjs)
    have LK := lam_ok (P := X.prog) (w := X.w) (K := X.K) (mg := X.mg) (base := X.base) (F := lamW X params body scope c) (f := a) (cs := cs) SL (fun pm ctv us hu => hbL _ _ _ _ _ us hu) (hlam a c)
    have hu : us.length = ps.length := by
      rw [← r.length, List.length_append, List.length_singleton, eP, el, hl]
    subst efd
    have rc := run_ofS (CX := L2.CX X.prog X.w) (P := X.prog) (w := X.w) (mg := X.mg) (base := X.base) (Q := Q) (E := WE G.W σ) lk hcd Sg (hr.mono hk) I1.env0 (by
      have b := dA.b s1 us I1.kIn (by rw [List.append_nil]; exact hu)
      rw [List.append_nil] at b
      exact b) r (by rw [r.length]; exact hu) fun hr' => by
        have D := hbody cdv X.A X.stack s1 H1 (WE G.W σ) a (lamW X params body scope c) (capV cs) (lamF NL.length pL.length mL cs) hr' (takes_of rfl rfl rfl rfl) LK (fun ds hd => if_neg hd) CA
        refine ⟨_, D.ps (startG N.length ds), H1, S, S, env_startG (by omega) tb sH hv h1 h2, ?_⟩
        show SPost X.K X.mg _ H1 S (M (lamF NL.length pL.length mL cs) (startG N.length ds)) _
        generalize M (lamF NL.length pL.length mL cs) (startG N.length ds) = o at h3
        cases o with
        | nx ρ => exact fun σ S' H' env => h3 H' .non env.ex0 .non
        | ret d => exact fun H' v x k _ => h3 H' v x k
        | ex c ρ => exact fun C σ S' H' e env => h3 C H' e env.ex0
        | bk ρ => exact h3.elim
        | ct ρ => exact h3.elim
        | no => exact h3.elim
    refine wpAny_call (codeAny_mono rc fun r s2 hq => ?_)
    cases r with
    | error e => exact passAt tk σ pins H1 s1 e s2 I1 hq
    | ok fl =>
      cases fl with
      | ret u => exact I1.after hq
      | next => exact False.elim hq
      | brk => exact False.elim hq
      | cont => exact False.elim hq
  · rw [if_neg hl] at h3
    exact h3.elim
end
end FL
/-! defs that make lambdas: what the top leaves of them, the end -/
namespace FL
open PySem PySem.Spec PyProof.Rows L2 LamX
/-- the name of the lambda of a def -/
def lamN (x : Str) : Str := x ++ ".<locals>." ++ "<lambda>"
def tabNm (K : PySem.W.Frag) (tf : List Str) (P : Addr) : Str := match tf.find? fun x => decide ((He.cT K (x, none)).2 = P) with
  | some x => lamN x
  | none => ""
abbrev tabsOf (K : PySem.W.Frag) (tf : List Str) (P : Program) (w : World) : TabNames := ⟨tabNm K tf, tf.map fun x => (He.cT K (x, none)).2, P, w⟩
def tabNmB (K : PySem.W.Frag) (tf : List Str) : Bool := tf.all fun x => decide (tabNm K tf (He.cT K (x, none)).2 = lamN x)
abbrev ObsTT : Type := ObsT × Bool
def obsGT (n : Nat) (fs : List Fk) (fn : List He.DefD) (tf : List Str) (g : Addr → Option Obj) : ObsTT := (obsK fs fn (He.frT g (He.asD g n)), He.tabsB g (tf.map fun x => (x, none)) (He.frT g (He.asD g n)) && tabNmB (He.frT g (He.asD g n)) tf)
/-- what is known of the tables -/
structure TabsAt (K : PySem.W.Frag) (tf : List Str) (h : Heap) : Prop where
  hd : ∀ x ∈ tf, PySem.W.codeHdIn K (He.cT K (x, none)).1 (He.cT K (x, none)).2 = true
  out : ∀ x ∈ tf, K.lookup (He.cT K (x, none)).2 = none
  empty : ∀ x ∈ tf, h.get? (He.cT K (x, none)).2 = some { cls := .none, data := .fields #[] }
  nm : tabNmB K tf = true
theorem tabsAt_of {tf : List Str} {h : Heap} {as : List Addr} (e : (He.tabsB h.get? (tf.map fun x => (x, none)) (He.frT h.get? as) && tabNmB (He.frT h.get? as) tf) = true) : TabsAt (He.frT h.get? as) tf h := by
  obtain ⟨h1, h2⟩ := He.ba e
  have key : ∀ x ∈ tf, PySem.W.codeHdIn (He.frT h.get? as) (He.cT (He.frT h.get? as) (x, none)).1 (He.cT (He.frT h.get? as) (x, none)).2 = true ∧ ∃ o, h.get? (He.cT (He.frT h.get? as) (x, none)).2 = some o ∧ He.emptyTab o = true := fun x hx => by
    obtain ⟨h3, h4⟩ := He.ba (List.all_eq_true.mp h1 (x, none) (List.mem_map.mpr ⟨x, hx, rfl⟩))
    refine ⟨h3, ?_⟩
    split at h4
    · rename_i o q
      exact ⟨o, q, h4⟩
    · cases h4
  refine ⟨fun x hx => (key x hx).1, fun x hx => ?_, fun x hx => ?_, h2⟩
  · obtain ⟨_, o, q, z⟩ := key x hx
    exact He.frT_none q z
  · obtain ⟨_, o, q, z⟩ := key x hx
    rw [q, He.emptyTab_eq z]
def hookT (n : Nat) (fs : List Fk) (fn : List He.DefD) (tf : List Str) : PySem.W.Hook where
  α := ObsTT
  obs s := obsGT n fs fn tf s.heap.get?
  val _ := (wantK fn, true)
  says _ h := ∃ K : PySem.W.Frag, K.In h ∧ obsK fs fn K = wantK fn ∧ TabsAt K tf h
  of _ _ e := ⟨_, He.frT_in, congrArg Prod.fst e, tabsAt_of (congrArg Prod.snd e)⟩
  keeps _ _ _ p k := let ⟨K, hK, c, t⟩ := p; ⟨K, PySem.W.Frag.In.keeps hK k, c, t.hd, t.out, fun x hx => k _ _ (t.empty x hx), t.nm⟩
theorem obsGT_eq {n : Nat} {fs : List Fk} {fn : List He.DefD} {tf : List Str} {g : Addr → Option Obj} {s : Shared} (h : ∀ a, g a = s.heap.get? a) : obsGT n fs fn tf g = (hookT n fs fn tf).obs s := by
  have e : g = s.heap.get? := funext h
  rw [e]
  rfl
section
variable {K : PySem.W.Frag} {mg : Str → Option Value} {m : Ev → Out}
/-- what a def that makes a lambda has of the top -/
structure MkAt [TabNames] (K : PySem.W.Frag) (base : Heap) (mg : Str → Option Value) (x : Str) : Prop where
  ex : TabB base mg (He.cT K (x, none)).1 (He.cT K (x, none)).2 ∧ (He.cT K (x, none)).2 ∈ TabNames.ps ∧ TabNames.nm (He.cT K (x, none)).2 = lamN x
theorem MkAt.of {P : Program} {w : World} {base : Heap} {tf : List Str} {h : Heap} {x : Str} (t : TabsAt K tf h) (hx : x ∈ tf) (TB : ∀ p ∈ tf.map (fun x => He.cT K (x, none)), TabB base mg p.1 p.2) : @MkAt (tabsOf K tf P w) K base mg x :=
  @MkAt.mk (tabsOf K tf P w) _ _ _ _ ⟨TB _ (List.mem_map.mpr ⟨x, hx, rfl⟩), List.mem_map.mpr ⟨x, hx, rfl⟩, of_decide_eq_true (List.all_eq_true.mp t.nm x hx)⟩
variable [TabNames]
theorem fn_mkM {P : Program} {w : World} {base : Heap} {k : Nat} {x : Str} {st : Stmt} {ps N : List Str} {fd : FuncData} (nN nP : Nat) (dA : DefAt K mg x st ps (He.ga K x) fd) (S : FnScope N ps (defScope st)) (eN : N.length = nN) (eP : ps.length = nP) (M : MkAt K base mg x)
    (hb : ∀ (cdv : Value) (A : Around) (outer : List Env) (s : Shared) (H : Hp) (E : XK), Room k (A.deeper (envOfC x (defScope st) s.heap.objs.size (He.ga K x) cdv)) →
      Takes (cxOf (L2.CX P w) P w K mg base N x (defScope st) (He.ga K x) cdv A outer s H E) (fun cls d _ H => E cls d H) →
      PassesOwn (model P w) (A.deeper (envOfC x (defScope st) s.heap.objs.size (He.ga K x) cdv)) (envOfC x (defScope st) s.heap.objs.size (He.ga K x) cdv) (cxOf (L2.CX P w) P w K mg base N x (defScope st) (He.ga K x) cdv A outer s H E).xe →
      Mk (cxOf (L2.CX P w) P w K mg base N x (defScope st) (He.ga K x) cdv A outer s H E) →
      XSs (cxOf (L2.CX P w) P w K mg base N x (defScope st) (He.ga K x) cdv A outer s H E) { W := fun cls d _ H => E cls d H } (defBody st) m) : Fn P w K mg base (k + 1) x nP (bodyF nN nP m) := by
  subst eN eP
  refine ⟨⟨He.ga K x, fd, ps, rfl, dA.g, ?_, dA.F.kp, dA.b⟩, fun ds h => if_neg h⟩
  obtain ⟨oc, od, dV, kV, doc, pm, an, cdv, ct, osl, efd, lk, hcd, _, _⟩ := dA.F.ex
  obtain ⟨c, ec⟩ := He.codeIn_ref hcd
  have lk2 : K.lookup (He.fAd K (x, none)) = some ⟨oc, od, .func fd, osl⟩ := lk
  have hcode : He.codeOf K (x, none) = c := He.codeOf_eq lk2 (by rw [efd]; exact ec)
  subst efd
  refine fn_of lk hcd S (fun vs H Q E h => h.1) fun A outer s H vs Q E hr ⟨hl, tb, Sv, ds, sH, kd, h⟩ => ?_
  have Mx : Mk (cxOf (L2.CX P w) P w K mg base N x (defScope st) (He.ga K x) cdv A outer s H E) := by
    obtain ⟨TB, hP, hn⟩ := M.ex
    refine ⟨_, _, TB, ?_, hP, hn⟩
    show cdv = .ref (He.codeOf K (x, none))
    rw [hcode]
    exact ec
  have D := hb cdv A outer s H E hr (takes_of rfl rfl rfl rfl) (passes_of rfl) Mx
  refine ⟨_, D.ps (startE N.length ds), H, Sv, Sv, env_start tb sH kd, ?_⟩
  rw [show bodyF N.length ps.length m ds = bodyR (m (startE N.length ds)) from if_pos (by rw [← da_length kd]; exact hl)] at h
  show SPost K mg _ H Sv (m (startE N.length ds)) _
  generalize m (startE N.length ds) = o at h
  cases o with
  | nx ρ => exact fun σ S' H' env => h H' .non env.ex0 .non
  | ret d => exact fun H' v x k _ => h H' v x k
  | ex c ρ => exact fun C σ S' H' e env => h C H' e env.ex0
  | bk ρ => exact h.elim
  | ct ρ => exact h.elim
  | no => exact h.elim
end
theorem walk_endT {l : PySem.W.OpenLaw} {n k : Nat} {q : Program} {loose : List Str} {XP : (Str → Option Value) → Heap → Prop} {YP : World → Heap → Prop} {d : DefRec} {x : Str} {f : List D → R} {tf : List Str}
    (hn : l.most = some n) (hn2 : n ≤ sizeLine) (hdf : d.params.defaults = []) (hr : Room k callerA)
    (F : ∀ (w : World) (mg : Str → Option Value) (fa : Addr) (h : Heap), YP w h → h.Ns mainGlobals mg → mg d.name = some (.ref fa) →
      ∃ (K : PySem.W.Frag) (fd : FuncData), K.In h ∧ TabsAt K tf h ∧ (∀ (s : Shared) (u : Value), BindsTo s fd ⟨[u], []⟩ [(x, u)]) ∧
        ∀ base : Heap, K.In base → base.Ns mainGlobals mg → (∀ p ∈ tf.map (fun x => He.cT K (x, none)), TabB base mg p.1 p.2) → FnOk l.prog w K mg base (L2.CX l.prog w) k fa fd [x] (@SpF (tabsOf K tf l.prog w) K mg 1 f))
    (hf : World → ∀ ns : List Int, ns.length ≤ n → (∀ z ∈ ns, Builtin.Int.intBits z ≤ 1048576) → f [scriptD ns] = .ok (.bool true)) :
    PySem.W.WalkO q loose XP YP l.row.toRowW d [] (fun f vs => PySem.call f vs) := by
  refine Att.attach_callB hn hdf fun w s₀ s₁ mg mb fa o pm cd doc a vs ns Gd Y ho hd hcd hmg hobj hints hlen hbits hg => ?_
  obtain ⟨K, fd, KX, T, hb, hF⟩ := F w mg fa _ Y Gd.T.g hmg
  letI : TabNames := tabsOf K tf l.prog w
  have all : ∀ {Q : Addr × Addr → Prop}, (∀ x ∈ tf, Q (He.cT K (x, none))) → ∀ p ∈ tf.map (fun x => He.cT K (x, none)), Q p := fun {Q} h p hp => by
    obtain ⟨x, hx, rfl⟩ := List.mem_map.mp hp
    exact h x hx
  refine law_callTs (cs := tf.map fun x => He.cT K (x, none)) KX Gd.T.g Gd.T.b Gd.T.builtins Gd.T.nolimit hg (all T.empty) (all T.out) (all fun x hx => PySem.W.codeHd_of_K KX (T.hd x hx)) Gd.T.bmain hobj hints (Nat.le_trans hlen hn2) hr hF hb (fun H hH hS => ?_) fun H e s' hx => ?_
  · refine ⟨rfl, fun P m => ?_, [], [scriptD ns], fun _ z => (nomatch z), ?_, ?_⟩
    · obtain ⟨x, hx, rfl⟩ := List.mem_map.mp m
      exact TabS.nil (hH _ (List.mem_map.mpr ⟨x, hx, rfl⟩))
    · rw [hide_nil]
      exact .cons (.lst hS (dp_ints ns)) .nil
    · rw [hf w ns hlen hbits]
      intro H' v _ hv
      cases hv
      rfl
  · obtain ⟨_, _, _, _, _, _, _, _, _, _, _, _, z⟩ := hx
    exact z
end FL
/-! xs[k] += e, xs of the frame's own -/
namespace FL
open PySem PySem.Spec PyProof.Rows L2
variable [TabNames]
section
variable {X : Cx} {G : Gx} {pos : Pos} {a b : Expr} {ma mk : Ev → R}
def rGetL : V → V → Hp → VK → Prop := fun o i H Q => ∃ p xs j v, o = .ref p ∧ i = .int ((j : Nat) : Int) ∧ H p = some (.lst xs) ∧ xs[j]? = some v ∧ Q v H
theorem get_list : PGet X rGetL := by
  intro pins s σ H o i ov iv Q I ro ri h
  obtain ⟨p, xs, j, v, rfl, rfl, hp, hj, q⟩ := h
  cases ro
  obtain ⟨t, rfl⟩ := ri
  obtain ⟨its, r, pl, hz⟩ := I.list (.inl (.inl hp))
  obtain ⟨w, ew, rw'⟩ := r.get hj
  have hl := r.length
  have hn := line63
  have hlt : j < xs.length := (List.getElem?_eq_some_iff.mp hj).1
  exact wpAny_getItem_list pl.isList (Int.natCast_nonneg j) (by omega) (by simpa using ew) ⟨v, H, I, rw', q⟩
def augPx (i : Nat) (xs : List D) (n : Int) (y : D) (ρ : Ev) : D → Out
  | .int z => match y with
    | .int y => .nx (ρ.set i (.ol (xs.set n.toNat (.int (y + z)))))
    | _ => .no
  | _ => .no
def augIf (i : Nat) (xs : List D) (ma : Ev → R) (ρ : Ev) (n : Int) : Option D → Out
  | some y => (ma ρ).go ρ (augPx i xs n y ρ)
  | none => .no
def augKx (i : Nat) (xs : List D) (ma : Ev → R) (ρ : Ev) : D → Out
  | .int n => if 0 ≤ n then augIf i xs ma ρ n xs[n.toNat]? else .no
  | _ => .no
def mAugIx (i : Nat) (mk : Ev → R) (_ : D → D → Option D) (ma : Ev → R) : Ev → Out := fun ρ => match ρ[i]? with
  | some (.ol xs) => (mk ρ).go ρ (augKx i xs ma ρ)
  | _ => .no
theorem s_augIxAdd (i : Nat) {x : Str} {p p2 : Pos} (hk : XE X G b mk) (ha : XE X G a ma) (hi : X.N[i]? = some x := by rfl) (hv : Vis X.env.scope x := by first | exact Or.inl rfl | exact Or.inr (Or.inl rfl) | exact Or.inr (Or.inr rfl)) (hd : (x == ("__debug__" : Str)) = false := by decide)
    (hcd : (x == ("__classdict__" : Str)) = false := by decide) (hq : ∀ ov iv new, augStore b ov iv new = (do holding [new, ov, iv] (setItem ov iv new); release [new, ov, iv] []; pure .next) := by intros; rfl) :
    XS X G (.AugAssign (.Subscript (.Name x p) b p2) .Add a pos) (mAugIx i mk addI ma) := ⟨fun ρ => (ps_augS (pe_var hi hv hd hcd) (hk.pe ρ) get_list (ha.pe ρ) ip_add set_list hq).imp fun Dn σ H ⟨H0, S0, S, env, h⟩ => by
  unfold mAugIx at h
  split at h
  · rename_i xs er
    obtain ⟨l, vs, e1, lS, hl, k⟩ := env.sl i _ er
    refine ⟨.ref l, e1, go_tE env h fun d H1 u _ x1 hu h1 => ?_⟩
    have env1 := env.mono x1
    cases hu with
    | int n =>
      have h1 : SPost X.K X.mg G H0 S0 (if 0 ≤ n then augIf i xs ma ρ n xs[n.toNat]? else .no) Dn := h1
      by_cases h0 : 0 ≤ n
      · rw [if_pos h0] at h1
        cases ey : xs[n.toNat]? with
        | none => rw [ey] at h1; exact h1.elim
        | some y =>
          rw [ey] at h1
          obtain ⟨v, ev, kv⟩ := da_get k ey
          refine ⟨l, vs, n.toNat, v, rfl, by rw [Int.toNat_of_nonneg h0], x1.lst hl, ev, ?_⟩
          refine go_tE env1 h1 fun d H2 w _ x2 hw h2 => ?_
          cases hw with
          | int z =>
            cases kv with
            | int y =>
              have hlt : n.toNat < vs.length := (List.getElem?_eq_some_iff.mp ev).1
              have kk := da_mono (hide_mono (x1.trans x2)) k
              refine ⟨y, z, rfl, rfl, l, vs, n, n.toNat, rfl, rfl, x2.lst (x1.lst hl), ?_, h2 σ S _ ((env1.mono x2).updO e1 er (da_set (.int (y + z)) n.toNat kk))⟩
              unfold ixN
              rw [if_pos (by omega)]
              rw [if_pos (by omega)]
            | _ => exact h2.elim
          | _ => cases kv <;> exact h2.elim
      · rw [if_neg h0] at h1
        exact h1.elim
    | _ => exact h1.elim
  · exact h.elim⟩
@[simp] theorem ev_augPx {i : Nat} {xs : List D} {n y z : Int} {ρ : Ev} : augPx i xs n (.int y) ρ (.int z) = .nx (ρ.set i (.ol (xs.set n.toNat (.int (y + z))))) := Eq.trans rfl rfl
end
end FL
/-! zip of a tuple and a list -/
namespace FL
open PySem PySem.Spec PyProof.Rows L2
section
variable {prog : Program} {w : World} {A : Around} {E : Value → Shared → Prop} {s : Shared}
theorem zm_item {zq ti tq ia ib la lb : Addr} {ka kb : Nat} {us ws : Array Value} {xv yv av bv : Value} {Q : Value → Shared → Prop} (Ap : ZipApart zq ti tq ia ib la lb)
    (wz : IsZip s.heap zq ti tq .none) (wti : IsPair s.heap ti (.ref ia) (.ref ib)) (wtq : IsPair s.heap tq av bv)
    (ta : s.heap.IsTupleIter ia la ka) (tb : s.heap.IsListIter ib lb kb) (ya : s.heap.IsTuple la us) (yb : s.heap.IsList lb ws) (ex : us[ka]? = some xv) (ey : ws[kb]? = some yv)
    (wQ : ∀ g', IsZip g' zq ti tq (rawInt s.heap.objs.size) → IsPair g' tq xv yv → g'.IsTupleIter ia la (ka + 1) → g'.IsListIter ib lb (kb + 1) → IsPair g' s.heap.objs.size xv yv → g'.objs.size = s.heap.objs.size + 1 →
      (∀ cv ob, cv ≠ zq → cv ≠ tq → cv ≠ ia → cv ≠ ib → s.heap.get? cv = some ob → g'.get? cv = some ob) → Q (.ref s.heap.objs.size) { s with heap := g' }) :
    wpAny (model prog w) A (Builtin.«zip.__next__» ⟨[.ref zq], []⟩) (fun fin s' => ∃ v, fin = .done (.ret v) ∧ Q v s') E s := by
  show wpAny _ _ (field (.ref zq) 2 >>= _) _ _ _
  refine wpAny_bind (wpAny_field wz rfl (x := .bool false) rfl ?_)
  show wpAny _ _ (field (.ref zq) 3 >>= _) _ _ _
  refine wpAny_bind (wpAny_field wz rfl (x := .ref ti) rfl ?_)
  refine wpAny_bind (wpAny_seqItems wti rfl ?_)
  show wpAny _ _ (Builtin.SmallTypes.ownedTupleIsFree (.ref zq) >>= _) _ _ _
  refine wpAny_bind ?_
  unfold Builtin.SmallTypes.ownedTupleIsFree -- is it free
  refine wpAny_bind (wpAny_field wz rfl (x := .none) rfl (wpAny_pure ?_))
  simp only [if_true]
  refine wpAny_bind (wpAny_rule ?_)
  refine wpAny_bind (wpAny_field wz rfl (x := .ref tq) rfl ?_)
  refine wpAny_bind (wpAny_setField_rec wz (by simp) fun g₁ wz₁ k₁ => ?_)
  replace wz₁ : IsZip g₁ zq ti tq .ellipsis := wz₁
  refine wpAny_bind ?_
  simp only [List.forIn_cons, List.forIn_nil, List.zipIdx_cons, List.zipIdx_nil]

  refine wpAny_bind (wpAny_bind (wpAny_onRaise ?_))
  show wpAny _ _ (Builtin.SmallTypes.nextOf (.ref ia) >>= _) _ _ _
  refine wpAny_bind (RZ.nextOf_tuple_item (ta.extBut k₁.extBut Ap.i1z) (ya.extBut k₁.extBut Ap.l1z) ex fun g₂ ta₂ k₂ => wpAny_pure ?_)
  have wtq₂ : IsPair g₂ tq av bv := k₂.extBut _ _ Ap.TOi1 (k₁.extBut _ _ Ap.TOz wtq)
  refine wpAny_bind (wpAny_seqItems wtq₂ rfl ?_)
  refine wpAny_bind (wpAny_updateSeq_pair wtq₂ fun g₃ wtq₃ k₃ => ?_)
  replace wtq₃ : IsPair g₃ tq xv bv := wtq₃
  refine wpAny_bind (wpAny_letGo (wpAny_pure ?_))

  refine wpAny_bind (wpAny_bind (wpAny_onRaise ?_))
  show wpAny _ _ (Builtin.SmallTypes.nextOf (.ref ib) >>= _) _ _ _
  refine wpAny_bind (wpAny_nextOf_list_item (((tb.extBut k₁.extBut Ap.i2z).extBut k₂.extBut Ap.i12.symm).extBut k₃.extBut Ap.TOi2.symm)
    (((yb.extBut k₁.extBut Ap.l2z).extBut k₂.extBut Ap.l2i1).extBut k₃.extBut Ap.l2TO) ey fun g₄ tb₄ k₄ => wpAny_pure ?_)
  have wtq₄ : IsPair g₄ tq xv bv := k₄.extBut _ _ Ap.TOi2 wtq₃
  refine wpAny_bind (wpAny_seqItems wtq₄ rfl ?_)
  refine wpAny_bind (wpAny_updateSeq_pair wtq₄ fun g₅ wtq₅ k₅ => ?_)
  replace wtq₅ : IsPair g₅ tq xv yv := wtq₅
  refine wpAny_bind (wpAny_letGo (wpAny_pure (wpAny_pure ?_)))

  refine wpAny_bind (wpAny_seqItems wtq₅ rfl ?_)
  refine wpAny_bind (wpAny_newTuple ?_)
  have esz : g₅.objs.size = s.heap.objs.size := by rw [k₅.1, k₄.1, k₃.1, k₂.1, k₁.1]
  have wz₅ : IsZip g₅ zq ti tq .ellipsis := k₅.extBut _ _ Ap.TOz.symm (k₄.extBut _ _ Ap.i2z.symm (k₃.extBut _ _ Ap.TOz.symm (k₂.extBut _ _ Ap.i1z.symm wz₁)))
  have kk₅ : ∀ cv ob, cv ≠ zq → cv ≠ tq → cv ≠ ia → cv ≠ ib → s.heap.get? cv = some ob → g₅.get? cv = some ob := fun cv ob c1 c2 c3 c4 er =>
    k₅.extBut _ _ c2 (k₄.extBut _ _ c4 (k₃.extBut _ _ c2 (k₂.extBut _ _ c3 (k₁.extBut _ _ c1 er))))
  have ta₅ : g₅.IsTupleIter ia la (ka + 1) := ((ta₂.extBut k₃.extBut Ap.TOi1.symm).extBut k₄.extBut Ap.i12).extBut k₅.extBut Ap.TOi1.symm
  have tb₅ : g₅.IsListIter ib lb (kb + 1) := tb₄.extBut k₅.extBut Ap.TOi2.symm
  have zlt : zq < g₅.objs.size := Heap.lt_size wz₅
  have tlt : tq < g₅.objs.size := Heap.lt_size wtq₅
  have ilt : ia < g₅.objs.size := by obtain ⟨_, er, _⟩ := ta₅; exact Heap.lt_size er
  have jlt : ib < g₅.objs.size := by obtain ⟨_, er, _⟩ := tb₅; exact Heap.lt_size er
  show wpAny _ _ (Builtin.SmallTypes.ownedTupleHandOut (.ref zq) (.ref g₅.objs.size) >>= _) _ _ _
  refine wpAny_bind ?_
  unfold Builtin.SmallTypes.ownedTupleHandOut -- handed out
  have wz₆ : IsZip (g₅.push { cls := .type "tuple", data := .seq #[xv, yv] }) zq ti tq .ellipsis := Heap.get?_push_of_some _ wz₅
  refine wpAny_bind (wpAny_setField_rec wz₆ (by simp) fun g₇ wz₇ k₇ => ?_)
  replace wz₇ : IsZip g₇ zq ti tq (rawInt g₅.objs.size) := wz₇
  refine wpAny_setField_rec wz₇ (by simp) fun g₈ wz₈ k₈ => ?_
  replace wz₈ : IsZip g₈ zq ti tq (rawInt g₅.objs.size) := wz₈
  have upw : ∀ cv ob, cv ≠ zq → g₅.get? cv = some ob → g₈.get? cv = some ob := fun cv ob c1 er => k₈.extBut _ _ c1 (k₇.extBut _ _ c1 (Heap.get?_push_of_some _ er))
  have wT₈ : IsPair g₈ g₅.objs.size xv yv := k₈.extBut _ _ (Nat.ne_of_gt zlt) (k₇.extBut _ _ (Nat.ne_of_gt zlt) (Heap.get?_push_size _ rfl))
  have esz8 : g₈.objs.size = g₅.objs.size + 1 := by rw [k₈.1, k₇.1, Heap.size_push]
  rw [esz] at wz₈ wT₈ esz8
  refine wpAny_pure ⟨_, rfl, ?_⟩
  show Q (.ref g₅.objs.size) _
  rw [esz]
  exact wQ g₈ wz₈ (upw _ _ Ap.TOz wtq₅) (ta₅.at fun ob er => upw _ ob Ap.i1z er) (tb₅.at fun ob er => upw _ ob Ap.i2z er) wT₈ esz8 fun cv ob c1 c2 c3 c4 er => upw cv ob c1 (kk₅ cv ob c1 c2 c3 c4 er)

theorem zm_end {zq ti tq ia ib la lb : Addr} {ka kb : Nat} {us ws : Array Value} {av bv : Value} {Q : Fin → Shared → Prop} (wh : A.handled = none) (Ap : ZipApart zq ti tq ia ib la lb)
    (wz : IsZip s.heap zq ti tq .none) (wti : IsPair s.heap ti (.ref ia) (.ref ib)) (wtq : IsPair s.heap tq av bv)
    (ta : s.heap.IsTupleIter ia la ka) (tb : s.heap.IsListIter ib lb kb) (ya : s.heap.IsTuple la us) (yb : s.heap.IsList lb ws) (wend : us[ka]? = none ∨ ws[kb]? = none)
    (wE : ∀ g' er, (∀ cv ob, cv ≠ zq → cv ≠ tq → cv ≠ ia → cv ≠ ib → s.heap.get? cv = some ob → g'.get? cv = some ob) → (∃ ob, g'.get? er = some ob ∧ ob.cls = .type "StopIteration") → E (.ref er) { s with heap := g' }) :
    wpAny (model prog w) A (Builtin.«zip.__next__» ⟨[.ref zq], []⟩) Q E s := by
  show wpAny _ _ (field (.ref zq) 2 >>= _) _ _ _
  refine wpAny_bind (wpAny_field wz rfl (x := .bool false) rfl ?_)
  show wpAny _ _ (field (.ref zq) 3 >>= _) _ _ _
  refine wpAny_bind (wpAny_field wz rfl (x := .ref ti) rfl ?_)
  refine wpAny_bind (wpAny_seqItems wti rfl ?_)
  show wpAny _ _ (Builtin.SmallTypes.ownedTupleIsFree (.ref zq) >>= _) _ _ _
  refine wpAny_bind ?_
  unfold Builtin.SmallTypes.ownedTupleIsFree -- is it free
  refine wpAny_bind (wpAny_field wz rfl (x := .none) rfl (wpAny_pure ?_))
  simp only [if_true]
  refine wpAny_bind (wpAny_rule ?_)
  refine wpAny_bind (wpAny_field wz rfl (x := .ref tq) rfl ?_)
  refine wpAny_bind (wpAny_setField_rec wz (by simp) fun g₁ wz₁ k₁ => ?_)
  replace wz₁ : IsZip g₁ zq ti tq .ellipsis := wz₁
  refine wpAny_bind ?_
  simp only [List.forIn_cons, List.forIn_nil, List.zipIdx_cons, List.zipIdx_nil]
  refine wpAny_bind (wpAny_bind (wpAny_onRaise ?_))
  show wpAny _ _ (Builtin.SmallTypes.nextOf (.ref ia) >>= _) _ _ _
  cases ex : us[ka]? with
  | none =>
    refine wpAny_bind (RZ.nextOf_tuple_end wh (ta.extBut k₁.extBut Ap.i1z) (ya.extBut k₁.extBut Ap.l1z) ex fun g₂ er k₂ we => ?_)
    obtain ⟨so, eso, cso⟩ := we
    have wz₂ : IsZip g₂ zq ti tq .ellipsis := k₂ _ _ Ap.i1z.symm wz₁
    have nez : er ≠ zq := fun xv => by subst xv; rw [wz₂] at eso; cases eso; simp at cso
    refine wpAny_setField_rec wz₂ (by simp) fun g₃ _ k₃ => wE g₃ er (fun cv ob c1 _ c3 _ xv => k₃.extBut _ _ c1 (k₂ _ _ c3 (k₁.extBut _ _ c1 xv))) ⟨so, k₃.extBut _ _ nez eso, cso⟩
  | some xv =>
    have ey : ws[kb]? = none := by rcases wend with h | h; rw [ex] at h; cases h; exact h
    refine wpAny_bind (RZ.nextOf_tuple_item (ta.extBut k₁.extBut Ap.i1z) (ya.extBut k₁.extBut Ap.l1z) ex fun g₂ ta₂ k₂ => wpAny_pure ?_)
    have wtq₂ : IsPair g₂ tq av bv := k₂.extBut _ _ Ap.TOi1 (k₁.extBut _ _ Ap.TOz wtq)
    refine wpAny_bind (wpAny_seqItems wtq₂ rfl ?_)
    refine wpAny_bind (wpAny_updateSeq_pair wtq₂ fun g₃ wtq₃ k₃ => ?_)
    refine wpAny_bind (wpAny_letGo (wpAny_pure ?_))
    refine wpAny_bind (wpAny_bind (wpAny_onRaise ?_))
    show wpAny _ _ (Builtin.SmallTypes.nextOf (.ref ib) >>= _) _ _ _
    refine wpAny_bind (wpAny_nextOf_list_end wh (((tb.extBut k₁.extBut Ap.i2z).extBut k₂.extBut Ap.i12.symm).extBut k₃.extBut Ap.TOi2.symm)
      (((yb.extBut k₁.extBut Ap.l2z).extBut k₂.extBut Ap.l2i1).extBut k₃.extBut Ap.l2TO) ey fun g₄ er k₄ we => ?_)
    obtain ⟨so, eso, cso⟩ := we
    have wz₄ : IsZip g₄ zq ti tq .ellipsis := k₄ _ _ Ap.i2z.symm (k₃.extBut _ _ Ap.TOz.symm (k₂.extBut _ _ Ap.i1z.symm wz₁))
    have nez : er ≠ zq := fun xv => by subst xv; rw [wz₄] at eso; cases eso; simp at cso
    refine wpAny_setField_rec wz₄ (by simp) fun g₅ _ k₅ => wE g₅ er (fun cv ob c1 c2 c3 c4 xv => k₅.extBut _ _ c1 (k₄ _ _ c4 (k₃.extBut _ _ c2 (k₂.extBut _ _ c3 (k₁.extBut _ _ c1 xv))))) ⟨so, k₅.extBut _ _ nez eso, cso⟩

theorem zm_nextI {zq ti tq ia ib la lb : Addr} {ka kb : Nat} {us ws : Array Value} {xv yv av bv : Value} {Q : Option Value → Shared → Prop} (Ap : ZipApart zq ti tq ia ib la lb)
    (wz : IsZip s.heap zq ti tq .none) (wti : IsPair s.heap ti (.ref ia) (.ref ib)) (wtq : IsPair s.heap tq av bv)
    (ta : s.heap.IsTupleIter ia la ka) (tb : s.heap.IsListIter ib lb kb) (ya : s.heap.IsTuple la us) (yb : s.heap.IsList lb ws) (ex : us[ka]? = some xv) (ey : ws[kb]? = some yv)
    (wQ : ∀ g', IsZip g' zq ti tq (rawInt s.heap.objs.size) → IsPair g' tq xv yv → g'.IsTupleIter ia la (ka + 1) → g'.IsListIter ib lb (kb + 1) → IsPair g' s.heap.objs.size xv yv → g'.objs.size = s.heap.objs.size + 1 →
      (∀ cv ob, cv ≠ zq → cv ≠ tq → cv ≠ ia → cv ≠ ib → s.heap.get? cv = some ob → g'.get? cv = some ob) → Q (some (.ref s.heap.objs.size)) { s with heap := g' }) :
    wpAny (model prog w) A (pyNext (.ref zq)) Q E s := by
  have wT : s.TypeIs (.ref zq) "zip" := ⟨_, wz, rfl⟩
  unfold pyNext
  exact wpAny_bind (wpAny_attempt (wpAny_callSpecial?_slot (name := Str.ofString "__next__") wT F.slot_zip_next
    (wpAny_call_entry F.slot_zip_next wT F.entry_zip_next
      (zm_item Ap wz wti wtq ta tb ya yb ex ey fun g' a1 a2 a3 a4 a5 a6 a7 => wpAny_pure (wQ g' a1 a2 a3 a4 a5 a6 a7)) (F.args_zip_next_1 _))))

theorem zm_nextE {zq ti tq ia ib la lb : Addr} {ka kb : Nat} {us ws : Array Value} {av bv : Value} {Q : Option Value → Shared → Prop} (wh : A.handled = none) (Ap : ZipApart zq ti tq ia ib la lb)
    (wz : IsZip s.heap zq ti tq .none) (wti : IsPair s.heap ti (.ref ia) (.ref ib)) (wtq : IsPair s.heap tq av bv)
    (ta : s.heap.IsTupleIter ia la ka) (tb : s.heap.IsListIter ib lb kb) (ya : s.heap.IsTuple la us) (yb : s.heap.IsList lb ws) (wend : us[ka]? = none ∨ ws[kb]? = none)
    (wQ : ∀ g', (∀ cv ob, cv ≠ zq → cv ≠ tq → cv ≠ ia → cv ≠ ib → s.heap.get? cv = some ob → g'.get? cv = some ob) → Q none { s with heap := g' }) : wpAny (model prog w) A (pyNext (.ref zq)) Q E s := by
  have wT : s.TypeIs (.ref zq) "zip" := ⟨_, wz, rfl⟩
  unfold pyNext
  refine wpAny_bind (wpAny_attempt (wpAny_callSpecial?_slot (name := Str.ofString "__next__") wT F.slot_zip_next
    (wpAny_call_entry F.slot_zip_next wT F.entry_zip_next (zm_end wh Ap wz wti wtq ta tb ya yb wend fun g' er wk we => ?_) (F.args_zip_next_1 _))))
  obtain ⟨ob, eob, cob⟩ := we
  refine wpAny_bind (wpAny_isInstance (T := "StopIteration") (b := true) ⟨ob, eob, cob⟩ isSubtype_stop ?_)
  exact wpAny_pure (wQ _ wk)
end

abbrev zmH1 (h : Heap) (la : Addr) : Heap := h.push { cls := .type "tuple_iterator", data := .fields #[.ref la, .int 0 0] }
abbrev zmH2 (h : Heap) (la lb : Addr) : Heap := (zmH1 h la).push { cls := .type "list_iterator", data := .fields #[.ref lb, .int 0 0] }
abbrev zmH3 (h : Heap) (la lb : Addr) : Heap := (zmH2 h la lb).push { cls := .type "tuple", data := .seq #[.ref h.objs.size, .ref (zmH1 h la).objs.size] }
abbrev zmH4 (h : Heap) (la lb : Addr) : Heap := (zmH3 h la lb).push { cls := .type "tuple", data := .seq #[.none, .none] }
abbrev zmH5 (h : Heap) (la lb : Addr) : Heap := (zmH4 h la lb).push { cls := .type "zip", data := .fields #[.none, .bool false, .bool false, .ref (zmH2 h la lb).objs.size, .ref (zmH3 h la lb).objs.size] }

theorem meets_zm (la lb : Addr) (us ws : Array Value) :
    Meets (Builtin.«zip.__new__» ⟨[.type "zip", .ref la, .ref lb], []⟩) (fun _ R s => s.heap.IsTuple la us ∧ s.heap.IsList lb ws ∧
      R (.ok (.ret (.ref (zmH4 s.heap la lb).objs.size))) { s with heap := zmH5 s.heap la lb }) :=
  .of_wp fun prog w A R s h => by
    obtain ⟨hp, g, d, tk, os⟩ := s; obtain ⟨ya, yb, h⟩ := h
    have esub := sub_zip
    have yA : Heap.IsTuple (Shared.heap ⟨hp, g, d, tk, os⟩) la us := ya
    have yB : Heap.IsList (Shared.heap ⟨hp.push { cls := .type "tuple_iterator", data := .fields #[.ref la, .int 0 0] }, g, d, tk, os⟩) lb ws := Heap.IsList.push yb _
    wp_walk using wpAny_pyIter_tuple yA, wpAny_pyIter_list yB
    exact ⟨_, rfl, h⟩

section
variable {prog : Program} {w : World} {A : Around} {E : Value → Shared → Prop} {s : Shared}

theorem call_zm {la lb : Addr} {us ws : Array Value} {Q : Value → Shared → Prop} (ya : s.heap.IsTuple la us) (yb : s.heap.IsList lb ws)
    (h : ∀ h', IsZip h' (s.heap.objs.size + 4) (s.heap.objs.size + 2) (s.heap.objs.size + 3) .none → IsPair h' (s.heap.objs.size + 2) (.ref s.heap.objs.size) (.ref (s.heap.objs.size + 1)) →
      IsPair h' (s.heap.objs.size + 3) .none .none → h'.IsTupleIter s.heap.objs.size la 0 → h'.IsListIter (s.heap.objs.size + 1) lb 0 → h'.objs.size = s.heap.objs.size + 5 →
      (∀ c o, s.heap.get? c = some o → h'.get? c = some o) → Q (.ref (s.heap.objs.size + 4)) { s with heap := h' }) :
    wpAny (model prog w) A (call (.type "zip") [.ref la, .ref lb]) Q E s := by
  refine callType_new F.called_zip (by decide) (F.typeCall_zip_2 _ _) (F.newCall_zip_2 _ _) (fun obj => F.args_object_init_3 obj _ _) F.entry_zip_new
    (meets_zm la lb us ws) ⟨ya, yb, ?_⟩
  have m1 : (zmH1 s.heap la).objs.size = s.heap.objs.size + 1 := Heap.size_push ..
  have m2 : (zmH2 s.heap la lb).objs.size = s.heap.objs.size + 2 := by rw [Heap.size_push, m1]
  have m3 : (zmH3 s.heap la lb).objs.size = s.heap.objs.size + 3 := by rw [Heap.size_push, m2]
  have m4 : (zmH4 s.heap la lb).objs.size = s.heap.objs.size + 4 := by rw [Heap.size_push, m3]
  have m5 : (zmH5 s.heap la lb).objs.size = s.heap.objs.size + 5 := by rw [Heap.size_push, m4]
  have f5 : (zmH5 s.heap la lb).get? (zmH4 s.heap la lb).objs.size = some _ := Heap.get?_push_size _ rfl
  have f4 : (zmH5 s.heap la lb).get? (zmH3 s.heap la lb).objs.size = some _ := Heap.get?_push_of_some _ (Heap.get?_push_size _ rfl)
  have f3 : (zmH5 s.heap la lb).get? (zmH2 s.heap la lb).objs.size = some _ := Heap.get?_push_of_some _ (Heap.get?_push_of_some _ (Heap.get?_push_size _ rfl))
  have f2 : (zmH5 s.heap la lb).get? (zmH1 s.heap la).objs.size = some _ := Heap.get?_push_of_some _ (Heap.get?_push_of_some _ (Heap.get?_push_of_some _ (Heap.get?_push_size _ rfl)))
  have f1 : (zmH5 s.heap la lb).get? s.heap.objs.size = some _ := Heap.get?_push_of_some _ (Heap.get?_push_of_some _ (Heap.get?_push_of_some _ (Heap.get?_push_of_some _ (Heap.get?_push_size _ rfl))))
  show _ ∧ _
  rw [m2, m3, m4] at f5
  rw [m1, m2] at f3
  rw [m3] at f4
  rw [m1] at f2
  rw [m4]
  exact ⟨⟨_, f5, rfl⟩, h _ f5 f3 f4 ⟨_, f1, rfl, rfl⟩ ⟨_, f2, rfl, rfl⟩ m5 fun c o x =>
    Heap.get?_push_of_some _ (Heap.get?_push_of_some _ (Heap.get?_push_of_some _ (Heap.get?_push_of_some _ (Heap.get?_push_of_some _ x))))⟩
end
def ItzM (K : PySem.W.Frag) (a b : Addr) : It :=
  ⟨fun i H => ∃ (us ws : List V) (x y : V), SqT K H a us ∧ SqL K H b ws ∧ us[i]? = some x ∧ ws[i]? = some y,
    fun i H v H' => ∃ T x y, v = .ref T ∧ H T = none ∧ H' = upd H T (.tup [x, y]) ∧ (∀ us, SqT K H a us → us[i]? = some x) ∧ ∀ ws, SqL K H b ws → ws[i]? = some y,
    fun i H => ∃ us ws : List V, SqT K H a us ∧ SqL K H b ws ∧ (us.length ≤ i ∨ ws.length ≤ i)⟩
theorem turn_zm {P : Program} {w : World} {K : PySem.W.Frag} {elts : List Expr} {kk : Nat} {tpos : Pos} {a b z ti tq ia ib : Addr} (D : ZipApart z ti tq ia ib a b) :
    Turn P w K (.Tuple elts kk tpos) (ItzM K a b) [z, ti, tq, ia, ib] z (fun i h => IsZip h z ti tq .none ∧ IsPair h ti (.ref ia) (.ref ib) ∧ (∃ x y, IsPair h tq x y) ∧ h.IsTupleIter ia a i ∧ h.IsListIter ib b i) where
  mem := by simp
  obj := fun i h sx c wc => by
    obtain ⟨wz, wti, ⟨x, y, wtq⟩, ⟨o1, e1, _, d1⟩, ⟨o2, e2, _, d2⟩⟩ := sx
    have e' : c = z ∨ c = ti ∨ c = tq ∨ c = ia ∨ c = ib := by simpa using wc
    rcases e' with q | q | q | q | q
    · rw [q]; exact ⟨_, wz, fun v q => nomatch q⟩
    · rw [q]; exact ⟨_, wti, fun v q => nomatch q⟩
    · rw [q]; exact ⟨_, wtq, fun v q => nomatch q⟩
    · rw [q]; exact ⟨o1, e1, fun v q => by rw [d1] at q; cases q⟩
    · rw [q]; exact ⟨o2, e2, fun v q => by rw [d2] at q; cases q⟩
  keep := fun i h h' sx k => by
    obtain ⟨wz, wti, ⟨x, y, wtq⟩, ta, tb⟩ := sx
    exact ⟨k z (by simp) _ wz, k ti (by simp) _ wti, ⟨x, y, k tq (by simp) _ wtq⟩, ta.at fun o q => k ia (by simp) o q, tb.at fun o q => k ib (by simp) o q⟩
  item := by
    intro X wP ww wK wc i pn s σ H E I wf sx wg
    subst wP ww wK
    obtain ⟨wz, wti, ⟨x0, y0, wtq⟩, ta, tb⟩ := sx
    obtain ⟨us, ws, x, y, qx, qy, ex, ey⟩ := wg
    obtain ⟨ns, va, p, _⟩ := I.tuple qx
    obtain ⟨ns2, vb, pb, _⟩ := I.list qy
    obtain ⟨u, hu, ru⟩ := va.get ex
    obtain ⟨u2, hu2, ru2⟩ := vb.get ey
    have zlt : z < s.heap.objs.size := Heap.lt_size wz
    refine zm_nextI D wz wti wtq ta tb p pb.isList (xv := u) (yv := u2) (by simpa using hu) (by simpa using hu2) fun h' wz' wtq' ta' tb' wT esz wk => ?_
    refine ⟨_, rfl, wpAny_letOwnedTupleGo_zip (s := { s with heap := h' }) wz' fun g'' wz'' sb => ?_⟩
    have wT2 : g''.get? s.heap.objs.size = some { cls := .type "tuple", data := .seq #[u, u2] } := (sb.2 _ (Nat.ne_of_gt zlt)).trans wT
    have new : ObjOk X.prog X.w (upd H s.heap.objs.size (.tup [x, y])) g'' s.heap.objs.size (.tup [x, y]) :=
      ⟨by show 2 ≤ sizeLine; decide, [u, u2], .cons ru (.cons ru2 .nil), ⟨_, wT2, rfl, _, rfl⟩⟩
    have I1 : Inv X pn σ (upd H s.heap.objs.size (.tup [x, y])) { s with heap := g'' } :=
      I.turnedNew (t' := s.toks) (ch := [z, ti, tq, ia, ib]) (fun c o hb q => (sb.2 c (fun q' => hb (by simp [q']))).trans (wk c o (fun q' => hb (by simp [q'])) (fun q' => hb (by simp [q'])) (fun q' => hb (by simp [q'])) (fun q' => hb (by simp [q'])) q)) wf (Nat.le_refl _) new
    refine ⟨.ref s.heap.objs.size, _, I1, rfl, ⟨_, x, y, rfl, I.hok.fresh (Nat.le_refl _), rfl, fun lx ylx => by rw [I.tuple_inj ylx qx]; exact ex, fun lx ylx => by rw [I.list_inj ylx qy]; exact ey⟩, ⟨wz'', ?_, ⟨u, u2, ?_⟩, ?_, ?_⟩, fun c mc => ?_⟩
    · exact (sb.2 _ D.TIz).trans (wk _ _ D.TIz D.TITO D.TIi1 D.TIi2 wti)
    · exact (sb.2 _ D.TOz).trans wtq'
    · exact ta'.at fun o q => (sb.2 _ D.i1z).trans q
    · exact tb'.at fun o q => (sb.2 _ D.i2z).trans q
    · have clt : c < s.heap.objs.size := by
        have e' : c = z ∨ c = ti ∨ c = tq ∨ c = ia ∨ c = ib := by simpa using mc
        rcases e' with q | q | q | q | q
        · rw [q]; exact zlt
        · rw [q]; exact Heap.lt_size wti
        · rw [q]; exact Heap.lt_size wtq
        · rw [q]; obtain ⟨_, e1, _⟩ := ta; exact Heap.lt_size e1
        · rw [q]; obtain ⟨_, e2, _⟩ := tb; exact Heap.lt_size e2
      rw [upd_ne (Nat.ne_of_lt clt)]
      exact (wf c mc).1
  done := by
    intro X wP ww wK wc i pn s σ H E I wf sx wg
    subst wP ww wK
    obtain ⟨wz, wti, ⟨x0, y0, wtq⟩, ta, tb⟩ := sx
    obtain ⟨us, ws, qx, qy, wend⟩ := wg
    obtain ⟨ns, va, p, _⟩ := I.tuple qx
    obtain ⟨ns2, vb, pb, _⟩ := I.list qy
    have la := va.length
    have lb := vb.length
    have he : ns.toArray[i]? = none ∨ ns2.toArray[i]? = none := by
      rcases wend with q | q
      · exact .inl (by simp; omega)
      · exact .inr (by simp; omega)
    exact zm_nextE (I.ok.hd wc) D wz wti wtq ta tb p pb.isList he fun h' wk => ⟨rfl, I.turnedL (t' := s.toks) (ch := [z, ti, tq, ia, ib]) (fun c o hb q =>
      wk c o (fun q' => hb (by simp [q'])) (fun q' => hb (by simp [q'])) (fun q' => hb (by simp [q'])) (fun q' => hb (by simp [q'])) q) wf⟩
  self := fun A i s Q E sx h => wpAny_pyIter_zip sx.1 h

/-- zip of a tuple and a list -/
def iZipM (K : PySem.W.Frag) (ta : TA) : TI := fun σ H Rk => ta σ H fun vs H1 => ∃ a b us ws, vs = [.ref a, .ref b] ∧ SqT K H1 a us ∧ SqL K H1 b ws ∧ Rk (ItzM K a b) H1
theorem pi_zipM {X : Cx} {e e2 : Expr} {ta : TA} {p pos tpos : Pos} {elts : List Expr} {kk : Nat} (hg : Gl X "zip") (hm : X.mg "zip" = none) (ha : PA X [e, e2] ta)
    (hs : starEach [e, e2] X.env = (false, eval e X.env) :: starEach [e2] X.env := by rfl) (hpl : (backTo pos (starEach [e2] X.env)).any (·.1) = false := by rfl) :
    PI X (.Tuple elts kk tpos) (.Call (.Name "zip" p) [e, e2] [] pos) (iZipM X.K ta) := by
  refine ⟨fun pn s σ H Rk I h => ?_⟩
  refine Call_ (ld_blt I hg hm PyProof.Rows.boot_zip (PyProof.Rows.callWith_type1 (thn (ha.run pos pn s σ H _ I h) fun us s1 ⟨vs, H1, I1, r1, q1⟩ => ?_) hs hpl))
  obtain ⟨a, b, us, ws, rfl, qx, qy, q⟩ := q1
  cases r1 with
  | cons r rr =>
    cases rr with
    | cons q2 rr =>
      cases rr
      cases r
      cases q2
      have new5 : ∀ c, c ∈ [s1.heap.objs.size + 4, s1.heap.objs.size + 2, s1.heap.objs.size + 3, s1.heap.objs.size, s1.heap.objs.size + 1] → FpOk X pn H1 c := fun c mc => by
        have cle : s1.heap.objs.size ≤ c := by
          simp only [List.mem_cons, List.not_mem_nil, or_false] at mc
          rcases mc with z | z | z | z | z <;> rw [z] <;> omega
        exact I1.fpOk cle (I1.hok.fresh cle)
      obtain ⟨ns, va, p1, _⟩ := I1.tuple qx
      obtain ⟨ns2, vb, pb, _⟩ := I1.list qy
      obtain ⟨o1, ho1, _⟩ := id p1
      refine call_zm (show s1.heap.IsTuple a ns.toArray from p1) pb.isList fun g wz wti wtq ta tb esz wk => wpAny_pyIter_zip wz ?_
      have I2 : Inv X pn σ H1 { s1 with heap := g } := I1.kept (t' := s1.toks) wk
      exact ⟨s1.heap.objs.size + 4, [s1.heap.objs.size + 4, s1.heap.objs.size + 2, s1.heap.objs.size + 3, s1.heap.objs.size, s1.heap.objs.size + 1], _, _, H1, rfl, I2, turn_zm (PySem.W.ktu_apart s1.heap.objs.size a b (Heap.lt_size ho1) pb.lt), ⟨wz, wti, ⟨_, _, wtq⟩, ta, tb⟩, new5, q⟩
theorem walk_zm {K : PySem.W.Frag} {p q : Addr} {xs ys : List V} {n : Nat} (hn : n = min xs.length ys.length) : Walk (ItzM K p q) n (fun H => SqT K H p xs ∧ SqL K H q ys) (YPair (fun i => xs[i]?) (fun i => ys[i]?)) := by
  refine ⟨fun i _ hi g => ⟨xs, ys, xs[i]'(by omega), ys[i]'(by omega), g.1, g.2, List.getElem?_eq_getElem _, List.getElem?_eq_getElem _⟩, fun _ g => ⟨xs, ys, g.1, g.2, by omega⟩, fun i H u H2 _ g y => ?_⟩
  obtain ⟨T, v, v2, h1, h2, h3, h4, h5⟩ := y
  exact ⟨T, v, v2, h1, h2, h3, h4 xs g.1, h5 ys g.2⟩
variable [TabNames]
section
variable {X : Cx} {G : Gx} {pos : Pos} {a b : Expr}
def zmD : D → R
  | .list [.tuple xs, .list ys] => .ok (.list (zipD xs ys))
  | x => zpD x
def mZm (ms : Ev → R) : Ev → R := fun ρ => (ms ρ).bind zmD
theorem zmD_no {x : D} (h : ∀ xs ys, x ≠ .list [.tuple xs, .list ys]) : zmD x = zpD x := by
  unfold zmD
  split
  · exact absurd rfl (h _ _)
  · rfl
theorem x_zm {ms : Ev → R} {p tpos : Pos} {elts : List Expr} {kk : Nat} (ha : XA X G [a, b] ms) (hm : X.mg "zip" = none) (hg : Gl X "zip" := by rfl) (hs : starEach [a, b] X.env = (false, eval a X.env) :: starEach [b] X.env := by rfl) (hpl : (backTo pos (starEach [b] X.env)).any (·.1) = false := by rfl) :
    XI X G (.Tuple elts kk tpos) (.Call (.Name "zip" p) [a, b] [] pos) (mZm ms) := ⟨fun ρ => by
  by_cases hc : ∃ xs ys, ms ρ = .ok (.list [.tuple xs, .list ys])
  · obtain ⟨ds, es, hc⟩ := hc
    refine (pi_zipM hg hm (ha.pa ρ) hs hpl).imp fun σ H Q ⟨H0, S0, S, env, h⟩ => ?_
    unfold mZm at h
    rw [hc] at h ⊢
    refine ⟨H0, S0, S, env, fun H1 vs x1 hv => ?_⟩
    have h1 : IPost X.K X.mg G S H σ (.ok (.list (zipD ds es))) Q := h
    cases hv with
    | cons k1 k2 =>
      cases k2 with
      | cons k2 k3 =>
        cases k3
        cases k1 with
        | @tup l xs ds hl k =>
          cases k2 with
          | @lst l2 ys es hl2 k2 =>
            have e1 := da_length k
            have e2 := da_length k2
            exact ⟨l, l2, xs, ys, rfl, ex_t hide_sub hl, ex_l hide_sub hl2, h1 H1 _ x1 (walkPair (walk_zm (K := X.K) (p := l) (q := l2) (xs := xs) (ys := ys) rfl) (fun H2 x2 => ⟨ex_t x2 hl, ex_l x2 hl2⟩) (by rw [e1, e2]) (fun i v ev hi => by
              have hd : ds[i]? = some (ds[i]'(by omega)) := List.getElem?_eq_getElem (by omega)
              obtain ⟨w, ew, kw⟩ := da_get k hd
              rw [ev] at ew
              cases ew
              exact ⟨_, hd, kw⟩) (fun i v ev hi => by
              have hd : es[i]? = some (es[i]'(by omega)) := List.getElem?_eq_getElem (by omega)
              obtain ⟨w, ew, kw⟩ := da_get k2 hd
              rw [ev] at ew
              cases ew
              exact ⟨_, hd, kw⟩))⟩
  · have e : mZm ms ρ = mZp ms ρ := by
      unfold mZm mZp
      cases q : ms ρ with
      | ok x => exact zmD_no fun xs ys z => hc ⟨xs, ys, by rw [q, z]⟩
      | ex c => rfl
      | no => rfl
    rw [e]
    exact (x_zp ha hm hg hs hpl).pi ρ⟩
@[simp] theorem ev_zm {ma : Ev → R} {ρ : Ev} : mZm ma ρ = (ma ρ).bind zmD := Eq.trans rfl rfl
@[simp] theorem ev_zmDL {xs ys : List D} : zmD (.list [.list xs, .list ys]) = .ok (.list (zipD xs ys)) := Eq.trans rfl rfl
@[simp] theorem ev_zmDT {xs ys : List D} : zmD (.list [.tuple xs, .tuple ys]) = .ok (.list (zipD xs ys)) := Eq.trans rfl rfl
@[simp] theorem ev_zmDM {xs ys : List D} : zmD (.list [.tuple xs, .list ys]) = .ok (.list (zipD xs ys)) := Eq.trans rfl rfl
end
end FL
/-! dicts of the frame's own whose keys are tuples of ints and texts -/
namespace FL
open PySem PySem.Spec PyProof.Rows L2
variable [TabNames]
section
variable {X : Cx} {pins : List (Addr × Obj)} {σ : L2.St} {H : Hp} {s : Shared} {a b : Addr} {xs : List (List Key × Addr × Value)} {k : List Key} {A : Around} {E : Value → Shared → Prop}
theorem key_sq (I : Inv X pins σ H s) (h : SqT X.K H b (k.map kV)) : (tupleKind (mixKind X.prog X.w)).is s.heap k b := by
  obtain ⟨its, r, ⟨o, h1, h2, n, h3⟩, _⟩ := I.tuple h
  exact ⟨o, its.toArray, n, h1, h2, h3, by simpa using items_are r⟩
/-- what a key dict is -/
theorem dic_at (hP : X.prog = TabNames.pg) (hw : X.w = TabNames.wo) (I : Inv X pins σ H s) (e : H a = some (DicO a xs)) (hk : ∀ x ∈ xs, SqT X.K H x.2.1 (x.1.map kV)) : (a == sysModules) = false ∧ s.heap.DictOfH (tupleKind (mixKind X.prog X.w)) a xs := by
  obtain ⟨⟨z, o, es, ep, h1, h2, h3, h4, h5⟩, _⟩ := I.hok a _ e
  refine ⟨z, o, es, ep, h1, h2, h3, ?_, fun x hx => key_sq I (hk x hx), h5⟩
  have q : entryOfKey (tupleKind (mixKind TabNames.pg TabNames.wo)) = entryOfKey (tupleKind (mixKind X.prog X.w)) := by rw [hP, hw]
  rw [h4, q]
theorem dic_new (hP : X.prog = TabNames.pg) (hw : X.w = TabNames.wo) {h : Heap} (z : (a == sysModules) = false) (d : h.DictOfH (tupleKind (mixKind X.prog X.w)) a xs) {H' : Hp} : ObjOk X.prog X.w H' h a (DicO a xs) := by
  obtain ⟨o, es, ep, h1, h2, h3, h4, _, h5⟩ := d
  have q : entryOfKey (tupleKind (mixKind X.prog X.w)) = entryOfKey (tupleKind (mixKind TabNames.pg TabNames.wo)) := by rw [hP, hw]
  rw [q] at h4
  refine ⟨⟨z, o, es, ep, h1, h2, h3, h4, h5⟩, ⟨o, h1⟩, fun g1 g2 ⟨z, o, es, ep, q1, q2, q3, q4, q5⟩ k => ⟨z, o, es, ep, k o q1, q2, q3, q4, q5⟩⟩
theorem dic_empty (h : Heap) (hb : sysModules < h.objs.size) {H' : Hp} {P : Program} {w : World} : ObjOk P w H' (h.push { cls := .type "dict", data := .dict #[] }) h.objs.size (DicO h.objs.size []) :=
  ⟨⟨beq_eq_false_iff_ne.mpr (Ne.symm (Nat.ne_of_lt hb)), _, #[], 0, Heap.get?_push_size _ rfl, ⟨rfl, rfl, rfl⟩, rfl, rfl, List.nodup_nil⟩, ⟨_, Heap.get?_push_size _ rfl⟩, fun g1 g2 ⟨z, o, es, ep, q1, q2, q3, q4, q5⟩ k => ⟨z, o, es, ep, k o q1, q2, q3, q4, q5⟩⟩
/-- the dict at a, its keys known -/
def OD (K : PySem.W.Frag) (H : Hp) (a : Addr) (xs : List (List Key × Addr × Value)) : Prop := H a = some (DicO a xs) ∧ ∀ x ∈ xs, SqT K H x.2.1 (x.1.map kV)
theorem od_type (hP : X.prog = TabNames.pg) (hw : X.w = TabNames.wo) (I : Inv X pins σ H s) (g : OD X.K H a xs) : s.TypeIs (.ref a) "dict" := (dic_at hP hw I g.1 g.2).2.typeIs
theorem mut_dic : Mut (some (DicO a xs)) := True.intro
end
def tONew : TE := fun _ H Q => ∀ p, H p = none → Q (.ref p) (upd H p (DicO p []))
theorem pe_onew {X : Cx} {pos : Pos} : PE X (.Dict [] [] pos) tONew := ⟨fun pins s σ H Q I h =>
  wpAny_Dict_empty ⟨.ref s.heap.objs.size, _, I.laid (a := s.heap.objs.size) (o := DicO s.heap.objs.size []) (t' := s.toks) (fun _ _ q => Heap.get?_push_of_some _ q) (Nat.le_refl _) (dic_empty s.heap I.big), rfl, h _ (I.hok.fresh (Nat.le_refl _))⟩⟩
/-- d[y], there -/
def tOGet (K : PySem.W.Frag) (td ty : TE) : TE := fun σ H Q => td σ H fun x H1 => ty σ H1 fun y H2 => ∃ a xs b k c u v, x = .ref a ∧ y = .ref b ∧ OD K H2 a xs ∧ SqT K H2 b (k.map kV) ∧ atKey xs k = some (c, u) ∧ RelV v u ∧ Q v H2
def tONotIn (K : PySem.W.Frag) (ty td : TE) : TE := fun σ H Q => ty σ H fun y H1 => td σ H1 fun x H2 => ∃ a xs b k, x = .ref a ∧ y = .ref b ∧ OD K H2 a xs ∧ SqT K H2 b (k.map kV) ∧ Q (.bl (!(atKey xs k).isSome)) H2
/-- d[y] = v: what stands there afterwards -/
def sOPut (K : PySem.W.Frag) (td ty tv : TE) : TS := fun D σ H => tv σ H fun v H1 => td σ H1 fun x H2 => ty σ H2 fun y H3 => ∃ a xs b k, x = .ref a ∧ y = .ref b ∧ OD K H3 a xs ∧ SqT K H3 b (k.map kV) ∧ xs.length < sizeLine ∧ ∀ r, RelV v r → D.nx σ (upd H3 a (DicO a (storedH xs k b r)))
section
variable {X : Cx} {o i e value : Expr} {pos pos' tpos : Pos} {td ty tv : TE}
theorem pe_oget (hP : X.prog = TabNames.pg) (hw : X.w = TabNames.wo) (hu : X.A.units + 1 < cLine) (ho : PE X o td) (hi : PE X i ty) (hs : NoSl i) : PE X (.Subscript o i pos) (tOGet X.K td ty) := by
  refine ⟨fun pins s σ H Q I h => ?_⟩
  refine subD_of PySem.F.slot_dict_getitem.lookup hs (thn (ho.run pins s σ H _ I h) fun u s1 ⟨x, H1, I1, rx, q1⟩ => thn (hi.run pins s1 σ H1 _ I1 q1) fun iv s2 ⟨y, H2, I2, ry, a, xs, b, k, c, u2, v, ex, ey, g, kb, at_, rv, q2⟩ => ?_)
  subst ex ey
  obtain rfl : u = Value.ref a := rx
  obtain rfl : iv = Value.ref b := ry
  refine ⟨od_type hP hw I2 g, wpAny_getItem_heap (tupleKind_room_in1 hu) (key_sq I2 kb) (dic_at hP hw I2 g.1 g.2).2 at_ ?_⟩
  exact ⟨v, H2, I2.tok _, rv, q2⟩
theorem pc_onotin (hP : X.prog = TabNames.pg) (hw : X.w = TabNames.wo) (hu : X.A.units + 1 < cLine) (hi : PE X i ty) (ho : PE X o td) : PC X .NotIn i o (tONotIn X.K ty td) := by
  refine ⟨fun pins s σ H Q I h => ?_⟩
  refine thn (hi.run pins s σ H _ I h) fun iv s1 ⟨y, H1, I1, ry, q1⟩ => thn (ho.run pins s1 σ H1 _ I1 q1) fun u s2 ⟨x, H2, I2, rx, a, xs, b, k, ex, ey, g, kb, q2⟩ => ?_
  subst ex ey
  obtain rfl : u = Value.ref a := rx
  obtain rfl : iv = Value.ref b := ry
  obtain ⟨z, dd⟩ := dic_at hP hw I2 g.1 g.2
  refine wpAny_notIn_heap (tupleKind_room_in1 hu) (key_sq I2 kb) z dd ?_
  exact ⟨.bl (!(atKey xs k).isSome), H2, I2.tok _, rfl, q2⟩
theorem ps_oput (hP : X.prog = TabNames.pg) (hw : X.w = TabNames.wo) (hu : X.A.units + 1 < cLine) (ho : PE X o td) (hi : PE X i ty) (hv : PE X value tv) (hs : swapsWith value (some (.Subscript o i pos')) pos.line X.env = pure false) :
    PS X (.Assign [.Subscript o i pos'] value pos) (sOPut X.K td ty tv) := by
  refine ⟨fun pins s σ H D I h => ?_⟩
  refine wpAny_Assign_Subscript (thn (hv.run pins s σ H _ I h) fun r s1 ⟨v, H1, I1, rv, q1⟩ => thn (ho.run pins s1 σ H1 _ I1 q1) fun u s2 ⟨x, H2, I2, rx, q2⟩ => thn (hi.run pins s2 σ H2 _ I2 q2) fun iv s3 ⟨y, H3, I3, ry, a, xs, b, k, ex, ey, g, kb, hl, q3⟩ => ?_) hs
  subst ex ey
  obtain rfl : u = Value.ref a := rx
  obtain rfl : iv = Value.ref b := ry
  obtain ⟨z, dd⟩ := dic_at hP hw I3 g.1 g.2
  refine wpAny_setItem_heap (hsz := by omega) (tupleKind_room_in1 hu) (key_sq I3 kb) dd fun h' dd' hs => ?_
  obtain ⟨q, es, ep, hq, h2⟩ := id dd'
  exact ⟨σ, _, d_write I3 (by rw [g.1]; exact mut_dic) hs ⟨q, hq⟩ (dic_new hP hw z dd'), q3 r rv⟩
end
end FL
/-! statements of dicts with tuple keys -/
namespace FL
open PySem PySem.Spec PyProof.Rows L2
variable [TabNames]
def kD : D → Option Key
  | .int i => some (.inl i)
  | .str s => some (.inr s)
  | _ => none
def keysD : List D → Option (List Key)
  | [] => some []
  | d :: r => match kD d, keysD r with
    | some k, some ks => some (k :: ks)
    | _, _ => none
def keyD : D → Option (List Key)
  | .tuple ds => keysD ds
  | _ => none
theorem keysD_ok {K : PySem.W.Frag} {H : Hp} : ∀ {vs : List V} {ds : List D} {ks : List Key}, DpAll K H vs ds → keysD ds = some ks → vs = ks.map kV
  | _, _, _, .nil, e => by cases e; rfl
  | _, d :: r, ks, .cons h t, e => by
    unfold keysD at e
    cases e1 : kD d with
    | none => rw [e1] at e; cases e
    | some k =>
      cases e2 : keysD r with
      | none => rw [e1, e2] at e; cases e
      | some k2 =>
        rw [e1, e2] at e
        cases e
        rw [List.map_cons, ← keysD_ok t e2]
        cases h with
        | int i => cases e1; rfl
        | str s => cases e1; rfl
        | _ => cases e1
theorem keyD_ok {K : PySem.W.Frag} {H : Hp} {v : V} {d : D} {ks : List Key} (h : Dp K H v d) (e : keyD d = some ks) : ∃ b, v = .ref b ∧ SqT K H b (ks.map kV) := by
  cases h with
  | tup h k =>
    rw [← keysD_ok k e]
    exact ⟨_, rfl, h⟩
  | _ => cases e
def getK (kvs : List (List Key × Int)) (k : List Key) : Option Int := (kvs.find? fun p => decide (p.1 = k)).map (·.2)
def putI (kvs : List (List Key × Int)) (k : List Key) (i : Int) : List (List Key × Int) :=
  if (getK kvs k).isSome = true then kvs.map (fun p => if p.1 = k then (p.1, i) else p) else kvs ++ [(k, i)]
abbrev KI : List (List Key × Int) → List (List Key × Addr × Value) → Prop := Paired fun (p : List Key × Int) (q : List Key × Addr × Value) => p.1 = q.1 ∧ RelV (.int p.2) q.2.2
theorem KI.get {kvs : List (List Key × Int)} {xs : List (List Key × Addr × Value)} (r : KI kvs xs) (k : List Key) : (getK kvs k = none ∧ atKey xs k = none) ∨ ∃ i c u, getK kvs k = some i ∧ atKey xs k = some (c, u) ∧ RelV (.int i) u := by
  induction r with
  | nil => exact .inl ⟨rfl, rfl⟩
  | @cons p q ps qs h t ih =>
    obtain ⟨h1, h2⟩ := h
    by_cases e : p.1 = k
    · have e' : q.1 = k := h1.symm.trans e
      exact .inr ⟨p.2, q.2.1, q.2.2, by simp [getK, List.find?_cons, e], by simp [atKey, List.find?_cons, e'], h2⟩
    · have e' : ¬ q.1 = k := fun z => e (h1.trans z)
      have a1 : getK (p :: ps) k = getK ps k := by simp [getK, List.find?_cons, e]
      have a2 : atKey (q :: qs) k = atKey qs k := by simp [atKey, List.find?_cons, e']
      rw [a1, a2]
      exact ih
theorem KI.put {kvs : List (List Key × Int)} {xs : List (List Key × Addr × Value)} (r : KI kvs xs) (k : List Key) {b : Addr} {i : Int} {u : Value} (ru : RelV (.int i) u) : KI (putI kvs k i) (storedH xs k b u) := by
  have e : (getK kvs k).isSome = (atKey xs k).isSome := by
    rcases r.get k with ⟨a, b⟩ | ⟨i, c, u, a, b, _⟩ <;> rw [a, b] <;> rfl
  unfold putI storedH
  rw [e]
  by_cases q : (atKey xs k).isSome = true
  · rw [if_pos q, if_pos q]
    clear q e
    induction r with
    | nil => exact .nil
    | @cons p q ps qs h t ih =>
      rw [List.map_cons, List.map_cons]
      refine .cons ?_ ih
      obtain ⟨h1, h2⟩ := h
      unfold putAt
      by_cases e : p.1 = k
      · rw [if_pos e, if_pos (h1.symm.trans e)]; exact ⟨h1, ru⟩
      · rw [if_neg e, if_neg (fun z => e (h1.trans z))]; exact ⟨h1, h2⟩
  · rw [if_neg q, if_neg q]
    exact Paired.snoc r ⟨rfl, ru⟩
theorem storedH_mem {xs : List (List Key × Addr × Value)} {k : List Key} {b : Addr} {u : Value} {y : List Key × Addr × Value} (h : y ∈ storedH xs k b u) : (∃ x ∈ xs, y.1 = x.1 ∧ y.2.1 = x.2.1) ∨ (y.1 = k ∧ y.2.1 = b) := by
  unfold storedH at h
  split at h
  · obtain ⟨x, hx, rfl⟩ := List.mem_map.mp h
    refine .inl ⟨x, hx, ?_⟩
    unfold putAt
    split <;> exact ⟨rfl, rfl⟩
  · rcases List.mem_append.mp h with h | h
    · exact .inl ⟨y, h, rfl, rfl⟩
    · rw [List.mem_singleton.mp h]; exact .inr ⟨rfl, rfl⟩
theorem storedH_len {xs : List (List Key × Addr × Value)} {k : List Key} {b : Addr} {u : Value} : (storedH xs k b u).length ≤ xs.length + 1 := by
  unfold storedH
  split
  · rw [List.length_map]; omega
  · rw [List.length_append, List.length_singleton]; omega
section
variable {X : Cx} {G : Gx} {pos : Pos} {a b c e : Expr} {ma mb mk : Ev → R}
/-- x = {} -/
def mSetOT (i : Nat) : Ev → Out := fun ρ => .nx (ρ.set i (.ot []))
theorem s_setOT (i : Nat) {x : Str} {p : Pos} (hN : X.N.Nodup) (hi : X.N[i]? = some x := by rfl) (hx : Loc X.env.scope x := by first | exact Or.inl rfl | exact Or.inr rfl) (hs : swapsWith (.Dict [] [] c0) (some (.Name x p)) pos.line X.env = pure false := by rfl)
    (hf : X.fn x = true ∨ X.env.scope.names.lookup x = some .local := by first | exact .inl rfl | exact .inr rfl | assumption) : XS X G (.Assign [.Name x p] (.Dict [] [] c0) pos) (mSetOT i) := ⟨fun ρ => (ps_set hN hi hx pe_onew hs hf).imp fun Dn σ H ⟨H0, S0, S, env, h⟩ => by
  intro p np
  exact h _ (p :: S) _ (env.setOw (s := .ot []) np (Ex.new np) upd_same Lv.dic ⟨p, [], rfl, List.mem_cons_self, upd_same, Nat.zero_le _, fun x hx => (nomatch hx), .nil⟩)⟩
theorem ot_get {K : PySem.W.Frag} {xa : Option Hx} {H0 H : Hp} {S0 S : List Addr} {σ : L2.St} {ρ : Ev} {i : Nat} {kvs : List (List Key × Int)} (env : EnvOk K xa H0 S0 S H σ ρ) (h : ρ[i]? = some (.ot kvs)) : ∃ l xs, σ[i]? = some (some (.ref l)) ∧ l ∈ S ∧ OD K H l xs ∧ (∀ x ∈ xs, SqT K (hide S H) x.2.1 (x.1.map kV)) ∧ xs.length ≤ sizeLine ∧ KI kvs xs := by
  obtain ⟨l, xs, e, m, hl, hs, hk, r⟩ := env.sl i _ h
  exact ⟨l, xs, e, m, ⟨hl, fun x hx => ex_t hide_sub (hk x hx)⟩, hk, hs, r⟩
/-- e not in d -/
def mNotInOT (i : Nat) (ma : Ev → R) : Ev → R := fun ρ => match ρ[i]? with
  | some (.ot kvs) => (ma ρ).bind fun d => match keyD d with
    | some k => .ok (.bool (!(getK kvs k).isSome))
    | none => .no
  | _ => .no
theorem x_notInOT (i : Nat) {x : Str} {p : Pos} (hP : X.prog = TabNames.pg) (hw : X.w = TabNames.wo) (hu : X.A.units + 1 < cLine) (ha : XE X G a ma) (hN : X.N[i]? = some x := by rfl) (hv : Vis X.env.scope x := by first | exact Or.inl rfl | exact Or.inr (Or.inl rfl) | exact Or.inr (Or.inr rfl)) (hd : (x == ("__debug__" : Str)) = false := by decide)
    (hcd : (x == ("__classdict__" : Str)) = false := by decide) (hm : behindInMarks .NotIn (.Name x p) = false := by first | exact nomark _ | rfl) : XE X G (.Compare a [.NotIn] [.Name x p] pos) (mNotInOT i ma) := ⟨fun ρ => (pe_cmp (pc_onotin hP hw hu (ha.pe ρ) (pe_var hN hv hd hcd)) hm).imp fun σ H Q ⟨H0, S0, S, env, h⟩ => by
  unfold mNotInOT at h
  split at h
  · rename_i kvs er
    refine tE_bind env h fun d H' v _ xx hv h' => ?_
    have env' := env.mono xx
    obtain ⟨l, xs, e1, lS, od, hk, hs, r⟩ := ot_get env' er
    cases ek : keyD d with
    | none => simp only [ek] at h'; exact h'.elim
    | some k =>
      simp only [ek] at h'
      obtain ⟨b, rfl, kb⟩ := keyD_ok hv ek
      refine ⟨.ref l, e1, l, xs, b, k, rfl, rfl, od, ex_t hide_sub kb, ?_⟩
      have e : (getK kvs k).isSome = (atKey xs k).isSome := by
        rcases r.get k with ⟨a, b⟩ | ⟨i, c, u, a, b, _⟩ <;> rw [a, b] <;> rfl
      rw [← e]
      exact post_val h' (.bl _)
  · exact h.elim⟩
/-- d[e] -/
def mIxOT (i : Nat) (mk : Ev → R) : Ev → R := fun ρ => match ρ[i]? with
  | some (.ot kvs) => (mk ρ).bind fun d => match keyD d with
    | some k => match getK kvs k with
      | some z => .ok (.int z)
      | none => .no
    | none => .no
  | _ => .no
theorem x_ixOT (i : Nat) {x : Str} {p : Pos} (hP : X.prog = TabNames.pg) (hw : X.w = TabNames.wo) (hu : X.A.units + 1 < cLine) (hk : XE X G b mk) (hN : X.N[i]? = some x := by rfl) (hv : Vis X.env.scope x := by first | exact Or.inl rfl | exact Or.inr (Or.inl rfl) | exact Or.inr (Or.inr rfl)) (hd : (x == ("__debug__" : Str)) = false := by decide)
    (hcd : (x == ("__classdict__" : Str)) = false := by decide) (hs : NoSl b := by intro _ _; rfl) : XE X G (.Subscript (.Name x p) b pos) (mIxOT i mk) := ⟨fun ρ => (pe_oget hP hw hu (pe_var hN hv hd hcd) (hk.pe ρ) hs).imp fun σ H Q ⟨H0, S0, S, env, h⟩ => by
  unfold mIxOT at h
  split at h
  · rename_i kvs er
    obtain ⟨l0, _, e0, _⟩ := ot_get env er
    refine ⟨.ref l0, e0, tE_bind env h fun d H' v _ xx hv h' => ?_⟩
    have env' := env.mono xx
    obtain ⟨l, xs, e1, lS, od, hk, hs, r⟩ := ot_get env' er
    rw [e0] at e1
    cases e1
    cases ek : keyD d with
    | none => simp only [ek] at h'; exact h'.elim
    | some k =>
      simp only [ek] at h'
      obtain ⟨b, rfl, kb⟩ := keyD_ok hv ek
      rcases r.get k with ⟨a, _⟩ | ⟨z, c, u, a, ea, ru⟩
      · simp only [a] at h'; exact h'.elim
      · simp only [a] at h'
        exact ⟨l0, xs, b, k, c, u, .int z, rfl, rfl, od, ex_t hide_sub kb, ea, ru, post_val h' (.int _)⟩
  · exact h.elim⟩
/-- d[e] = v -/
def mPutOT (i : Nat) (mk ma : Ev → R) : Ev → Out := fun ρ => match ρ[i]? with
  | some (.ot kvs) => (ma ρ).go ρ fun d => (mk ρ).go ρ fun y => match d, keyD y with
    | .int z, some k => if kvs.length < sizeLine then .nx (ρ.set i (.ot (putI kvs k z))) else .no
    | _, _ => .no
  | _ => .no
theorem KI.length {kvs : List (List Key × Int)} {xs : List (List Key × Addr × Value)} (r : KI kvs xs) : kvs.length = xs.length := Paired.length r
theorem s_putOT (i : Nat) {x : Str} {p p2 : Pos} (hP : X.prog = TabNames.pg) (hw : X.w = TabNames.wo) (hu : X.A.units + 1 < cLine) (hk : XE X G b mk) (ha : XE X G a ma) (hN : X.N[i]? = some x := by rfl) (hv : Vis X.env.scope x := by first | exact Or.inl rfl | exact Or.inr (Or.inl rfl) | exact Or.inr (Or.inr rfl)) (hd : (x == ("__debug__" : Str)) = false := by decide)
    (hcd : (x == ("__classdict__" : Str)) = false := by decide) (hs : swapsWith a (some (.Subscript (.Name x p) b p2)) pos.line X.env = pure false := by rfl) : XS X G (.Assign [.Subscript (.Name x p) b p2] a pos) (mPutOT i mk ma) := ⟨fun ρ => (ps_oput hP hw hu (pe_var hN hv hd hcd) (hk.pe ρ) (ha.pe ρ) hs).imp fun Dn σ H ⟨H0, S0, S, env, h⟩ => by
  unfold mPutOT at h
  split at h
  · rename_i kvs er
    refine go_tE env h fun d H' v _ xx hv h' => ?_
    have env' := env.mono xx
    obtain ⟨l0, _, e0, _⟩ := ot_get env' er
    refine ⟨.ref l0, e0, go_tE env' h' fun y H2 u _ x2 hu h2 => ?_⟩
    have env2 := env'.mono x2
    obtain ⟨l, xs, e1, lS, od, hk, hs, r⟩ := ot_get env2 er
    rw [e0] at e1
    cases e1
    cases d with
    | int z =>
      cases ek : keyD y with
      | none => simp only [ek] at h2; exact h2.elim
      | some k =>
        simp only [ek] at h2
        obtain ⟨b, rfl, kb⟩ := keyD_ok hu ek
        cases hv
        by_cases q : kvs.length < sizeLine
        · rw [if_pos q] at h2
          refine ⟨l0, xs, b, k, rfl, rfl, od, ex_t hide_sub kb, by rw [← r.length]; exact q, fun w rw_ => ?_⟩
          refine h2 σ S _ (env2.updOw e0 er rfl Lv.dic ⟨l0, _, rfl, lS, upd_same, ?_, fun y hy => ?_, r.put k rw_⟩)
          · have := storedH_len (xs := xs) (k := k) (b := b) (u := w)
            have := r.length
            omega
          · rw [hide_upd lS]
            rcases storedH_mem hy with ⟨x, hx, e1, e2⟩ | ⟨e1, e2⟩
            · rw [e1, e2]; exact hk x hx
            · rw [e1, e2]; exact kb
        · rw [if_neg q] at h2
          exact h2.elim
    | _ => exact h2.elim
  · exact h.elim⟩
end
end FL
/-! statements of dicts with keys that are whole numbers -/
namespace FL
open PySem PySem.Spec PyProof.Rows L2
variable [TabNames]
def getO (kvs : List (Int × D)) (k : Int) : Option D := (kvs.find? fun p => decide (p.1 = k)).map (·.2)
def putO (kvs : List (Int × D)) (k : Int) (d : D) : List (Int × D) :=
  if (kvs.any fun p => decide (p.1 = k)) = true then kvs.map (fun p => if p.1 = k then (p.1, d) else p) else kvs ++ [(k, d)]
def OdR (K : PySem.W.Frag) (H : Hp) (es : List (Key × V)) (kvs : List (Int × D)) : Prop := es.map (·.1) = kvs.map (fun p => Sum.inl p.1) ∧ DpAll K H (es.map (·.2)) (kvs.map (·.2))
theorem OdR.nil {K : PySem.W.Frag} {H : Hp} : OdR K H [] [] := ⟨rfl, .nil⟩
theorem OdR.cons' {K : PySem.W.Frag} {H : Hp} {p : Key × V} {es : List (Key × V)} {q : Int × D} {kvs : List (Int × D)} (h : OdR K H (p :: es) (q :: kvs)) : p.1 = .inl q.1 ∧ Dp K H p.2 q.2 ∧ OdR K H es kvs := by
  obtain ⟨h1, h2⟩ := h
  simp only [List.map_cons, List.cons.injEq] at h1 h2
  cases h2 with
  | cons a b => exact ⟨h1.1, a, h1.2, b⟩
theorem OdR.cons {K : PySem.W.Frag} {H : Hp} {p : Key × V} {es : List (Key × V)} {q : Int × D} {kvs : List (Int × D)} (h1 : p.1 = .inl q.1) (h2 : Dp K H p.2 q.2) (h3 : OdR K H es kvs) : OdR K H (p :: es) (q :: kvs) :=
  ⟨by rw [List.map_cons, List.map_cons, h1, h3.1], .cons h2 h3.2⟩
theorem OdR.length {K : PySem.W.Frag} {H : Hp} {es : List (Key × V)} {kvs : List (Int × D)} (h : OdR K H es kvs) : es.length = kvs.length := by
  have := congrArg List.length h.1
  simpa using this
theorem OdR.get {K : PySem.W.Frag} {H : Hp} (k : Int) : ∀ {es : List (Key × V)} {kvs : List (Int × D)}, OdR K H es kvs → (valV es (.inl k) = none ∧ getO kvs k = none) ∨ ∃ v d, valV es (.inl k) = some v ∧ getO kvs k = some d ∧ Dp K H v d
  | [], [], _ => .inl ⟨rfl, rfl⟩
  | [], _ :: _, h => by have := h.length; cases this
  | _ :: _, [], h => by have := h.length; cases this
  | p :: es, q :: kvs, h => by
    obtain ⟨h1, h2, h3⟩ := h.cons'
    by_cases e : q.1 = k
    · exact .inr ⟨p.2, q.2, valV_pos (by rw [h1, e]), by simp [getO, List.find?_cons, e], h2⟩
    · have a1 : getO (q :: kvs) k = getO kvs k := by simp [getO, List.find?_cons, e]
      have a2 : valV (p :: es) (.inl k) = valV es (.inl k) := valV_neg (by rw [h1]; exact fun z => e (Sum.inl.inj z))
      rw [a1, a2]
      exact OdR.get k h3
theorem OdR.any {K : PySem.W.Frag} {H : Hp} (k : Int) : ∀ {es : List (Key × V)} {kvs : List (Int × D)}, OdR K H es kvs → (es.any fun p => decide (p.1 = Sum.inl k)) = kvs.any fun p => decide (p.1 = k)
  | [], [], _ => rfl
  | [], _ :: _, h => by have := h.length; cases this
  | _ :: _, [], h => by have := h.length; cases this
  | p :: es, q :: kvs, h => by
    obtain ⟨h1, h2, h3⟩ := h.cons'
    rw [List.any_cons, List.any_cons, OdR.any k h3, h1]
    congr 1
    simp
theorem OdR.app {K : PySem.W.Frag} {H : Hp} {es : List (Key × V)} {kvs : List (Int × D)} {k : Int} {v : V} {d : D} (h : OdR K H es kvs) (hd : Dp K H v d) : OdR K H (es ++ [(.inl k, v)]) (kvs ++ [(k, d)]) := by
  refine ⟨by rw [List.map_append, List.map_append, h.1]; rfl, ?_⟩
  rw [List.map_append, List.map_append]
  exact da_app1 h.2 hd
theorem OdR.repl {K : PySem.W.Frag} {H : Hp} {k : Int} {v : V} {d : D} (hd : Dp K H v d) : ∀ {es : List (Key × V)} {kvs : List (Int × D)}, OdR K H es kvs → OdR K H (es.map fun p => if p.1 = Sum.inl k then (p.1, v) else p) (kvs.map fun p => if p.1 = k then (p.1, d) else p)
  | [], [], _ => .nil
  | [], _ :: _, h => by have := h.length; cases this
  | _ :: _, [], h => by have := h.length; cases this
  | p :: es, q :: kvs, h => by
    obtain ⟨h1, h2, h3⟩ := h.cons'
    rw [List.map_cons, List.map_cons]
    by_cases e : q.1 = k
    · rw [if_pos (by rw [h1, e]), if_pos e]
      exact .cons h1 hd (OdR.repl hd h3)
    · rw [if_neg (by rw [h1]; exact fun z => e (Sum.inl.inj z)), if_neg e]
      exact .cons h1 h2 (OdR.repl hd h3)
theorem OdR.put {K : PySem.W.Frag} {H : Hp} {es : List (Key × V)} {kvs : List (Int × D)} {k : Int} {v : V} {d : D} (h : OdR K H es kvs) (hd : Dp K H v d) : OdR K H (putK es (.inl k) v) (putO kvs k d) := by
  unfold putK putO
  rw [h.any k]
  split
  · exact h.repl hd
  · exact h.app hd
theorem OdR.mono {K : PySem.W.Frag} {H H' : Hp} {es : List (Key × V)} {kvs : List (Int × D)} (h : OdR K H es kvs) (x : Ek H H') : OdR K H' es kvs := ⟨h.1, da_mono x h.2⟩
section
variable {X : Cx} {G : Gx} {pos : Pos} {a b c e : Expr} {ma mb mk ms : Ev → R}
theorem od_get {K : PySem.W.Frag} {xa : Option Hx} {H0 H : Hp} {S0 S : List Addr} {σ : L2.St} {ρ : Ev} {i : Nat} {kvs : List (Int × D)} (env : EnvOk K xa H0 S0 S H σ ρ) (h : ρ[i]? = some (.od kvs)) : ∃ l es, σ[i]? = some (some (.ref l)) ∧ l ∈ S ∧ H l = some (.dK es) ∧ OdR K (hide S H) es kvs := by
  obtain ⟨l, es, e, m, hl, h1, h2⟩ := env.sl i _ h
  exact ⟨l, es, e, m, hl, h1, h2⟩
/-- x = {} -/
def mSetOD (i : Nat) : Ev → Out := fun ρ => .nx (ρ.set i (.od []))
theorem s_setOD (i : Nat) {x : Str} {p c0 : Pos} (hN : X.N.Nodup) (hi : X.N[i]? = some x := by rfl) (hx : Loc X.env.scope x := by first | exact Or.inl rfl | exact Or.inr rfl) (hs : swapsWith (.Dict [] [] c0) (some (.Name x p)) pos.line X.env = pure false := by rfl)
    (hf : X.fn x = true ∨ X.env.scope.names.lookup x = some .local := by first | exact .inl rfl | exact .inr rfl | assumption) : XS X G (.Assign [.Name x p] (.Dict [] [] c0) pos) (mSetOD i) := ⟨fun ρ => (ps_set hN hi hx pe_dnewK hs hf).imp fun Dn σ H ⟨H0, S0, S, env, h⟩ => by
  intro p np
  exact h _ (p :: S) _ (env.setOw (s := .od []) np (Ex.new np) upd_same trivial ⟨p, [], rfl, List.mem_cons_self, upd_same, rfl, .nil⟩)⟩
/-- e in d, e not in d -/
def mInOD (neg : Bool) (i : Nat) (ma : Ev → R) : Ev → R := fun ρ => match ρ[i]? with
  | some (.od kvs) => (ma ρ).bind fun d => match d with
    | .int k => .ok (.bool (neg != (getO kvs k).isSome))
    | _ => .no
  | _ => .no
theorem x_inOD (i : Nat) {x : Str} {p : Pos} (hu : X.A.units + 1 < cLine) (ha : XE X G a ma) (hN : X.N[i]? = some x := by rfl) (hv : Vis X.env.scope x := by first | exact Or.inl rfl | exact Or.inr (Or.inl rfl) | exact Or.inr (Or.inr rfl)) (hd : (x == ("__debug__" : Str)) = false := by decide)
    (hcd : (x == ("__classdict__" : Str)) = false := by decide) (hm : behindInMarks .In (.Name x p) = false := by first | exact nomark _ | rfl) : XE X G (.Compare a [.In] [.Name x p] pos) (mInOD false i ma) := ⟨fun ρ => (pe_cmp (pc_din hu (ha.pe ρ) (pe_var hN hv hd hcd)) hm).imp fun σ H Q ⟨H0, S0, S, env, h⟩ => by
  unfold mInOD at h
  split at h
  · rename_i kvs er
    refine tE_bind env h fun d H' v _ xx hv h' => ?_
    have env' := env.mono xx
    obtain ⟨l, es, e1, lS, hl, r⟩ := od_get env' er
    cases hv with
    | int k =>
      refine ⟨.ref l, e1, l, valV es (.inl k), rfl, .inl ⟨es, .inl k, .inl hl, rfl, rfl⟩, ?_⟩
      have e : (valV es (.inl k)).isSome = (getO kvs k).isSome := by
        rcases r.get k with ⟨a, b⟩ | ⟨v, d, a, b, _⟩ <;> rw [a, b] <;> rfl
      rw [e]
      have h2 : Post X.K S H' (.bool (false != (getO kvs k).isSome)) Q := h'
      rw [Bool.false_bne] at h2
      exact post_val h2 (.bl _)
    | _ => exact h'.elim
  · exact h.elim⟩
/-- d[e] -/
def mIxOD (i : Nat) (mk : Ev → R) : Ev → R := fun ρ => match ρ[i]? with
  | some (.od kvs) => (mk ρ).bind fun d => match d with
    | .int k => R.of (getO kvs k)
    | _ => .no
  | _ => .no
theorem x_ixOD (i : Nat) {x : Str} {p : Pos} (hu : X.A.units + 1 < cLine) (hk : XE X G b mk) (hN : X.N[i]? = some x := by rfl) (hv : Vis X.env.scope x := by first | exact Or.inl rfl | exact Or.inr (Or.inl rfl) | exact Or.inr (Or.inr rfl)) (hd : (x == ("__debug__" : Str)) = false := by decide)
    (hcd : (x == ("__classdict__" : Str)) = false := by decide) (hs : NoSl b := by intro _ _; rfl) : XE X G (.Subscript (.Name x p) b pos) (mIxOD i mk) := ⟨fun ρ => (pe_dget hu (pe_var hN hv hd hcd) (hk.pe ρ) hs).imp fun σ H Q ⟨H0, S0, S, env, h⟩ => by
  unfold mIxOD at h
  split at h
  · rename_i kvs er
    obtain ⟨l0, _, e0, _⟩ := od_get env er
    refine ⟨.ref l0, e0, tE_bind env h fun d H' v _ xx hv h' => ?_⟩
    have env' := env.mono xx
    obtain ⟨l, es, e1, lS, hl, r⟩ := od_get env' er
    rw [e0] at e1
    cases e1
    cases hv with
    | int k =>
      rcases r.get k with ⟨_, a⟩ | ⟨v, d, ev, ed, hd⟩
      · have h2 : RPost X.K X.mg G S H' σ (R.of (getO kvs k)) Q := h'
        rw [a] at h2
        exact h2.elim
      · have h2 : RPost X.K X.mg G S H' σ (R.of (getO kvs k)) Q := h'
        rw [ed] at h2
        exact ⟨l0, v, rfl, .inl ⟨es, .inl k, .inl hl, rfl, ev.symm⟩, post_val h2 hd⟩
    | _ => exact h'.elim
  · exact h.elim⟩
/-- d[e] = v -/
def mPutOD (i : Nat) (mk ma : Ev → R) : Ev → Out := fun ρ => match ρ[i]? with
  | some (.od kvs) => (ma ρ).go ρ fun d => (mk ρ).go ρ fun y => match y with
    | .int k => if kvs.length < sizeLine then .nx (ρ.set i (.od (putO kvs k d))) else .no
    | _ => .no
  | _ => .no
theorem s_putOD (i : Nat) {x : Str} {p p2 : Pos} (hu : X.A.units + 1 < cLine) (hk : XE X G b mk) (ha : XE X G a ma) (hN : X.N[i]? = some x := by rfl) (hv : Vis X.env.scope x := by first | exact Or.inl rfl | exact Or.inr (Or.inl rfl) | exact Or.inr (Or.inr rfl)) (hd : (x == ("__debug__" : Str)) = false := by decide)
    (hcd : (x == ("__classdict__" : Str)) = false := by decide) (hs : swapsWith a (some (.Subscript (.Name x p) b p2)) pos.line X.env = pure false := by rfl) : XS X G (.Assign [.Subscript (.Name x p) b p2] a pos) (mPutOD i mk ma) := ⟨fun ρ => (ps_dput hu (pe_var hN hv hd hcd) (hk.pe ρ) (ha.pe ρ) hs).imp fun Dn σ H ⟨H0, S0, S, env, h⟩ => by
  unfold mPutOD at h
  split at h
  · rename_i kvs er
    refine go_tE env h fun d H' v _ xx hv h' => ?_
    have env' := env.mono xx
    obtain ⟨l0, _, e0, _⟩ := od_get env' er
    refine ⟨.ref l0, e0, go_tE env' h' fun y H2 u _ x2 hu h2 => ?_⟩
    have env2 := env'.mono x2
    obtain ⟨l, es, e1, lS, hl, r⟩ := od_get env2 er
    rw [e0] at e1
    cases e1
    cases hu with
    | int k =>
      by_cases q : kvs.length < sizeLine
      · simp only [if_pos q] at h2
        refine ⟨l0, _, rfl, .inl ⟨es, .inl k, hl, rfl, by rw [r.length]; exact q, rfl⟩, ?_⟩
        have r2 := r.put (k := k) (dp_mono (hide_mono x2) hv)
        refine h2 σ S _ (env2.updOw e0 er rfl trivial ⟨l0, _, rfl, lS, upd_same, ?_⟩)
        rw [hide_upd lS]
        exact r2
      · simp only [if_neg q] at h2
        exact h2.elim
    | _ => exact h2.elim
  · exact h.elim⟩
end
end FL
/-! sorted(d), {k: v} -/
namespace FL
open PySem PySem.Spec PyProof.Rows L2
variable [TabNames]
def insI (x : Int) : List Int → List Int
  | [] => [x]
  | y :: r => if x ≤ y then x :: y :: r else y :: insI x r
def sortI : List Int → List Int
  | [] => []
  | x :: r => insI x (sortI r)
omit [TabNames] in
theorem insI_perm (x : Int) : ∀ l : List Int, (insI x l).Perm (x :: l)
  | [] => .refl _
  | y :: r => by
    unfold insI
    split
    · exact .refl _
    · exact ((insI_perm x r).cons y).trans (List.Perm.swap x y r)
omit [TabNames] in
theorem sortI_perm : ∀ l : List Int, (sortI l).Perm l
  | [] => .refl _
  | x :: r => (insI_perm x (sortI r)).trans ((sortI_perm r).cons x)
omit [TabNames] in
theorem insI_sorted (x : Int) : ∀ {l : List Int}, l.Pairwise (· ≤ ·) → (insI x l).Pairwise (· ≤ ·)
  | [], _ => by simp [insI]
  | y :: r, h => by
    unfold insI
    have h2 := List.pairwise_cons.mp h
    split
    · rename_i q
      refine List.pairwise_cons.mpr ⟨fun z hz => ?_, h⟩
      rcases List.mem_cons.mp hz with rfl | hz
      · exact q
      · exact Int.le_trans q (h2.1 z hz)
    · refine List.pairwise_cons.mpr ⟨fun z hz => ?_, insI_sorted x h2.2⟩
      rcases List.mem_cons.mp ((insI_perm x r).mem_iff.mp hz) with rfl | hz
      · omega
      · exact h2.1 z hz
omit [TabNames] in
theorem sortI_sorted : ∀ l : List Int, (sortI l).Pairwise (· ≤ ·)
  | [] => .nil
  | x :: r => insI_sorted x (sortI_sorted r)
omit [TabNames] in
theorem sorted_uniq : ∀ {a b : List Int}, a.Perm b → a.Pairwise (· ≤ ·) → b.Pairwise (· ≤ ·) → a = b
  | [], b, h, _, _ => (List.nil_perm.mp h).symm ▸ rfl
  | x :: a, [], h, _, _ => by have := h.length_eq; cases this
  | x :: a, y :: b, h, ha, hb => by
    have ha2 := List.pairwise_cons.mp ha
    have hb2 := List.pairwise_cons.mp hb
    have e : x = y := by
      have m1 : x ∈ y :: b := h.mem_iff.mp (by simp)
      have m2 : y ∈ x :: a := h.mem_iff.mpr (by simp)
      rcases List.mem_cons.mp m1 with e | m1
      · exact e
      · rcases List.mem_cons.mp m2 with e | m2
        · exact e.symm
        · have := ha2.1 y m2
          have := hb2.1 x m1
          omega
    subst e
    rw [sorted_uniq ((List.perm_cons x).mp h) ha2.2 hb2.2]
theorem da_ints {K : PySem.W.Frag} {H : Hp} : ∀ ns : List Int, DpAll K H (ns.map V.int) (ns.map PyData.int)
  | [] => .nil
  | n :: r => .cons (.int n) (da_ints r)
section
variable {X : Cx} {G : Gx} {pos : Pos} {a b c e : Expr} {ma mb mk ms : Ev → R}
/-- sorted(d) -/
def mSortOD (i : Nat) : Ev → R := fun ρ => match ρ[i]? with
  | some (.od kvs) => if kvs.length < 64 then .ok (.list ((sortI (kvs.map (·.1))).map .int)) else .no
  | _ => .no
theorem x_sortOD (i : Nat) {x : Str} {p p2 : Pos} (hc : X.calm = true) (hm : X.mg "sorted" = none) (hN : X.N[i]? = some x := by rfl) (hv : Vis X.env.scope x := by first | exact Or.inl rfl | exact Or.inr (Or.inl rfl) | exact Or.inr (Or.inr rfl)) (hd : (x == ("__debug__" : Str)) = false := by decide)
    (hcd : (x == ("__classdict__" : Str)) = false := by decide) (hg : Gl X "sorted" := by rfl) (he : starEach [.Name x p2] X.env = (false, eval (.Name x p2) X.env) :: starEach [] X.env := by rfl) : XE X G (.Call (.Name "sorted" p) [.Name x p2] [] pos) (mSortOD i) :=
  ⟨fun ρ => (pe_callB (call_sortedDI hc) hg hm boot_sorted (pa_cons (pe_var hN hv hd hcd) pa_nil he) (by decide) (by decide) he).imp fun σ H Q ⟨H0, S0, S, env, h⟩ => by
  unfold mSortOD at h
  split at h
  · rename_i kvs er
    obtain ⟨l, es, e1, lS, hl, r⟩ := od_get env er
    by_cases q : kvs.length < 64
    · rw [if_pos q] at h
      refine ⟨.ref l, e1, l, es, kvs.map (·.1), rfl, .inl hl, by rw [r.1, List.map_map]; rfl, by rw [List.length_map]; exact q, fun ys p hp hs np => ?_⟩
      rw [sorted_uniq (hp.trans (sortI_perm _).symm) hs (sortI_sorted _)]
      exact post_new h np (new_lst env.sH np (da_ints _))
    · rw [if_neg q] at h
      exact h.elim
  · exact h.elim⟩
theorem EnvOk.not_own {xa : Option Hx} {K : PySem.W.Frag} {H0 H : Hp} {S0 S : List Addr} {σ : L2.St} {ρ : Ev} {p : Addr} (env : EnvOk K xa H0 S0 S H σ ρ) (np : H p = none) : ∀ i, ¬ OwnAt σ ρ i p := fun i o => by
  obtain ⟨_, u, hu, _⟩ := env.at_own o
  rw [np] at hu
  cases hu
/-- x = {k: v} -/
def mSetOD1 (i : Nat) (mk ma : Ev → R) : Ev → Out := fun ρ => (mk ρ).go ρ fun k => (ma ρ).go ρ fun v => match k with
  | .int z => .nx (ρ.set i (.od [(z, v)]))
  | _ => .no
theorem s_setOD1 (i : Nat) {x : Str} {p c0 : Pos} (hN : X.N.Nodup) (hk : XE X G b mk) (ha : XE X G a ma) (hi : X.N[i]? = some x := by rfl) (hx : Loc X.env.scope x := by first | exact Or.inl rfl | exact Or.inr rfl) (hs : swapsWith (.Dict [some b] [a] c0) (some (.Name x p)) pos.line X.env = pure false := by rfl)
    (hf : X.fn x = true ∨ X.env.scope.names.lookup x = some .local := by first | exact .inl rfl | exact .inr rfl | assumption) : XS X G (.Assign [.Name x p] (.Dict [some b] [a] c0) pos) (mSetOD1 i mk ma) := ⟨fun ρ => (ps_set hN hi hx (pe_disp (pps_cons (hk.pe ρ) (ha.pe ρ) pps_nil) rfl rfl (by simp) (by simp)) hs hf).imp fun Dn σ H ⟨H0, S0, S, env, h⟩ => by
  intro p np
  have envS := env.more np (Ex.new (o := .dK []) np) upd_same trivial
  have h' : SPost X.K X.mg G H0 S0 ((mk ρ).go ρ fun k => (ma ρ).go ρ fun v => match k with
    | .int z => .nx (ρ.set i (.od [(z, v)]))
    | _ => .no) Dn := h
  show tE X.K X.mg G ρ (mk ρ) σ _ _
  refine go_tE envS h' fun k H1 u _ x1 hu h1 => ?_
  have env1 := envS.mono x1
  show tE X.K X.mg G ρ (ma ρ) σ _ _
  refine go_tE env1 h1 fun v H2 w _ x2 hv h2 => ?_
  have env2 := env1.mono x2
  have hp : H2 p = some (.dK []) := x2.k p _ (x1.k p _ upd_same (fun ps z => nomatch z)) (fun ps z => nomatch z)
  have hu2 := dp_mono (hide_mono x2) hu
  cases hu with
  | int z =>
    refine ⟨hp, [(.inl z, w)], rfl, by simp, ?_⟩
    have no := env.not_own np
    have pS : p ∈ p :: S := List.mem_cons_self
    have env3 := env2.updHid (o := .dK (mergeK [] [(.inl z, w)])) pS (fresh_back env.ex0 np) hp trivial trivial no
    refine h2 _ (p :: S) _ (env3.setAny (s := .od [(z, v)]) ⟨p, _, rfl, pS, upd_same, rfl, ?_⟩ fun l _ e => ?_)
    · rw [hide_upd pS]
      exact .cons hv .nil
    · cases e
      exact ⟨fun m => env.s0H p m (fresh_back env.ex0 np), fun j _ => no j⟩
  | _ => exact h2.elim⟩
end
end FL
/-! f(e, x): an own list lent to a def that reads it and returns nothing of it -/
namespace FL
open PySem PySem.Spec PyProof.Rows L2
variable [TabNames]
def flat0 : D → Bool
  | .none => true
  | .bool _ => true
  | .int _ => true
  | .str _ => true
  | _ => false
def flat1 : D → Bool
  | .tuple ds => ds.all flat0
  | d => flat0 d
theorem dp_flat0 {K : PySem.W.Frag} {A B : Hp} {v : V} {d : D} (h : Dp K A v d) (f : flat0 d = true) : Dp K B v d := by
  cases h with
  | non => exact .non
  | bl b => exact .bl b
  | int i => exact .int i
  | str s => exact .str s
  | _ => cases f
theorem da_flat0 {K : PySem.W.Frag} {A B : Hp} : ∀ {vs : List V} {ds : List D}, DpAll K A vs ds → ds.all flat0 = true → DpAll K B vs ds
  | _, _, .nil, _ => .nil
  | _, _, .cons h t, f => by
    rw [List.all_cons, Bool.and_eq_true] at f
    exact .cons (dp_flat0 h f.1) (da_flat0 t f.2)
theorem dp_flat1 {K : PySem.W.Frag} {A B : Hp} {v : V} {d : D} (h : Dp K A v d) (f : flat1 d = true) (x : ∀ a o, A a = some o → (∀ vs, o ≠ .lst vs) → B a = some o) : Dp K B v d := by
  cases h with
  | tup h k =>
    refine .tup ?_ (da_flat0 k f)
    rcases h with (h | ⟨o, h⟩) | h
    · exact .inl (.inl (x _ _ h fun vs z => nomatch z))
    · exact .inl (.inr ⟨o, x _ _ h fun vs z => nomatch z⟩)
    · exact .inr h
  | non => exact .non
  | bl b => exact .bl b
  | int i => exact .int i
  | str s => exact .str s
  | _ => cases f
def flatR (d : D) : R := if flat1 d = true then .ok d else .no
section
variable {X : Cx} {G : Gx} {pos : Pos} {a b c e : Expr} {ma mb mk ms : Ev → R}
/-- f(e, x), x a list of the frame's own -/
def mCallO (f : List D → R) (i : Nat) (ma : Ev → R) : Ev → R := fun ρ => match ρ[i]? with
  | some (.ol xs) => (ma ρ).bind fun d => (f [d, .list xs]).bind flatR
  | _ => .no
theorem x_callO (i : Nat) {k j : Nat} {x y : Str} {p p2 : Pos} {f : List D → R} (F : Fn X.prog X.w X.K X.mg X.base k x 2 f) (hr : Room j X.A) (tk : Takes X G.W) (ha : XE X G e ma) (hN : X.N[i]? = some y := by rfl) (hv : Vis X.env.scope y := by first | exact Or.inl rfl | exact Or.inr (Or.inl rfl) | exact Or.inr (Or.inr rfl)) (hd : (y == ("__debug__" : Str)) = false := by decide)
    (hcd : (y == ("__classdict__" : Str)) = false := by decide) (hk : k ≤ j := by first | decide | omega) (hg : Gl X x := by rfl)
    (hdb : (x == ("__debug__" : Str)) = false := by decide) (he : starEach [e, .Name y p2] X.env = (false, eval e X.env) :: starEach [.Name y p2] X.env := by rfl) (he2 : starEach [.Name y p2] X.env = (false, eval (.Name y p2) X.env) :: starEach [] X.env := by rfl) (hpl : (backTo pos (starEach [.Name y p2] X.env)).any (·.1) = false := by rfl) :
    XE X G (.Call (.Name x p) [e, .Name y p2] [] pos) (mCallO f i ma) := by
  obtain ⟨fa, fd, ps, h1, h2, h3, h4, h5⟩ := F.ex
  refine ⟨fun ρ => (pe_callS (E := WE G.W) h3 (hr.mono hk) hg h2 h4 h5 (fun σ => passAt tk σ) (pa_cons (ha.pe ρ) (pa_cons (pe_var hN hv hd hcd) pa_nil he2) he) hdb he hpl).imp fun σ H Q ⟨H0, S0, S, env, h⟩ => ?_⟩
  unfold mCallO at h
  split at h
  · rename_i xs er
    refine tE_bind env h fun d H1 v _ x1 hv1 h' => ?_
    have env1 := env.mono x1
    obtain ⟨l, vs, e1, lS, hl, hk1⟩ := own_get env1 er
    refine ⟨.ref l, e1, ?_⟩
    have sub : ∀ p ∈ S.filter (fun p => p ≠ l), p ∈ S := fun p hp => (List.mem_filter.mp hp).1
    have nl : l ∉ S.filter (fun p => p ≠ l) := fun hp => by simpa using (List.mem_filter.mp hp).2
    refine spF_of (K := X.K) (mg := X.mg) (G := G) (σ := σ) F.ln env1.tb (S := S.filter (fun p => p ≠ l)) (fun p hp => env1.sH p (sub p hp)) (ds := [d, .list xs]) (.cons (dp_mono (hide_less sub) hv1) (.cons (.lst (.inl (.inl (by rw [hide_out nl]; exact hl))) (da_mono (hide_less sub) hk1)) .nil)) ?_
    generalize f [d, .list xs] = r at h'
    cases r with
    | ok z =>
      have h2 : RPost X.K X.mg G S H1 σ (flatR z) Q := h'
      unfold flatR at h2
      by_cases fl : flat1 z = true
      · rw [if_pos fl] at h2
        intro H' v' x2 hv2
        refine h2 H' v' x2 (dp_flat1 hv2 fl fun q o hq no => ?_)
        by_cases qS : q ∈ S
        · by_cases ql : q = l
          · rw [ql, hide_out nl, x2.lst hl] at hq
            cases hq
            exact absurd rfl (no vs)
          · rw [hide_in (List.mem_filter.mpr ⟨qS, by simpa using ql⟩)] at hq
            cases hq
        · rw [hide_out fun z => qS (sub q z)] at hq
          rw [hide_out qS]
          exact hq
      · rw [if_neg fl] at h2
        exact h2.elim
    | ex c => exact h'
    | no => exact h'.elim
  · exact h.elim
end
end FL
/-! f(e, x): an own dict lent to a def that reads it -/
namespace FL
open PySem PySem.Spec PyProof.Rows L2
variable [TabNames]
def startB (N : Nat) (d : D) (kvs : List (Int × D)) : Ev := .d d :: .bd kvs :: List.replicate (N - 2) .un
def bodyB (N : Nat) (m : Ev → Out) (d : D) (kvs : List (Int × D)) : R := bodyR (m (startB N d kvs))
def SpB (K : PySem.W.Frag) (f : D → List (Int × D) → R) : Sp := fun vs H Q E => Tbs H ∧ ∃ S v l ob es d kvs z, vs = [v, .ref l] ∧ (∀ a ∈ S, H a ≠ none) ∧ Dp K (hide S H) v d ∧ H l = some (.frz ob (.dK es)) ∧ OdR K (hide S H) es kvs ∧ f d kvs = .ok z ∧ Post K S H z Q
structure FnB (P : Program) (w : World) (K : PySem.W.Frag) (mg : Str → Option Value) (base : Heap) (k : Nat) (x : Str) (f : D → List (Int × D) → R) : Prop where
  ex : ∃ (fa : Addr) (fd : FuncData) (ps : List Str), ps.length = 2 ∧ mg x = some (.ref fa) ∧ FnOk P w K mg base (L2.CX P w) k fa fd ps (SpB K f) ∧ PySem.W.keepIn K (.ref fa) = true ∧ Binds K fd ps []
theorem env_startB {K : PySem.W.Frag} {N : List Str} {v : V} {l : Addr} {ob : Obj} {es : List (Key × V)} {d : D} {kvs : List (Int × D)} {H : Hp} {S : List Addr} (hN : 2 ≤ N.length) (tb : Tbs H) (sH : ∀ l ∈ S, H l ≠ none) (k : Dp K (hide S H) v d) (hl : H l = some (.frz ob (.dK es))) (r : OdR K (hide S H) es kvs) : EnvOk K none H S S H (L2.start N [v, .ref l]) (startB N.length d kvs) := by
  have noO : ∀ (i : Nat) xs, (startB N.length d kvs)[i]? = some xs → xs.ow ≠ true := fun i xs z w => by
    unfold startB at z
    match i, z with
    | 0, z => cases z; cases w
    | 1, z => cases z; cases w
    | i + 2, z =>
      rw [List.getElem?_cons_succ, List.getElem?_cons_succ, List.getElem?_replicate] at z
      split at z <;> cases z
      cases w
  refine ⟨by unfold L2.start startB; simp, fun i x e => ?_, fun i j l h1 _ => ?_, Ex.refl H, fun l h => h, sH, sH, fun l h => .inl h, fun i l h1 => ?_, fun l m n => absurd m n, tb⟩
  · unfold startB at e
    match i, e with
    | 0, e => cases e; exact ⟨v, rfl, k⟩
    | 1, e => cases e; exact ⟨l, ob, es, rfl, hl, r.1, r.2⟩
    | i + 2, e =>
      rw [List.getElem?_cons_succ, List.getElem?_cons_succ, List.getElem?_replicate] at e
      split at e
      · cases e; trivial
      · cases e
  · obtain ⟨_, xs, e, w⟩ := h1
    exact absurd w (noO i xs e)
  · obtain ⟨_, xs, e, w⟩ := h1
    exact absurd w (noO i xs e)
section
variable {X : Cx} {K : PySem.W.Frag} {mg : Str → Option Value} {G : Gx} {pos : Pos} {a b c e : Expr} {ma mb mk ms : Ev → R} {m : Ev → Out}
theorem fnB_mk {P : Program} {w : World} {base : Heap} {k : Nat} {x : Str} {st : Stmt} {ps N : List Str} {fa : Addr} {fd : FuncData} (nN : Nat) (dA : DefAt K mg x st ps fa fd) (S : FnScope N ps (defScope st)) (eN : N.length = nN) (eP : ps.length = 2) (hN : 2 ≤ nN)
    (hb : ∀ (cdv : Value) (A : Around) (outer : List Env) (s : Shared) (H : Hp) (E : XK), Room k (A.deeper (envOfC x (defScope st) s.heap.objs.size fa cdv)) →
      Takes (cxOf (L2.CX P w) P w K mg base N x (defScope st) fa cdv A outer s H E) (fun cls d _ H => E cls d H) →
      PassesOwn (model P w) (A.deeper (envOfC x (defScope st) s.heap.objs.size fa cdv)) (envOfC x (defScope st) s.heap.objs.size fa cdv) (cxOf (L2.CX P w) P w K mg base N x (defScope st) fa cdv A outer s H E).xe →
      XSs (cxOf (L2.CX P w) P w K mg base N x (defScope st) fa cdv A outer s H E) { W := fun cls d _ H => E cls d H } (defBody st) m) : FnB P w K mg base (k + 1) x (bodyB nN m) := by
  subst eN
  refine ⟨fa, fd, ps, eP, dA.g, ?_, dA.F.kp, dA.b⟩
  refine dA.F.ok S (fun vs H Q E ⟨_, _, _, _, _, _, _, _, _, h, _⟩ => by rw [h, eP]; rfl) fun cdv A outer s H vs Q E hr ⟨tb, Sv, v, l, ob, es, d, kvs, z, ev, sH, kd, hl, r, hz, hq⟩ => ?_
  subst ev
  have D := hb cdv A outer s H E hr (takes_of rfl rfl rfl rfl) (passes_of rfl)
  refine ⟨_, D.ps (startB N.length d kvs), H, Sv, Sv, env_startB hN tb sH kd hl r, ?_⟩
  have hz2 : bodyR (m (startB N.length d kvs)) = .ok z := hz
  show SPost K mg _ H Sv (m (startB N.length d kvs)) _
  generalize m (startB N.length d kvs) = o at hz2
  cases o with
  | nx ρ =>
    cases hz2
    exact fun σ S' H' env => hq H' .non env.ex0 .non
  | ret d =>
    cases hz2
    exact fun H' v x k _ => hq H' v x k
  | ex c ρ => cases hz2
  | bk ρ => cases hz2
  | ct ρ => cases hz2
  | no => cases hz2
/-- a dict is locked while an expression runs -/
theorem pe_lock {t : TE} (h : PE X e t) : PE X e (fun σ H Q => ∃ l es, H l = some (.dK es) ∧ ∀ ob, t σ (upd H l (.frz ob (.dK es))) (fun v H' => H' l = some (.frz ob (.dK es)) ∧ Q v (upd H' l (.dK es)))) := ⟨fun pins s σ H Q I ⟨l, es, hl, k⟩ => by
  have hn := I.nofrz hl True.intro
  obtain ⟨ob, I2⟩ := I.lock hl True.intro
  exact thn (h.run pins s σ _ _ I2 (k ob)) fun u s1 ⟨v, H', I3, rv, q1, q2⟩ => ⟨v, _, I3.unlock q1 hn, rv, q2⟩⟩
theorem tab_upd {H : Hp} {p P : Addr} {n : Str} {o u : HO} (hp : H p = some o) (h1 : ∀ ps, o ≠ .tbl ps) (h2 : ∀ c q, o ≠ LamX.CodeO c q) (t : LamX.TabS H P n) : LamX.TabS (upd H p u) P n := by
  obtain ⟨ps, a1, a2, a3⟩ := t
  refine ⟨ps, by rw [upd_ne fun z => h1 ps (Option.some.inj ((by rw [z] at a1; exact hp.symm.trans a1)))]; exact a1, a2, fun pos cv hc => ?_⟩
  obtain ⟨c, c1, c2⟩ := a3 pos cv hc
  refine ⟨c, c1, ?_⟩
  rw [upd_ne fun z => by rw [z, hp] at c2; exact h2 _ _ (Option.some.inj c2)]
  exact c2
theorem frz_code {ob : Obj} {u : HO} {c : Addr} {q : Str} : (HO.frz ob u) ≠ LamX.CodeO c q := fun z => by
  unfold LamX.CodeO at z
  cases z
/-- the frame while its dict is locked -/
theorem EnvOk.lock {xa : Option Hx} {H0 H : Hp} {S0 S : List Addr} {σ : L2.St} {ρ : Ev} {i : Nat} {l : Addr} {es : List (Key × V)} {kvs : List (Int × D)} {ob : Obj} (env : EnvOk K xa H0 S0 S H σ ρ) (er : ρ[i]? = some (.od kvs)) (e1 : σ[i]? = some (some (.ref l))) (hl : H l = some (.dK es)) :
    EnvOk K xa H0 S0 (S.filter (fun p => p ≠ l)) (upd H l (.frz ob (.dK es))) σ (ρ.set i .un) := by
  have oi : OwnAt σ ρ i l := ⟨e1, _, er, rfl⟩
  have lS := (env.at_own oi).1
  have sub : ∀ p ∈ S.filter (fun p => p ≠ l), p ∈ S := fun p hp => (List.mem_filter.mp hp).1
  have ne_l : ∀ p ∈ S.filter (fun p => p ≠ l), p ≠ l := fun p hp => by simpa using (List.mem_filter.mp hp).2
  have hk : Ek (hide S H) (hide (S.filter (fun p => p ≠ l)) (upd H l (.frz ob (.dK es)))) := fun a o e n => by
    by_cases h : a ∈ S
    · rw [hide_in h] at e; cases e
    · rw [hide_out h] at e
      have nl : a ≠ l := fun z => h (z ▸ lS)
      rw [hide_out fun z => h (sub a z), upd_ne nl]
      exact e
  have back : ∀ j p, OwnAt σ (ρ.set i .un) j p → OwnAt σ ρ j p ∧ j ≠ i := fun j p ⟨h1, ys, h2, h3⟩ => by
    rcases set_at h2 with ⟨_, e⟩ | ⟨ne, e⟩
    · rw [e] at h3; cases h3
    · exact ⟨⟨h1, ys, e, h3⟩, ne⟩
  refine ⟨by rw [List.length_set]; exact env.len, fun j s e => ?_, fun j j' p h1 h2 => env.sep j j' p (back j p h1).1 (back j' p h2).1, env.ex0.mut ((env.fr l lS).resolve_left (env.own i l oi)) hl trivial, fun p hp => List.mem_filter.mpr ⟨env.s0 p hp, ?_⟩, fun p hp => by rw [upd_ne (ne_l p hp)]; exact env.sH p (sub p hp), env.s0H, fun p hp => env.fr p (sub p hp), fun j p h => env.own j p (back j p h).1, fun p hp n => by rw [upd_ne (ne_l p hp)]; exact env.sN p (sub p hp) n, env.tb.upd hl trivial⟩
  · rcases set_at e with ⟨_, rfl⟩ | ⟨ne, e⟩
    · trivial
    · have h := env.sl j s e
      have nl : ∀ l', σ[j]? = some (some (.ref l')) → s.ow = true → l' ≠ l := fun l' q w z => ne (env.sep j i l ⟨by rw [q, z], s, e, w⟩ oi)
      cases s with
      | un => trivial
      | d z => obtain ⟨v, h1, h2⟩ := h; exact ⟨v, h1, dp_mono hk h2⟩
      | ol ys => obtain ⟨p, ws, h1, h2, h3, h4⟩ := h; exact ⟨p, ws, h1, List.mem_filter.mpr ⟨h2, by simpa using nl p h1 rfl⟩, by rw [upd_ne (nl p h1 rfl)]; exact h3, da_mono hk h4⟩
      | od ys => obtain ⟨p, ws, h1, h2, h3, h5, h4⟩ := h; exact ⟨p, ws, h1, List.mem_filter.mpr ⟨h2, by simpa using nl p h1 rfl⟩, by rw [upd_ne (nl p h1 rfl)]; exact h3, h5, da_mono hk h4⟩
      | ot ys => obtain ⟨p, ws, h1, h2, h3, hs, hq, h4⟩ := h; exact ⟨p, ws, h1, List.mem_filter.mpr ⟨h2, by simpa using nl p h1 rfl⟩, by rw [upd_ne (nl p h1 rfl)]; exact h3, hs, fun y hy => ex_t hk (hq y hy), h4⟩
      | bd ys => obtain ⟨p, ob2, ws, h1, h2, h5, h4⟩ := h; exact ⟨p, ob2, ws, h1, by rw [upd_ne fun z => by rw [z, hl] at h2; cases h2]; exact h2, h5, da_mono hk h4⟩
      | xc c => exact h
      | fn => obtain ⟨p, F, h1, h2, h3, h4⟩ := h; exact ⟨p, F, h1, h2, by rw [upd_ne fun z => by rw [z, hl] at h3; unfold LamO at h3; cases h3]; exact h3, by rw [upd_ne fun z => by rw [z, hl] at h4; unfold LamX.CodeO at h4; cases h4]; exact h4⟩
  · have : p ≠ l := fun z => env.own i l oi (z ▸ hp)
    simpa using this
/-- f(e, x), x a dict of the frame's own -/
def mCallD (f : D → List (Int × D) → R) (i : Nat) (ma : Ev → R) : Ev → R := fun ρ => match ρ[i]? with
  | some (.od kvs) => match ma (ρ.set i .un) with
    | .ok d => match f d kvs with
      | .ok z => flatR z
      | _ => .no
    | _ => .no
  | _ => .no
theorem dp_flat2 {A B : Hp} {v : V} {d : D} (h : Dp K A v d) (f : flat1 d = true) (x1 : ∀ a xs, A a = some (.tup xs) → B a = some (.tup xs)) (x2 : ∀ a o xs, A a = some (.frz o (.tup xs)) → B a = some (.frz o (.tup xs))) : Dp K B v d := by
  cases h with
  | tup h k =>
    refine .tup ?_ (da_flat0 k f)
    rcases h with (h | ⟨o, h⟩) | h
    · exact .inl (.inl (x1 _ _ h))
    · exact .inl (.inr ⟨o, x2 _ _ _ h⟩)
    · exact .inr h
  | non => exact .non
  | bl b => exact .bl b
  | int i => exact .int i
  | str s => exact .str s
  | _ => cases f
theorem dk_code {es : List (Key × V)} {c : Addr} {q : Str} : (HO.dK es) ≠ LamX.CodeO c q := fun z => by
  unfold LamX.CodeO at z
  cases z
theorem x_callD (i : Nat) {k j : Nat} {x y : Str} {p p2 : Pos} {f : D → List (Int × D) → R} (F : FnB X.prog X.w X.K X.mg X.base k x f) (hr : Room j X.A) (tk : Takes X G.W) (ha : XE X G e ma) (hN : X.N[i]? = some y := by rfl) (hv : Vis X.env.scope y := by first | exact Or.inl rfl | exact Or.inr (Or.inl rfl) | exact Or.inr (Or.inr rfl)) (hd : (y == ("__debug__" : Str)) = false := by decide)
    (hcd : (y == ("__classdict__" : Str)) = false := by decide) (hk : k ≤ j := by first | decide | omega) (hg : Gl X x := by rfl)
    (hdb : (x == ("__debug__" : Str)) = false := by decide) (he : starEach [e, .Name y p2] X.env = (false, eval e X.env) :: starEach [.Name y p2] X.env := by rfl) (he2 : starEach [.Name y p2] X.env = (false, eval (.Name y p2) X.env) :: starEach [] X.env := by rfl) (hpl : (backTo pos (starEach [.Name y p2] X.env)).any (·.1) = false := by rfl) :
    XE X G (.Call (.Name x p) [e, .Name y p2] [] pos) (mCallD f i ma) := by
  obtain ⟨fa, fd, ps, h1, h2, h3, h4, h5⟩ := F.ex
  refine ⟨fun ρ => (pe_lock (pe_callS (E := WE G.W) h3 (hr.mono hk) hg h2 h4 h5 (fun σ => passAt tk σ) (pa_cons (ha.pe (ρ.set i .un)) (pa_cons (pe_var hN hv hd hcd) pa_nil he2) he) hdb he hpl)).imp fun σ H Q ⟨H0, S0, S, env, h⟩ => ?_⟩
  unfold mCallD at h
  split at h
  · rename_i kvs er
    obtain ⟨l, es, e1, lS, hl, r⟩ := od_get env er
    refine ⟨l, es, hl, fun ob => ?_⟩
    have envL := env.lock (ob := ob) er e1 hl
    have sub : ∀ p ∈ S.filter (fun p => p ≠ l), p ∈ S := fun p hp => (List.mem_filter.mp hp).1
    have nl : l ∉ S.filter (fun p => p ≠ l) := fun hp => by simpa using (List.mem_filter.mp hp).2
    have hk1 : Ek (hide S H) (hide (S.filter (fun p => p ≠ l)) (upd H l (.frz ob (.dK es)))) := fun a o e n => by
      by_cases h : a ∈ S
      · rw [hide_in h] at e; cases e
      · rw [hide_out h] at e
        have nl : a ≠ l := fun z => h (z ▸ lS)
        rw [hide_out fun z => h (sub a z), upd_ne nl]
        exact e
    cases em : ma (ρ.set i .un) with
    | ok d =>
      rw [em] at h
      cases ez : f d kvs with
      | ok z =>
        simp only [ez] at h
        unfold flatR at h
        by_cases fl : flat1 z = true
        · rw [if_pos fl] at h
          refine ⟨H0, S0, _, envL, ?_⟩
          intro H1 v x1 hv1
          refine ⟨.ref l, e1, ?_⟩
          have hl1 : H1 l = some (.frz ob (.dK es)) := x1.k l _ upd_same (fun ps z => nomatch z)
          refine ⟨(envL.mono x1).tb, _, v, l, ob, es, d, kvs, z, rfl, (envL.mono x1).sH, hv1, hl1, r.mono (hk1.trans (hide_mono x1)), ez, fun H' v' x2 hv2 => ?_⟩
          have hl2 : H' l = some (.frz ob (.dK es)) := x2.k l _ hl1 (fun ps z => nomatch z)
          refine ⟨hl2, h _ v' ⟨fun a o ho n => ?_, fun a ho => ?_, fun P t => ?_⟩ (dp_flat2 hv2 fl (fun a xs ha => ?_) fun a o xs ha => ?_)⟩
          · by_cases z : a = l
            · rw [z, upd_same]
              rw [z, hl] at ho
              exact ho
            · rw [upd_ne z]
              exact x2.k a o (x1.k a o (by rw [upd_ne z]; exact ho) n) n
          · by_cases z : a = l
            · rw [z, upd_same]; simp
            · rw [upd_ne z]
              exact x2.n a (x1.n a (by rw [upd_ne z]; exact ho))
          · exact tab_upd hl2 (fun ps z => nomatch z) (fun c q => frz_code) (x2.t P (x1.t P (tab_upd hl (fun ps z => nomatch z) (fun c q => dk_code) t)))
          · by_cases q : a ∈ S.filter (fun p => p ≠ l)
            · rw [hide_in q] at ha; cases ha
            · rw [hide_out q] at ha
              have z : a ≠ l := fun z => by rw [z, hl2] at ha; cases ha
              have q2 : a ∉ S := fun m => q (List.mem_filter.mpr ⟨m, by simpa using z⟩)
              rw [hide_out q2, upd_ne z]
              exact ha
          · by_cases q : a ∈ S.filter (fun p => p ≠ l)
            · rw [hide_in q] at ha; cases ha
            · rw [hide_out q] at ha
              have z : a ≠ l := fun z => by rw [z, hl2] at ha; cases ha
              have q2 : a ∉ S := fun m => q (List.mem_filter.mpr ⟨m, by simpa using z⟩)
              rw [hide_out q2, upd_ne z]
              exact ha
        · rw [if_neg fl] at h
          exact h.elim
      | ex c => simp only [ez] at h; exact h.elim
      | no => simp only [ez] at h; exact h.elim
    | ex c => rw [em] at h; exact h.elim
    | no => rw [em] at h; exact h.elim
  · exact h.elim
end
end FL
/-! a lent dict or list is read: x[e] -/
namespace FL
open PySem PySem.Spec PyProof.Rows L2
variable [TabNames]
section
variable {X : Cx} {K : PySem.W.Frag} {mg : Str → Option Value} {G : Gx} {pos : Pos} {a b c e : Expr} {ma mb mk ms : Ev → R} {m : Ev → Out}
theorem _root_.L2.PE.or {t t' : TE} (h : PE X e t) (h' : PE X e t') : PE X e (fun σ H Q => t σ H Q ∨ t' σ H Q) := ⟨fun pins s σ H Q I hw => by
  rcases hw with hw | hw
  · exact h.run pins s σ H Q I hw
  · exact h'.run pins s σ H Q I hw⟩
/-- x[e], x a lent dict -/
def mIxBD (i : Nat) (mk : Ev → R) : Ev → R := fun ρ => match ρ[i]? with
  | some (.bd kvs) => (mk ρ).bind fun d => match d with
    | .int k => R.of (getO kvs k)
    | _ => .no
  | _ => .no
theorem x_ixBD (i : Nat) {x : Str} {p : Pos} (hu : X.A.units + 1 < cLine) (hk : XE X G b mk) (hN : X.N[i]? = some x := by rfl) (hv : Vis X.env.scope x := by first | exact Or.inl rfl | exact Or.inr (Or.inl rfl) | exact Or.inr (Or.inr rfl)) (hd : (x == ("__debug__" : Str)) = false := by decide)
    (hcd : (x == ("__classdict__" : Str)) = false := by decide) (hs : NoSl b := by intro _ _; rfl) : XE X G (.Subscript (.Name x p) b pos) (mIxBD i mk) := ⟨fun ρ => (pe_dget hu (pe_var hN hv hd hcd) (hk.pe ρ) hs).imp fun σ H Q ⟨H0, S0, S, env, h⟩ => by
  unfold mIxBD at h
  split at h
  · rename_i kvs er
    obtain ⟨l0, ob, es, e0, hl0, r1, r2⟩ := env.sl i _ er
    refine ⟨.ref l0, e0, tE_bind env h fun d H' v _ xx hv h' => ?_⟩
    have hl : H' l0 = some (.frz ob (.dK es)) := xx.k l0 _ hl0 (fun ps z => nomatch z)
    have r : OdR X.K (hide S H') es kvs := OdR.mono ⟨r1, r2⟩ (hide_mono xx)
    cases hv with
    | int k =>
      rcases r.get k with ⟨_, a⟩ | ⟨v, d, ev, ed, hd⟩
      · have h2 : RPost X.K X.mg G S H' σ (R.of (getO kvs k)) Q := h'
        rw [a] at h2
        exact h2.elim
      · have h2 : RPost X.K X.mg G S H' σ (R.of (getO kvs k)) Q := h'
        rw [ed] at h2
        exact ⟨l0, v, rfl, .inl ⟨es, .inl k, .inr ⟨ob, hl⟩, rfl, ev.symm⟩, post_val h2 hd⟩
    | _ => exact h'.elim
  · exact h.elim⟩
/-- x[e], x a lent dict or else what m tells -/
def mIxAny (i : Nat) (mk m : Ev → R) : Ev → R := fun ρ => match ρ[i]? with
  | some (.bd _) => mIxBD i mk ρ
  | _ => m ρ
theorem x_ixAny (i : Nat) {me : Ev → R} (h1 : XE X G e (mIxBD i mk)) (h2 : XE X G e me) : XE X G e (mIxAny i mk me) := ⟨fun ρ => by
  unfold mIxAny
  split
  · exact h1.pe ρ
  · exact h2.pe ρ⟩
end
end FL
/-! x = {k: v for ..} -/
namespace FL
open PySem PySem.Spec PyProof.Rows L2
variable [TabNames]
def dcD (bt : D → Option Ev) (mt mk me : Ev → R) : List D → List (Int × D) → Option (List (Int × D))
  | [], acc => some acc
  | d :: ds, acc => match bt d with
    | some ρ1 => match mt ρ1, mk ρ1, me ρ1 with
      | .ok (.bool true), .ok (.int k), .ok v => if acc.length < sizeLine then dcD bt mt mk me ds (putO acc k v) else none
      | _, _, _ => none
    | none => none
theorem dcD_cons {bt : D → Option Ev} {mt mk me : Ev → R} {d : D} {ds : List D} {acc kvs : List (Int × D)} (h : dcD bt mt mk me (d :: ds) acc = some kvs) : ∃ ρ1 k v, bt d = some ρ1 ∧ mt ρ1 = .ok (.bool true) ∧ mk ρ1 = .ok (.int k) ∧ me ρ1 = .ok v ∧ acc.length < sizeLine ∧ dcD bt mt mk me ds (putO acc k v) = some kvs := by
  unfold dcD at h
  cases eb : bt d with
  | none => rw [eb] at h; cases h
  | some ρ1 =>
    rw [eb] at h
    dsimp only at h
    split at h
    · rename_i k v e1 e2 e3
      by_cases q : acc.length < sizeLine
      · rw [if_pos q] at h
        exact ⟨ρ1, k, v, rfl, e1, e2, e3, q, h⟩
      · rw [if_neg q] at h
        cases h
    · cases h
def mSetDC (i : Nat) (mi : Ev → R) (bt : Ev → D → Option Ev) (mt mk me : Ev → R) (vs : List Nat) : Ev → Out := fun ρ => (mi ρ).go ρ fun x => match x with
  | .list ds => if ds.length ≤ sizeLine then (match dcD (bt (wipeE ρ vs)) mt mk me ds [] with
    | some kvs => .nx (ρ.set i (.od kvs))
    | none => .no) else .no
  | _ => .no
section
variable {X : Cx} {K : PySem.W.Frag} {mg : Str → Option Value} {G : Gx} {pos : Pos} {tg : Expr}
theorem s_setDC (i : Nat) {x : Str} {p c0 : Pos} {kx vx iter : Expr} {ifs : List Expr} {scope : Scope} {own : List (Str × Nat)} {js : List Nat} {mi mt mk me : Ev → R} {bt : Ev → D → Option Ev} (hN : X.N.Nodup) (hi : XI X G tg iter mi) (ok : BlkOk X.N X.env.scope scope own)
    (hg : ∀ (s : Shared) (H : Hp) (C : Addr) (cl : List (Str × Addr)) (fp : List Addr), XG (X.blk s H scope (compEnvC scope cl C X.env) fp) G.xa tg js bt)
    (ht : ∀ (s : Shared) (H : Hp) (C : Addr) (cl : List (Str × Addr)) (fp : List Addr), XTs (X.blk s H scope (compEnvC scope cl C X.env) fp) G.blk ifs mt)
    (hk : ∀ (s : Shared) (H : Hp) (C : Addr) (cl : List (Str × Addr)) (fp : List Addr), XE (X.blk s H scope (compEnvC scope cl C X.env) fp) G.blk kx mk)
    (he : ∀ (s : Shared) (H : Hp) (C : Addr) (cl : List (Str × Addr)) (fp : List Addr), XE (X.blk s H scope (compEnvC scope cl C X.env) fp) G.blk vx me)
    (hI : X.N[i]? = some x := by rfl) (hx : Loc X.env.scope x := by first | exact Or.inl rfl | exact Or.inr rfl) (hs : swapsWith (.DictComp kx vx [⟨tg, iter, ifs, 0⟩] scope c0) (some (.Name x p)) pos.line X.env = pure false := by rfl)
    (hf : X.fn x = true ∨ X.env.scope.names.lookup x = some .local := by first | exact .inl rfl | exact .inr rfl | assumption)
    (hj : ∀ j ∈ js, j ∈ own.map (·.2) := by decide) (hc : X.calm = true := by rfl) (hfs : ∀ x, foldedSetIterable iter X.env x = pure x := by intro _; rfl) :
    XS X G (.Assign [.Name x p] (.DictComp kx vx [⟨tg, iter, ifs, 0⟩] scope c0) pos) (mSetDC i mi bt mt mk me (own.map (·.2))) :=
  ⟨fun ρ => (ps_set hN hI hx (pe_dc hc hN (hi.pi ρ) ok (g := fun v σ H Q => ∃ ρ, tG X.K G.xa js ρ (bt ρ) v σ H Q) (tt := fun σ H Q => ∃ ρ, tT X.K X.mg G.blk ρ (mt ρ) σ H Q) (tk := fun σ H Q => ∃ ρ, tE X.K X.mg G.blk ρ (mk ρ) σ H Q) (tv := fun σ H Q => ∃ ρ, tE X.K X.mg G.blk ρ (me ρ) σ H Q) (fun s H C cl fp => ⟨fun pins s' σ H' v u Q I r ⟨ρ, hw⟩ => ((hg s H C cl fp).pg ρ).run pins s' σ H' v u Q I r hw⟩)
    (fun s H C cl fp => ⟨fun pins s' σ H' Q I ⟨ρ, hw⟩ => ((ht s H C cl fp).pt ρ).run pins s' σ H' Q I hw⟩) (fun s H C cl fp => ⟨fun pins s' σ H' Q I ⟨ρ, hw⟩ => ((hk s H C cl fp).pe ρ).run pins s' σ H' Q I hw⟩) (fun s H C cl fp => ⟨fun pins s' σ H' Q I ⟨ρ, hw⟩ => ((he s H C cl fp).pe ρ).run pins s' σ H' Q I hw⟩) hfs) hs hf).imp fun Dn σ H ⟨H0, S0, S, env, h⟩ => by
  generalize hvs : own.map (·.2) = vs at *
  refine ⟨H0, S0, S, env, ?_⟩
  unfold mSetDC at h
  generalize mi ρ = r at h
  cases r with
  | ok x =>
    cases x with
    | list ds =>
      intro H1 J x1 wd D nD
      have h1 : SPost X.K X.mg G H0 S0 (if ds.length ≤ sizeLine then (match dcD (bt (wipeE ρ vs)) mt mk me ds [] with
        | some kvs => .nx (ρ.set i (.od kvs))
        | none => .no) else .no) Dn := h
      by_cases hz : ds.length ≤ sizeLine
      · rw [if_pos hz] at h1
        cases ec : dcD (bt (wipeE ρ vs)) mt mk me ds [] with
        | none => rw [ec] at h1; exact h1.elim
        | some kvs =>
          rw [ec] at h1
          have env1 := env.mono x1
          have n0 : H0 D = none := fresh_back env1.ex0 nD
          have noD : ∀ i, ¬ OwnAt (L2.wipe σ vs) (wipeE ρ vs) i D := (env1.wipe vs).not_own nD
          have envS := ((env1.wipe vs).more (p := D) nD (Ex.new (o := .dK []) nD) upd_same trivial)
          refine ⟨fun i k H2 => k = ds.length - i ∧ i ≤ ds.length ∧ ∃ es acc, EnvOk X.K G.xa H0 S0 (D :: S) H2 (L2.wipe σ vs) (wipeE ρ vs) ∧ H2 D = some (.dK es) ∧ OdR X.K (hide (D :: S) H2) es acc ∧
            dcD (bt (wipeE ρ vs)) mt mk me (ds.drop i) acc = some kvs ∧ Ex H1 H2, ⟨ds.length, rfl, Nat.zero_le _, [], [], envS, upd_same, .nil, ec, Ex.new nD⟩, ?_⟩
          rintro n k H2 ⟨rfl, hn, es, acc, env2, hD, ka, er, kp⟩
          have sn : Ek (hide S H1) (hide (D :: S) H2) := hide_fresh nD kp
          by_cases hlt : n < ds.length
          · refine .inr ⟨wd.goes n H2 hlt (sn.trans hide_sub), fun H3 => ∃ es acc, EnvOk X.K G.xa H0 S0 (D :: S) H3 (L2.wipe σ vs) (wipeE ρ vs) ∧ H3 D = some (.dK es) ∧ OdR X.K (hide (D :: S) H3) es acc ∧
              dcD (bt (wipeE ρ vs)) mt mk me (ds.drop (n + 1)) acc = some kvs ∧ Ex H1 H3, fun H3 z => ⟨ds.length - (n + 1), by omega, rfl, hlt, z⟩, fun v H3 hy => ?_⟩
            obtain ⟨x3, d, hd, kd⟩ := wd.yields n H2 v H3 hlt (sn.trans hide_sub) hy
            have ed : ds.drop n = d :: ds.drop (n + 1) := by
              rw [List.drop_eq_getElem_cons hlt]
              congr 1
              rw [List.getElem?_eq_getElem hlt] at hd
              exact Option.some.inj hd
            rw [ed] at er
            obtain ⟨ρ1, kk, vv, eb, et, ek, ev, hl, er2⟩ := dcD_cons er
            have env3 := env2.mono x3
            refine ⟨wipeE ρ vs, H0, S0, D :: S, d, env3, kd (D :: S) env2.sH (sn.trans (hide_mono x3)), ρ1, eb, fun σ4 l4 s4 env4 => ⟨?_, ρ1, H0, S0, D :: S, env4, ?_⟩⟩
            · exact (wipe_get l4 fun j hj' => s4 j fun z => hj' (hj j z)).trans (wipe_idem σ vs)
            · rw [et]
              intro H4 x4
              refine iteT ⟨ρ1, H0, S0, D :: S, env4.mono x4, ?_⟩
              rw [ek]
              intro H5 u x5 ku
              refine ⟨ρ1, H0, S0, D :: S, (env4.mono x4).mono x5, ?_⟩
              rw [ev]
              intro H6 w x6 kw
              cases ku
              have x36 : Ex H2 H6 := ((x3.trans x4).trans x5).trans x6
              have hD6 : H6 D = some (.dK es) := x36.k D _ hD (fun ps z => nomatch z)
              refine ⟨es, .inl kk, rfl, hD6, by rw [ka.length]; exact hl, _, putO acc kk vv, (env2.mono x36).updHid List.mem_cons_self n0 hD6 trivial trivial noD, upd_same, ?_, er2, (kp.trans x36).mut nD hD6 trivial⟩
              rw [hide_upd List.mem_cons_self]
              exact (ka.mono (hide_mono x36)).put kw
          · have e : n = ds.length := by omega
            subst e
            rw [List.drop_length] at er
            have er' : acc = kvs := Option.some.inj er
            subst er'
            exact .inl ⟨wd.stops H2 (sn.trans hide_sub), h1 _ (D :: S) H2 (env1.setOw nD kp hD trivial ⟨D, es, rfl, List.mem_cons_self, hD, ka.1, ka.2⟩)⟩
      · rw [if_neg hz] at h1
        exact h1.elim
    | _ => exact h
  | ex c => exact fun C H' e xx => h C σ S H' e (env.mono xx)
  | no => exact h⟩
end
end FL
/-! the mirrors of dicts, evaluated -/
namespace FL
open PySem PySem.Spec PyProof.Rows L2
section
variable {i : Nat} {ma mk m : Ev → R} {ρ : Ev}
@[simp] theorem ev_setOT : mSetOT i ρ = .nx (ρ.set i (.ot [])) := Eq.trans rfl rfl
@[simp] theorem ev_setOD : mSetOD i ρ = .nx (ρ.set i (.od [])) := Eq.trans rfl rfl
def notInK (s : Option Sl) (r : R) : R := match s with
  | some (.ot kvs) => r.bind fun d => match keyD d with
    | some k => .ok (.bool (!(getK kvs k).isSome))
    | none => .no
  | _ => .no
@[simp] theorem ev_notInOT : mNotInOT i ma ρ = notInK ρ[i]? (ma ρ) := Eq.trans rfl rfl
theorem notInK_ok {kvs : List (List Key × Int)} {d : D} {k : List Key} (h : keyD d = some k) : notInK (some (.ot kvs)) (.ok d) = .ok (.bool (!(getK kvs k).isSome)) := by
  unfold notInK R.bind
  simp only [h]
def ixOTK (s : Option Sl) (r : R) : R := match s with
  | some (.ot kvs) => r.bind fun d => match keyD d with
    | some k => match getK kvs k with
      | some z => .ok (.int z)
      | none => .no
    | none => .no
  | _ => .no
@[simp] theorem ev_ixOT : mIxOT i mk ρ = ixOTK ρ[i]? (mk ρ) := Eq.trans rfl rfl
theorem ixOTK_ok {kvs : List (List Key × Int)} {d : D} {k : List Key} {z : Int} (h : keyD d = some k) (h2 : getK kvs k = some z) : ixOTK (some (.ot kvs)) (.ok d) = .ok (.int z) := by
  unfold ixOTK R.bind
  simp only [h, h2]
def inODK (neg : Bool) (s : Option Sl) (r : R) : R := match s with
  | some (.od kvs) => r.bind fun d => match d with
    | .int k => .ok (.bool (neg != (getO kvs k).isSome))
    | _ => .no
  | _ => .no
@[simp] theorem ev_inOD {neg : Bool} : mInOD neg i ma ρ = inODK neg ρ[i]? (ma ρ) := Eq.trans rfl rfl
@[simp] theorem inODK_ok {neg : Bool} {kvs : List (Int × D)} {k : Int} : inODK neg (some (.od kvs)) (.ok (.int k)) = .ok (.bool (neg != (getO kvs k).isSome)) := Eq.trans rfl rfl
def ixODK (s : Option Sl) (r : R) : R := match s with
  | some (.od kvs) => r.bind fun d => match d with
    | .int k => R.of (getO kvs k)
    | _ => .no
  | _ => .no
@[simp] theorem ev_ixOD : mIxOD i mk ρ = ixODK ρ[i]? (mk ρ) := Eq.trans rfl rfl
@[simp] theorem ixODK_ok {kvs : List (Int × D)} {k : Int} : ixODK (some (.od kvs)) (.ok (.int k)) = R.of (getO kvs k) := Eq.trans rfl rfl
def sortODK (s : Option Sl) : R := match s with
  | some (.od kvs) => if kvs.length < 64 then .ok (.list ((sortI (kvs.map (·.1))).map .int)) else .no
  | _ => .no
@[simp] theorem ev_sortOD : mSortOD i ρ = sortODK ρ[i]? := Eq.trans rfl rfl
theorem sortODK_ok {kvs : List (Int × D)} (h : kvs.length < 64) : sortODK (some (.od kvs)) = .ok (.list ((sortI (kvs.map (·.1))).map .int)) := (Eq.trans rfl rfl : sortODK (some (.od kvs)) = if kvs.length < 64 then .ok (.list ((sortI (kvs.map (·.1))).map .int)) else .no).trans (if_pos h)
def callOK (f : List D → R) (s : Option Sl) (r : R) : R := match s with
  | some (.ol xs) => r.bind fun d => (f [d, .list xs]).bind flatR
  | _ => .no
@[simp] theorem ev_callO {f : List D → R} : mCallO f i ma ρ = callOK f ρ[i]? (ma ρ) := Eq.trans rfl rfl
theorem callOK_ok {f : List D → R} {xs : List D} {d z : D} (h : f [d, .list xs] = .ok z) (fl : flat1 z = true) : callOK f (some (.ol xs)) (.ok d) = .ok z := by
  unfold callOK R.bind
  simp only [h]
  unfold flatR
  exact if_pos fl
end
end FL
/-! set(list of whole numbers), sorted(set(e)), x.index(e) -/
namespace FL
open PySem PySem.Spec PyProof.Rows L2
section
variable {P : Program} {w : World} {A : Around} {E : Value → Shared → Prop} {s : Shared}
theorem set_of_list {l : Addr} {items : Array Value} (ns : List Int) {Q : Value → Shared → Prop} (hh : A.handled = none) (hl : s.heap.IsList l items) (hit : IntsAre items.toList ns) (hb : ns.length + 1 < scanBound)
    (h : ∀ (h' : Heap) (tk c : Nat), SetR w h' s.heap.objs.size (fun j => decide (j ∈ ns)) c → c ≤ ns.length → (∀ b o, s.heap.get? b = some o → h'.get? b = some o) → Q (.ref s.heap.objs.size) { s with heap := h', toks := tk }) :
    wpAny (model P w) A (call (.type "set") [.ref l]) Q E s := by
  have hisz : items.size = ns.length := by
    have q := IntsAre.length hit
    rw [Array.length_toList] at q
    exact q
  obtain ⟨c, tl, hmro⟩ := F.called_set.mro
  have hmade := F.called_set.made
  have hsub := F.called_set.sub
  have h1 := F.called_set.notType
  have h2 := F.called_set.canCreate
  have hct := F.typeCall_set_1 (.ref l)
  refine wpAny_call (codeAny_of_tree ?_)
  show wpAny _ _ (callAny (.type "set") _) _ _ _
  refine wpAny_pure ⟨Code.quiet_builtin _ (by decide +kernel), codeAny_builtin F.entry_type_call ?_⟩
  rw [Around.under_plain (weight_type_call_type "set" [.ref l] []) rfl]
  repeat (any_goals (first | assumption | wp_step))
  generalize hN : ({ cls := .type "set", dict := none, data := .set #[] 0 (.fresh 0 0 (!w.params.followText "set-order")) } : Obj) = N
  have cN : N.cls = .type "set" := by rw [← hN]
  refine codeAny_mono (code_set_led1 (.ref l) (E := E) (Q₁ := fun obj s₁ => obj = .ref s.heap.objs.size ∧ s₁ = { s with heap := s.heap.push N }) (by rw [hN]; exact ⟨rfl, rfl⟩)) fun r s₁ hr => ?_
  cases r with
  | error e => exact hr
  | ok fl =>
    cases fl with
    | ret obj =>
      obtain ⟨rfl, rfl⟩ := hr
      subst hN
      have hS : (s.heap.push { cls := .type "set", dict := none, data := .set #[] 0 (.fresh 0 0 (!w.params.followText "set-order")) }).get? s.heap.objs.size = some { cls := .type "set", dict := none, data := .set #[] 0 (.fresh 0 0 (!w.params.followText "set-order")) } := Heap.get?_push_size _ rfl
      have hT : Shared.TypeIs { s with heap := s.heap.push { cls := .type "set", dict := none, data := .set #[] 0 (.fresh 0 0 (!w.params.followText "set-order")) } } (.ref s.heap.objs.size) "set" := ⟨_, hS, rfl⟩
      have hli := F.called_set.init.lookup
      have hbi := F.called_set.init.bind (.ref s.heap.objs.size)
      repeat (any_goals (first | assumption | wp_step))
      refine codeAny_mono (codeAny_call_builtin (R := wants (fun r s₂ => r = .none ∧ ∃ h' tk c, s₂ = { s with heap := h', toks := tk } ∧ SetR w h' s.heap.objs.size (fun j => decide (j ∈ ns)) c ∧ c ≤ ns.length ∧
          (∀ b o, s.heap.get? b = some o → h'.get? b = some o)) E) F.called_set.init.plain F.entry_set_init (check_set_init_1 hT ?_)) fun r₂ s₂ hr₂ => ?_
      · obtain ⟨ol, hol, hcl, nl, hdl⟩ := hl
        obtain ⟨ocls, odict, odata, oslots⟩ := ol
        simp only at hcl hdl
        subst hcl; subst hdl
        have hol' : (s.heap.push { cls := .type "set", dict := none, data := .set #[] 0 (.fresh 0 0 (!w.params.followText "set-order")) }).get? l = some { cls := .type "list", dict := odict, data := .seq items nl, slots := oslots } := Heap.get?_push_of_some _ hol
        have hsls := F.sub_list_set
        have hslf := F.sub_list_frozenset
        have hne : (Value.type "list" == Value.type "dict") = false := by decide
        have hl1 : (s.heap.push { cls := .type "set", dict := none, data := .set #[] 0 (.fresh 0 0 (!w.params.followText "set-order")) }).IsList l items := ⟨_, hol', rfl, nl, rfl⟩
        unfold Builtin.«set.__init__» noKeywords Builtin.Frozenset.updateFrom
        generalize hPI : pyIter = PI
        wp_walk
        subst hPI
        refine wpAny_pyIter_list hl1 ?_
        refine wpAny_bind (wpAny_runValue ?_)
        have lt : l < s.heap.objs.size := Heap.lt_size hol
        have hd3 : A.in1.in1.in1.handled = none := by simp [hh]
        have nI : l ≠ (s.heap.push { cls := .type "set", dict := none, data := .set #[] 0 (.fresh 0 0 (!w.params.followText "set-order")) }).objs.size := by
          rw [Heap.size_push]; exact Nat.ne_of_lt (Nat.lt_succ_of_lt lt)
        have nS : s.heap.objs.size ∉ [(s.heap.push { cls := .type "set", dict := none, data := .set #[] 0 (.fresh 0 0 (!w.params.followText "set-order")) }).objs.size, l] := by
          rw [Heap.size_push]
          intro z
          rcases List.mem_cons.mp z with z | z
          · exact Nat.ne_of_lt (Nat.lt_succ_self _) z
          · exact Nat.ne_of_gt lt (List.mem_singleton.mp z)
        have each : ∀ (i : Nat) (v : Value), items[i]? = some v → ∃ k t, ns[i]? = some k ∧ v = .int k t := fun i v hv => by
          have hi : i < ns.length := by rw [← hisz]; exact (Array.getElem?_eq_some_iff.mp hv).1
          obtain ⟨t, e⟩ := PyProof.Rows.IntsAre.int_at hit i v (by rw [Array.getElem?_toList]; exact hv)
          refine ⟨ns[i], t, List.getElem?_eq_getElem hi, ?_⟩
          rw [e, List.getD_eq_getElem?_getD, List.getElem?_eq_getElem hi] <;> rfl
        have g0 : ((s.heap.push { cls := .type "set", dict := none, data := .set #[] 0 (.fresh 0 0 (!w.params.followText "set-order")) }).push { cls := .type "list_iterator", data := .fields #[.ref l, .int 0 0] }).get? s.heap.objs.size
            = some { cls := .type "set", dict := none, data := .set #[] 0 (.fresh 0 0 (!w.params.followText "set-order")) } := Heap.get?_push_of_some _ hS
        refine set_update_ints ((Walks.list hd3 _ l nI items).toS) s.heap.objs.size
          nS ns hisz hb each (items.size - 0) 0 _ (by omega) (Nat.zero_le _)
          ⟨⟨_, Heap.get?_push_size _ rfl, rfl, rfl⟩, (hl1.push _)⟩ ⟨0, Nat.le_refl 0, setR_new_at g0⟩ fun s' c' hm hc' hS' => ?_
        obtain ⟨h', g2, d', tk', os'⟩ := s'
        have eg : g2 = s.gens := hm.gens
        have ed : d' = s.drawn := hm.drawn
        have eo : os' = s.os := hm.os
        subst eg; subst ed; subst eo
        show wpAny _ _ _ _ _ _
        refine wpAny_pure ?_
        show wpAny _ _ (ret Value.none) _ _ _
        rw [hisz] at hc'
        refine wpAny_pure ⟨rfl, h', tk', c', rfl, hS', hc', fun b o e => ?_⟩
        have hb0 : b < s.heap.objs.size := Heap.lt_size e
        refine hm.heap b o (fun z => ?_) (Heap.get?_push_of_some _ (Heap.get?_push_of_some _ e))
        rcases List.mem_cons.mp z with z | z
        · exact Nat.ne_of_lt hb0 z
        · have z := List.mem_singleton.mp z
          rw [Heap.size_push] at z
          exact Nat.ne_of_lt (Nat.lt_succ_of_lt hb0) z
      · cases r₂ with
        | error e => exact hr₂
        | ok fl₂ =>
          cases fl₂ with
          | ret r =>
            obtain ⟨rfl, h', tk, c', rfl, hS', hc', hk'⟩ := hr₂
            repeat (any_goals (first | assumption | wp_step))
            exact h _ _ _ hS' hc' hk'
          | _ => exact hr₂.elim
    | _ => exact hr.elim
end
variable [TabNames]
section
variable {X : Cx}
theorem cr_setL (hc : X.calm = true) : CallR X (.type "set") (fun xs H Q => ∃ (l : Addr) (ns : List Int), xs = [V.ref l] ∧ SqL X.K H l (ns.map V.int) ∧ ns.length < 63 ∧ ∀ a c, H a = none → c ≤ ns.length → Q (.ref a) (upd H a (SetO X.w a (fun j => decide (j ∈ ns)) c))) := by
  intro pins s σ H xs us Q I r h
  obtain ⟨l, ns, rfl, hl, hf, q⟩ := h
  rw [Vals.ref1 r]
  obtain ⟨its, rv, pl, hz⟩ := I.list hl
  have hn : H s.heap.objs.size = none := I.hok.fresh (Nat.le_refl _)
  refine set_of_list ns (I.ok.hd hc) pl.isList (by simpa using rv.ints) (by unfold scanBound; omega) fun h' tk c R hc' k => ?_
  exact ⟨.ref s.heap.objs.size, _, I.laid (t' := tk) k (Nat.le_refl _) (setO_new R), rfl, q _ c hn hc'⟩
end
def dedI : List Int → List Int
  | [] => []
  | x :: r => if x ∈ r then dedI r else x :: dedI r
omit [TabNames] in
theorem dedI_mem {k : Int} : ∀ {l : List Int}, k ∈ dedI l ↔ k ∈ l
  | [] => Iff.rfl
  | x :: r => by
    unfold dedI
    split
    · rename_i q
      rw [dedI_mem, List.mem_cons]
      exact ⟨.inr, fun z => z.elim (fun z => z ▸ q) id⟩
    · rw [List.mem_cons, List.mem_cons, dedI_mem]
omit [TabNames] in
theorem dedI_nodup : ∀ l : List Int, (dedI l).Nodup
  | [] => .nil
  | x :: r => by
    unfold dedI
    split
    · exact dedI_nodup r
    · rename_i q
      exact List.nodup_cons.mpr ⟨fun z => q (dedI_mem.mp z), dedI_nodup r⟩
/-- the members, each once, rising -/
def setI (l : List Int) : List Int := sortI (dedI l)
omit [TabNames] in
theorem setI_mem {k : Int} {l : List Int} : k ∈ setI l ↔ k ∈ l := (sortI_perm _).mem_iff.trans dedI_mem
omit [TabNames] in
theorem setI_up (l : List Int) : (setI l).Pairwise (· < ·) := lt_of_le_nodup _ (sortI_sorted _) ((sortI_perm _).nodup_iff.mpr (dedI_nodup l))
omit [TabNames] in
theorem up_uniq : ∀ {a b : List Int}, a.Pairwise (· < ·) → b.Pairwise (· < ·) → (∀ k, k ∈ a ↔ k ∈ b) → a = b
  | [], [], _, _, _ => rfl
  | [], y :: b, _, _, h => by have := (h y).mpr (by simp); cases this
  | x :: a, [], _, _, h => by have := (h x).mp (by simp); cases this
  | x :: a, y :: b, ha, hb, h => by
    have ha2 := List.pairwise_cons.mp ha
    have hb2 := List.pairwise_cons.mp hb
    have e : x = y := by
      rcases List.mem_cons.mp ((h x).mp (by simp)) with e | m1
      · exact e
      · rcases List.mem_cons.mp ((h y).mpr (by simp)) with e | m2
        · exact e.symm
        · have := ha2.1 y m2
          have := hb2.1 x m1
          omega
    subst e
    rw [up_uniq ha2.2 hb2.2 fun k => ?_]
    have := h k
    rw [List.mem_cons, List.mem_cons] at this
    constructor
    · intro m
      rcases this.mp (.inr m) with e | z
      · have := ha2.1 k m
        omega
      · exact z
    · intro m
      rcases this.mpr (.inr m) with e | z
      · have := hb2.1 k m
        omega
      · exact z
section
variable {X : Cx} {G : Gx} {pos : Pos} {a b c e o : Expr} {ma mb mk ms mo : Ev → R}
def sortSetD : D → R
  | .list ds => match intsOf ds with
    | some ns => if ns.length < 63 then .ok (.list ((setI ns).map .int)) else .no
    | none => .no
  | _ => .no
/-- sorted(set(e)) -/
def mSortSet (ma : Ev → R) : Ev → R := fun ρ => (ma ρ).bind sortSetD
theorem x_sortSet {p p2 q : Pos} (ha : XE X G a ma) (hm : X.mg "sorted" = none) (hm2 : X.mg "set" = none) (hc : X.calm = true := by rfl) (hg : Gl X "sorted" := by rfl) (hg2 : Gl X "set" := by rfl) (he2 : starEach [a] X.env = (false, eval a X.env) :: starEach [] X.env := by rfl)
    (he : starEach [.Call (.Name "set" p2) [a] [] q] X.env = (false, eval (.Call (.Name "set" p2) [a] [] q) X.env) :: starEach [] X.env := by rfl) : XE X G (.Call (.Name "sorted" p) [.Call (.Name "set" p2) [a] [] q] [] pos) (mSortSet ma) :=
  ⟨fun ρ => (pe_callB (cr_sortedSet hc) hg hm boot_sorted (pa_cons (pe_callTy (cr_setL hc) hg2 hm2 boot_set (pa_cons (ha.pe ρ) pa_nil he2) (by decide) (by decide) he2) pa_nil he) (by decide) (by decide) he).imp fun σ H Q ⟨H0, S0, S, env, h⟩ => tE_bind env h fun d H1 v _ x hv h1 => by
    unfold sortSetD at h1
    cases d with
    | list ds =>
      cases ei : intsOf ds with
      | none => simp only [ei] at h1; exact h1.elim
      | some ns =>
        simp only [ei] at h1
        by_cases q : ns.length < 63
        · rw [if_pos q] at h1
          have env1 := env.mono x
          cases hv with
          | lst hl k =>
            rename_i l vs
            have ev := ints_of k ei
            subst ev
            refine ⟨l, ns, rfl, ex_l hide_sub hl, q, fun p c np hc => ⟨p, _, c, rfl, upd_same, by omega, fun ms r up mem len nr => ?_⟩⟩
            have e : ms = setI ns := up_uniq up (setI_up ns) fun k => by rw [mem k, setI_mem, decide_eq_true_iff]
            subst e
            have x1 := (Ex.new (o := SetO X.w p (fun j => decide (j ∈ ns)) c) np)
            exact post_new (Post.mono h1 x1) nr (new_lst (fun l hl => x1.n l (env1.sH l hl)) nr (da_ints _))
        · rw [if_neg q] at h1
          exact h1.elim
    | _ => exact h1.elim⟩
omit [TabNames] in
theorem units1 {k : Nat} {A : Around} (r : Room k A) : A.units + 1 < cLine := by have := r.un; omega
def lixD (ys : List D) (d : D) : R := if (shp d && shp (.list ys)) = true then R.of ((ys.findIdx? fun z => PyData.eqv z d).map fun j => .int (j : Nat)) else .no
/-- x.index(e), x a list -/
def mLix (mo ma : Ev → R) : Ev → R := fun ρ => (mo ρ).bind fun y => match y with
  | .list ys => (ma ρ).bind (lixD ys)
  | _ => .no
theorem x_lix {x : Str} {p apos : Pos} (hu : X.A.units + 65 < cLine) (ho : XB X G (.Name x p) mo) (ha : XE X G a ma)
    (hfew : ((backTo pos (starEach [a] X.env)).all (fun x => !x.1) && (backToKw pos (keywordEach [] X.env)).all (fun x => x.1.isSome) && decide ([a].length + ([] : List Keyword).length + (if ([] : List Keyword).isEmpty then 0 else 1) < 30)) = true := by rfl)
    (hline : (apos.endLine == pos.line) = true := by rfl) (hst : starEach [a] X.env = (false, eval a X.env) :: starEach [] X.env := by rfl) (hpl : (backTo pos (starEach [] X.env)).any (·.1) = false := by rfl) :
    XE X G (.Call (.Attribute (.Name x p) "index" apos) [a] [] pos) (mLix mo ma) :=
  ⟨fun ρ => (pe_bm PySem.F.plainAttrs_list PySem.F.slot_list_index PySem.F.type_list_index (mt_indexD hu) (PE.mk fun pins s σ H Q I h => (ho.pe ρ).run pins s σ H Q I h) (pa_cons (ha.pe ρ) pa_nil hst) (by rfl) hfew hline hst hpl).imp fun σ H Q ⟨H0, S0, S, env, w⟩ => tB_bind env w fun y H1 u _ x1 hu1 w1 => by
    cases y with
    | list ys =>
      obtain ⟨l, vs, rfl, hl, k⟩ := hu1.list
      refine ⟨.inl ⟨rfl, vs, hl⟩, tE_bind (env.mono x1) w1 fun d H2 v _ x2 hv w2 => ?_⟩
      unfold lixD at w2
      by_cases q : (shp d && shp (.list ys)) = true
      · rw [if_pos q] at w2
        obtain ⟨z, ez, w3⟩ := of_some w2
        rw [Option.map_eq_some_iff] at ez
        obtain ⟨j, ej, rfl⟩ := ez
        rw [List.findIdx?_eq_some_iff_getElem] at ej
        obtain ⟨hj, e1, e2⟩ := ej
        rw [Bool.and_eq_true] at q
        refine ⟨l, v, d, ys, j, ys[j], rfl, rfl, (hu1.mono x2).full, dp_mono hide_sub hv, q.2, q.1, List.getElem?_eq_getElem hj, e1, fun m z' hm hz => ?_, post_val w3 (.int _)⟩
        have hm' : m < ys.length := by omega
        rw [List.getElem?_eq_getElem hm'] at hz
        have := e2 m hm
        rw [Option.some.inj hz] at this
        simpa using this
      · rw [if_neg q] at w2
        exact w2.elim
    | _ => exact w1.elim⟩
end
end FL
/-! the mirrors of dicts, evaluated: statements; steps of formulas as keys -/
namespace FL
open PySem PySem.Spec PyProof.Rows L2
section
variable {i : Nat} {ma mk m mt me mo : Ev → R} {mi : Ev → R} {bt : Ev → D → Option Ev} {ρ : Ev} {vs : List Nat}
def putOTK (i : Nat) (ρ : Ev) (s : Option Sl) (ra rk : R) : Out := match s with
  | some (.ot kvs) => ra.go ρ fun d => rk.go ρ fun y => match d, keyD y with
    | .int z, some k => if kvs.length < sizeLine then .nx (ρ.set i (.ot (putI kvs k z))) else .no
    | _, _ => .no
  | _ => .no
@[simp] theorem ev_putOT : mPutOT i mk ma ρ = putOTK i ρ ρ[i]? (ma ρ) (mk ρ) := Eq.trans rfl rfl
theorem putOTK_ok {kvs : List (List Key × Int)} {z : Int} {y : D} {k : List Key} (h : keyD y = some k) (hl : kvs.length < sizeLine) : putOTK i ρ (some (.ot kvs)) (.ok (.int z)) (.ok y) = .nx (ρ.set i (.ot (putI kvs k z))) := by
  unfold putOTK R.go
  simp only [h]
  exact if_pos hl
def putODK (i : Nat) (ρ : Ev) (s : Option Sl) (ra rk : R) : Out := match s with
  | some (.od kvs) => ra.go ρ fun d => rk.go ρ fun y => match y with
    | .int k => if kvs.length < sizeLine then .nx (ρ.set i (.od (putO kvs k d))) else .no
    | _ => .no
  | _ => .no
@[simp] theorem ev_putOD : mPutOD i mk ma ρ = putODK i ρ ρ[i]? (ma ρ) (mk ρ) := Eq.trans rfl rfl
theorem putODK_ok {kvs : List (Int × D)} {d : D} {k : Int} (hl : kvs.length < sizeLine) : putODK i ρ (some (.od kvs)) (.ok d) (.ok (.int k)) = .nx (ρ.set i (.od (putO kvs k d))) := by
  unfold putODK R.go
  exact if_pos hl
def setOD1K (i : Nat) (ρ : Ev) (rk ra : R) : Out := rk.go ρ fun k => ra.go ρ fun v => match k with
  | .int z => .nx (ρ.set i (.od [(z, v)]))
  | _ => .no
@[simp] theorem ev_setOD1 : mSetOD1 i mk ma ρ = setOD1K i ρ (mk ρ) (ma ρ) := Eq.trans rfl rfl
@[simp] theorem setOD1K_ok {z : Int} {v : D} : setOD1K i ρ (.ok (.int z)) (.ok v) = .nx (ρ.set i (.od [(z, v)])) := Eq.trans rfl rfl
theorem setDC_ok {ds : List D} {kvs : List (Int × D)} (h : mi ρ = .ok (.list ds)) (hl : ds.length ≤ sizeLine) (hd : dcD (bt (wipeE ρ vs)) mt mk me ds [] = some kvs) : mSetDC i mi bt mt mk me vs ρ = .nx (ρ.set i (.od kvs)) := by
  unfold mSetDC
  rw [h]
  show (if ds.length ≤ sizeLine then (match dcD (bt (wipeE ρ vs)) mt mk me ds [] with
    | some kvs => Out.nx (ρ.set i (.od kvs))
    | none => .no) else .no) = _
  rw [if_pos hl, hd]
theorem callD_ok {f : D → List (Int × D) → R} {kvs : List (Int × D)} {d z : D} (h : ρ[i]? = some (.od kvs)) (h1 : ma (ρ.set i .un) = .ok d) (h2 : f d kvs = .ok z) (fl : flat1 z = true) : mCallD f i ma ρ = .ok z := by
  unfold mCallD
  simp only [h, h1, h2]
  unfold flatR
  exact if_pos fl
def ixAnyK (s : Option Sl) (rk r : R) : R := match s with
  | some (.bd kvs) => rk.bind fun d => match d with
    | .int k => R.of (getO kvs k)
    | _ => .no
  | _ => r
@[simp] theorem ev_ixAny : mIxAny i mk m ρ = ixAnyK ρ[i]? (mk ρ) (m ρ) := by
  unfold mIxAny ixAnyK mIxBD
  cases h : ρ[i]? with
  | none => rfl
  | some s => cases s <;> rfl
@[simp] theorem ixAnyK_bd {kvs : List (Int × D)} {k : Int} {r : R} : ixAnyK (some (.bd kvs)) (.ok (.int k)) r = R.of (getO kvs k) := Eq.trans rfl rfl
@[simp] theorem ixAnyK_d {x : D} {rk r : R} : ixAnyK (some (.d x)) rk r = r := Eq.trans rfl rfl
@[simp] theorem ev_sortSet : mSortSet ma ρ = (ma ρ).bind sortSetD := Eq.trans rfl rfl
theorem intsOf_map : ∀ ns : List Int, intsOf (ns.map PyData.int) = some ns
  | [] => rfl
  | n :: r => by
    rw [List.map_cons]
    show (intsOf (r.map PyData.int)).map (n :: ·) = _
    rw [intsOf_map r]
    rfl
theorem sortSet_ok {ns : List Int} (h : ns.length < 63) : sortSetD (.list (ns.map .int)) = .ok (.list ((setI ns).map .int)) := by
  unfold sortSetD
  simp only [intsOf_map]
  exact if_pos h
def lixK (r : R) : D → R
  | .list ys => r.bind (lixD ys)
  | _ => .no
@[simp] theorem ev_lix : mLix mo ma ρ = (mo ρ).bind (lixK (ma ρ)) := by
  unfold mLix
  congr 1
@[simp] theorem lixK_list {r : R} {ys : List D} : lixK r (.list ys) = r.bind (lixD ys) := Eq.trans rfl rfl
end
variable [TabNames]
theorem eqvAll_ints : ∀ {x y : List Int}, PyData.eqvAll (x.map .int) (y.map .int) = decide (x = y) := eqv_ints
theorem eqv_sd {s t : Stp} (hs : s.1 < 14) (ht : t.1 < 14) : PyData.eqv (sd s) (sd t) = decide (s = t) := by
  obtain ⟨c, x⟩ := s
  obtain ⟨d, y⟩ := t
  unfold sd
  dsimp only
  rw [PyData.eqv, PyData.eqvAll, wd_eqv c hs d ht]
  have e : PyData.eqvAll (x.map .int) (y.map .int) = decide (x = y) := eqvAll_ints
  rw [e]
  by_cases h1 : c = d
  · by_cases h2 : x = y
    · simp [h1, h2]
    · simp [h1, h2]
  · simp [h1]
def kS (s : Stp) : List Key := .inr (Wd s.1) :: s.2.map Sum.inl
theorem keysD_ints : ∀ x : List Int, keysD (x.map PyData.int) = some (x.map Sum.inl)
  | [] => rfl
  | a :: r => by
    rw [List.map_cons]
    unfold keysD
    rw [keysD_ints r]
    rfl
theorem key_sd (s : Stp) : keyD (sd s) = some (kS s) := by
  unfold sd keyD keysD
  simp only [keysD_ints]
  rfl
theorem wd_inj : ∀ {c d : Nat}, c < 14 → d < 14 → Wd c = Wd d → c = d := by
  have h : ∀ c, c < 14 → ∀ b, b < 14 → Wd c = Wd b → c = b := by decide +kernel
  exact fun {c d} hc hd e => h c hc d hd e
theorem kS_inj {s t : Stp} (hs : s.1 < 14) (ht : t.1 < 14) (e : kS s = kS t) : s = t := by
  obtain ⟨c, x⟩ := s
  obtain ⟨d, y⟩ := t
  unfold kS at e
  dsimp only at *
  rw [List.cons.injEq] at e
  rw [wd_inj hs ht (Sum.inr.inj e.1), List.map_inj_right (fun a b h => Sum.inl.inj h) |>.mp e.2]
theorem flat_sd (s : Stp) : flat1 (sd s) = true := by
  show (PyData.str (Wd s.1) :: s.2.map PyData.int).all flat0 = true
  rw [List.all_cons, List.all_map]
  simp [flat0, Function.comp_def]
theorem any_sd {t : Stp} (ht : t.1 < 14) : ∀ {K : List Stp}, (∀ s ∈ K, s.1 < 14) → ((K.map sd).any fun z => PyData.eqv z (sd t)) = decide (t ∈ K)
  | [], _ => rfl
  | s :: K, h => by
    rw [List.map_cons, List.any_cons, any_sd ht (fun s hs => h s (List.mem_cons_of_mem _ hs)), eqv_sd (h s (by simp)) ht]
    by_cases e : s = t
    · simp [e]
    · have : ¬ t = s := fun z => e z.symm
      simp [e, this]
theorem find_sd {t : Stp} (ht : t.1 < 14) : ∀ {K : List Stp}, (∀ s ∈ K, s.1 < 14) → t ∈ K → ((K.map sd).findIdx? fun z => PyData.eqv z (sd t)) = some (K.idxOf t)
  | [], _, m => by cases m
  | s :: K, h, m => by
    rw [List.map_cons, List.findIdx?_cons, eqv_sd (h s (by simp)) ht, List.idxOf_cons]
    by_cases e : s = t
    · simp [e]
    · have m2 : t ∈ K := (List.mem_cons.mp m).resolve_left fun z => e z.symm
      have e2 : (s == t) = false := beq_false_of_ne e
      rw [e2, find_sd ht (fun s hs => h s (List.mem_cons_of_mem _ hs)) m2]
      simp [e]
end FL
namespace FL
open PySem PySem.Spec PyProof.Rows L2
variable [TabNames]
section
variable {X : Cx} {G : Gx} {pos : Pos} {a b c e : Expr} {ma mb mk : Ev → R}
theorem xt_notInOT (i : Nat) {x : Str} {p : Pos} (hP : X.prog = TabNames.pg) (hw : X.w = TabNames.wo) (hu : X.A.units + 1 < cLine) (ha : XE X G a ma) (hN : X.N[i]? = some x := by rfl) (hv : Vis X.env.scope x := by first | exact Or.inl rfl | exact Or.inr (Or.inl rfl) | exact Or.inr (Or.inr rfl)) (hd : (x == ("__debug__" : Str)) = false := by decide)
    (hcd : (x == ("__classdict__" : Str)) = false := by decide) (hm : behindInMarks .NotIn (.Name x p) = false := by first | exact nomark _ | rfl) : XT X G (.Compare a [.NotIn] [.Name x p] pos) (mNotInOT i ma) := ⟨fun ρ => (pt_cmp (pc_onotin hP hw hu (ha.pe ρ) (pe_var hN hv hd hcd)) hm).imp fun σ H Q h => tT_tTest (fun Q' h => by
  obtain ⟨H0, S0, S, env, h⟩ := h
  unfold mNotInOT at h
  split at h
  · rename_i kvs er
    refine tE_bind env h fun d H' v _ xx hv h' => ?_
    have env' := env.mono xx
    obtain ⟨l, xs, e1, lS, od, hk, hs, r⟩ := ot_get env' er
    cases ek : keyD d with
    | none => simp only [ek] at h'; exact h'.elim
    | some k =>
      simp only [ek] at h'
      obtain ⟨b, rfl, kb⟩ := keyD_ok hv ek
      refine ⟨.ref l, e1, l, xs, b, k, rfl, rfl, od, ex_t hide_sub kb, ?_⟩
      have e : (getK kvs k).isSome = (atKey xs k).isSome := by
        rcases r.get k with ⟨a, b⟩ | ⟨i, c, u, a, b, _⟩ <;> rw [a, b] <;> rfl
      rw [← e]
      exact post_val h' (.bl _)
  · exact h.elim) h⟩
theorem xt_inOD (i : Nat) {x : Str} {p : Pos} (hu : X.A.units + 1 < cLine) (ha : XE X G a ma) (hN : X.N[i]? = some x := by rfl) (hv : Vis X.env.scope x := by first | exact Or.inl rfl | exact Or.inr (Or.inl rfl) | exact Or.inr (Or.inr rfl)) (hd : (x == ("__debug__" : Str)) = false := by decide)
    (hcd : (x == ("__classdict__" : Str)) = false := by decide) (hm : behindInMarks .In (.Name x p) = false := by first | exact nomark _ | rfl) : XT X G (.Compare a [.In] [.Name x p] pos) (mInOD false i ma) := ⟨fun ρ => (pt_cmp (pc_din hu (ha.pe ρ) (pe_var hN hv hd hcd)) hm).imp fun σ H Q h => tT_tTest (fun Q' h => by
  obtain ⟨H0, S0, S, env, h⟩ := h
  unfold mInOD at h
  split at h
  · rename_i kvs er
    refine tE_bind env h fun d H' v _ xx hv h' => ?_
    have env' := env.mono xx
    obtain ⟨l, es, e1, lS, hl, r⟩ := od_get env' er
    cases hv with
    | int k =>
      refine ⟨.ref l, e1, l, valV es (.inl k), rfl, .inl ⟨es, .inl k, .inl hl, rfl, rfl⟩, ?_⟩
      have e : (valV es (.inl k)).isSome = (getO kvs k).isSome := by
        rcases r.get k with ⟨a, b⟩ | ⟨v, d, a, b, _⟩ <;> rw [a, b] <;> rfl
      rw [e]
      have h2 : Post X.K S H' (.bool (false != (getO kvs k).isSome)) Q' := h'
      rw [Bool.false_bne] at h2
      exact post_val h2 (.bl _)
    | _ => exact h'.elim
  · exact h.elim) h⟩
end
end FL
namespace Lk08
open PySem PySem.Spec PyProof.Rows L2 FL
/-! ## the text: portolan_k08_formulas_tidied -/
def topS (i : Nat) : Stmt := PySem.Challenge.pw_portolan_k08_formulas_tidied.main.body.getD i (.Pass ⟨0, 0, 0, 0⟩)
abbrev s_is_integer : Stmt := topS 3
abbrev N_is_integer : List Str := ["value"]
theorem sc_is_integer : FnScope N_is_integer ["value"] (defScope s_is_integer) := ⟨rfl, rfl, rfl, by decide +kernel, rfl, by decide +kernel, by decide +kernel⟩
abbrev s_arguments_of : Stmt := topS 4
abbrev N_arguments_of : List Str := ["step"]
theorem sc_arguments_of : FnScope N_arguments_of ["step"] (defScope s_arguments_of) := ⟨rfl, rfl, rfl, by decide +kernel, rfl, by decide +kernel, by decide +kernel⟩
abbrev s_is_step : Stmt := topS 5
abbrev N_is_step : List Str := ["value", "count", "item", "index"]
theorem sc_is_step : FnScope N_is_step ["value", "count"] (defScope s_is_step) := ⟨rfl, rfl, rfl, by decide +kernel, rfl, by decide +kernel, by decide +kernel⟩
abbrev s_is_formula : Stmt := topS 6
abbrev N_is_formula : List Str := ["value", "count", "step"]
theorem sc_is_formula : FnScope N_is_formula ["value"] (defScope s_is_formula) := ⟨rfl, rfl, rfl, by decide +kernel, rfl, by decide +kernel, by decide +kernel⟩
abbrev s_replaced : Stmt := topS 7
abbrev N_replaced : List Str := ["step", "places", "index"]
theorem sc_replaced : FnScope N_replaced ["step", "places"] (defScope s_replaced) := ⟨rfl, rfl, rfl, by decide +kernel, rfl, by decide +kernel, by decide +kernel⟩
abbrev s_tidied : Stmt := topS 8
abbrev N_tidied : List Str := ["formula", "kept", "known", "places", "step", "new", "last", "used", "at", "index", "moves", "place"]
theorem sc_tidied : FnScope N_tidied ["formula"] (defScope s_tidied) := ⟨rfl, rfl, rfl, by decide +kernel, rfl, by decide +kernel, by decide +kernel⟩
abbrev s_steps_of : Stmt := topS 9
abbrev N_steps_of : List Str := ["formula", "word", "step"]
theorem sc_steps_of : FnScope N_steps_of ["formula", "word"] (defScope s_steps_of) := ⟨rfl, rfl, rfl, by decide +kernel, rfl, by decide +kernel, by decide +kernel⟩
abbrev s_law_alike : Stmt := topS 11
abbrev N_law_alike : List Str := ["actual", "due", "k"]
theorem sc_law_alike : FnScope N_law_alike ["actual", "due"] (defScope s_law_alike) := ⟨rfl, rfl, rfl, by decide +kernel, rfl, by decide +kernel, by decide +kernel⟩
abbrev s_law_cell : Stmt := topS 12
abbrev N_law_cell : List Str := ["script", "k"]
theorem sc_law_cell : FnScope N_law_cell ["script", "k"] (defScope s_law_cell) := ⟨rfl, rfl, rfl, by decide +kernel, rfl, by decide +kernel, by decide +kernel⟩
abbrev s_law_numbers : Stmt := topS 13
abbrev N_law_numbers : List Str := ["script", "first", "most", "found", "at", "cell", "k", "mixed"]
theorem sc_law_numbers : FnScope N_law_numbers ["script", "first", "most"] (defScope s_law_numbers) := ⟨rfl, rfl, rfl, by decide +kernel, rfl, by decide +kernel, by decide +kernel⟩
abbrev s_law_is_integer : Stmt := topS 14
abbrev N_law_is_integer : List Str := ["actual"]
theorem sc_law_is_integer : FnScope N_law_is_integer ["actual"] (defScope s_law_is_integer) := ⟨rfl, rfl, rfl, by decide +kernel, rfl, by decide +kernel, by decide +kernel⟩
abbrev s_law_formula : Stmt := topS 15
abbrev N_law_formula : List Str := ["numbers", "most", "steps", "figure", "kind", "a", "i", "j"]
theorem sc_law_formula : FnScope N_law_formula ["numbers", "most"] (defScope s_law_formula) := ⟨rfl, rfl, rfl, by decide +kernel, rfl, by decide +kernel, by decide +kernel⟩
abbrev s_law_moved : Stmt := topS 16
abbrev N_law_moved : List Str := ["step", "places"]
theorem sc_law_moved : FnScope N_law_moved ["step", "places"] (defScope s_law_moved) := ⟨rfl, rfl, rfl, by decide +kernel, rfl, by decide +kernel, by decide +kernel⟩
abbrev s_law : Stmt := topS 17
abbrev N_law : List Str := ["script", "digit", "numbers", "number", "formula", "kept", "places", "step", "moved", "used", "k", "at", "order", "moves", "due", "actual", "word", "count"]
theorem sc_law : FnScope N_law ["script"] (defScope s_law) := ⟨rfl, rfl, rfl, by decide +kernel, rfl, by decide +kernel, by decide +kernel⟩
/-! ## what each def does -/
def M_is_integer (n : Nat) : Ev → Out := (mRet (mAnd2 (mInst "int" (mVar 0)) (mNot (mInst "bool" (mVar 0)))))
def F_is_integer (n : Nat) : List D → R := bodyF 1 1 (M_is_integer n)
def M_arguments_of (n : Nat) : Ev → Out := (mRet (mIf (mBin (memD false) (mIx (mVarB 0) (mC (.int 0))) (mTup (mCons (mC (.str "number")) (mCons (mC (.str "pi")) mNil)))) (mLst mNil) (mListOf (mSl (mVarB 0) (mInt (mC (.int 1))) (mC .none)))))
def F_arguments_of (n : Nat) : List D → R := bodyF 1 1 (M_arguments_of n)
def M_is_step (n : Nat) : Ev → Out := (mSeq (mIfS (mOr2 (mNot (mInst "tuple" (mVar 0))) (mOr2 (mBin (eqD) (mLen (mVarB 0)) (mC (.int 0))) (mNot (mInst "str" (mIx (mVarB 0) (mC (.int 0))))))) (mRet (mC (.bool false))) mNx) (mSeq (mIfS (mBin (neD) (mComp (mIter (mSl (mVarB 0) (mInt (mC (.int 1))) (mC .none))) (bName 2) (mNot (mCall (F_is_integer n) (mCons (mVar 2) mNil))) (mVar 2) [2]) (mLst mNil)) (mRet (mC (.bool false))) mNx) (mSeq (mIfS (mBin (eqD) (mIx (mVarB 0) (mC (.int 0))) (mC (.str "number"))) (mRet (mAnd2 (mBin (eqD) (mLen (mVarB 0)) (mC (.int 3))) (mBin (cmpI fun i j => decide (j ≤ i)) (mIx (mVarB 0) (mC (.int 2))) (mC (.int 1))))) mNx) (mSeq (mIfS (mBin (eqD) (mIx (mVarB 0) (mC (.int 0))) (mC (.str "pi"))) (mRet (mBin (eqD) (mLen (mVarB 0)) (mC (.int 1)))) mNx) (mSeq (mIfS (mAnd2 (mNot (mAnd2 (mBin (memD false) (mIx (mVarB 0) (mC (.int 0))) (mC (.tuple [(.str "add"), (.str "subtract"), (.str "times"), (.str "divide")]))) (mBin (eqD) (mLen (mVarB 0)) (mC (.int 3))))) (mNot (mAnd2 (mBin (memD false) (mIx (mVarB 0) (mC (.int 0))) (mC (.tuple [(.str "root"), (.str "sine"), (.str "cosine"), (.str "exp"), (.str "log"), (.str "arctan"), (.str "arcsine"), (.str "arccosine")]))) (mBin (eqD) (mLen (mVarB 0)) (mC (.int 2)))))) (mRet (mC (.bool false))) mNx) (mRet (mBin (eqD) (mComp (mIter (mSl (mVarB 0) (mInt (mC (.int 1))) (mC .none))) (bName 3) (mNot (mChain (cmpI fun i j => decide (i ≤ j)) (cmpI fun i j => decide (i < j)) (mC (.int 0)) (mVar 3) (mVar 1))) (mVar 3) [3]) (mLst mNil))))))))
def F_is_step (n : Nat) : List D → R := bodyF 4 2 (M_is_step n)
def M_is_formula (n : Nat) : Ev → Out := (mSeq (mIfS (mOr2 (mNot (mInst "tuple" (mVar 0))) (mBin (eqD) (mLen (mVarB 0)) (mC (.int 0)))) (mRet (mC (.bool false))) mNx) (mRet (mBin (eqD) (mComp (mEn (mCons (mVar 0) mNil)) (bTup 2 (bsCons (bName 1) (bsCons (bName 2) bsNil))) (mNot (mCall (F_is_step n) (mCons (mVar 2) (mCons (mVar 1) mNil)))) (mVar 2) [1, 2]) (mLst mNil))))
def F_is_formula (n : Nat) : List D → R := bodyF 3 1 (M_is_formula n)
def M_replaced (n : Nat) : Ev → Out := (mSeq (mIfS (mBin (memD false) (mIx (mVarB 0) (mC (.int 0))) (mTup (mCons (mC (.str "number")) (mCons (mC (.str "pi")) mNil)))) (mRetO 0) mNx) (mRet (mAdd (mTup (mCons (mIx (mVarB 0) (mC (.int 0))) mNil)) (mTupOf (mComp (mIter (mSl (mVarB 0) (mInt (mC (.int 1))) (mC .none))) (bName 2) (mC (.bool true)) (mIxAny 1 (mVar 2) (mIx (mVarB 1) (mVar 2))) [2])))))
def F_replaced (n : Nat) : List D → R := bodyF 3 2 (M_replaced n)
def FB_replaced (n : Nat) : D → List (Int × D) → R := bodyB 3 (M_replaced n)
def L1_tidied (n : Nat) : Ev → Out := (mSeq (mSet 5 (mCallO (F_replaced n) 3 (mVar 4))) (mSeq (mIfS (mNotInOT 2 (mVar 5)) (mSeq (mPutOT 2 (mVar 5) (mLen (mVarB 1))) (mApp 1 (mVar 5))) mNx) (mApp 3 (mIxOT 2 (mVar 5)))))
def L2_tidied (n : Nat) : Ev → Out := (mPutOD 7 (mVar 9) (mC (.bool true)))
def L3_tidied (n : Nat) : Ev → Out := (mIfS (mInOD false 7 (mVar 8)) (mFor (mIter (mCall (F_arguments_of n) (mCons (mIx (mVarB 1) (mVar 8)) mNil))) (bName 9) (L2_tidied n)) mNx)
def M_tidied (n : Nat) : Ev → Out := (mSeq (mSetL 1 (mLst mNil)) (mSeq (mSetOT 2) (mSeq (mSetL 3 (mLst mNil)) (mSeq (mFor (mIter (mVar 0)) (bName 4) (L1_tidied n)) (mSeq (mFrz [1, 3] (mSet 6 (mIx (mVarB 3) (mNeg (mC (.int 1)))))) (mSeq (mSetOD1 7 (mVar 6) (mC (.bool true))) (mSeq (mFor (mRevR1 (mAdd (mVar 6) (mC (.int 1)))) (bName 8) (L3_tidied n)) (mSeq (mSetDC 10 (mEn (mCons (mSortOD 7) mNil)) (bTup 2 (bsCons (bName 11) (bsCons (bName 8) bsNil))) (mC (.bool true)) (mVar 8) (mVar 11) [11, 8]) (mRet (mTupOf (mComp (mIter (mSortOD 7)) (bName 8) (mC (.bool true)) (mCallD (FB_replaced n) 10 (mIx (mVarB 1) (mVar 8))) [8])))))))))))
def F_tidied (n : Nat) : List D → R := bodyF 12 1 (M_tidied n)
def M_steps_of (n : Nat) : Ev → Out := (mRet (mLen (mComp (mIter (mVar 0)) (bName 2) (mBin (eqD) (mIx (mVarB 2) (mC (.int 0))) (mVar 1)) (mVar 2) [2])))
def F_steps_of (n : Nat) : List D → R := bodyF 3 2 (M_steps_of n)
def M_law_alike (n : Nat) (self : List D → R) : Ev → Out := (mSeq (mIfS (mOr2 (mInst "list" (mVar 1)) (mInst "tuple" (mVar 1))) (mSeq (mIfS (mOr2 (mBin (neD) (mInst "list" (mVar 0)) (mInst "list" (mVar 1))) (mBin (neD) (mInst "tuple" (mVar 0)) (mInst "tuple" (mVar 1)))) (mRet (mC (.bool false))) mNx) (mRet (mAnd2 (mBin (eqD) (mLen (mVarB 0)) (mLen (mVarB 1))) (mBin (eqD) (mLen (mComp (mRng1 (mCons (mLen (mVarB 1)) mNil)) (bName 2) (mNot (mCall self (mCons (mIx (mVarB 0) (mVar 2)) (mCons (mIx (mVarB 1) (mVar 2)) mNil)))) (mVar 2) [2])) (mC (.int 0)))))) mNx) (mSeq (mIfS (mOr2 (mBin (neD) (mInst "bool" (mVar 0)) (mInst "bool" (mVar 1))) (mBin (neD) (mInst "int" (mVar 0)) (mInst "int" (mVar 1)))) (mRet (mC (.bool false))) mNx) (mSeq (mIfS (mOr2 (mBin (neD) (mInst "str" (mVar 0)) (mInst "str" (mVar 1))) (mBin (neD) (mBin (isD false) (mVar 0) (mC .none)) (mBin (isD false) (mVar 1) (mC .none)))) (mRet (mC (.bool false))) mNx) (mRet (mBin (eqD) (mVar 0) (mVar 1))))))
def R_law_alike (n : Nat) : Nat → List D → R
  | 0 => fun _ => .no
  | k + 1 => bodyF 3 2 (M_law_alike n (R_law_alike n k))
def F_law_alike (n : Nat) : List D → R := R_law_alike n 6
def M_law_cell (n : Nat) : Ev → Out := (mSeq (mIfS (mBin (cmpI fun i j => decide (i < j)) (mVar 1) (mLen (mVarB 0))) (mRet (mIx (mVarB 0) (mVar 1))) mNx) (mRet (mC (.int 0))))
def F_law_cell (n : Nat) : List D → R := bodyF 2 2 (M_law_cell n)
def L1_law_numbers (n : Nat) : Ev → Out := (mIfS (mAnd2 (mBin (cmpI fun i j => decide (j < i)) (mVar 5) (mC (.int 0))) (mBin (cmpI fun i j => decide (i < j)) (mLen (mVarB 3)) (mVar 2))) (mSeq (mApp 3 (mMod (mFun int1D (mCons (mVar 5) mNil)) (mC (.int 4096)))) (mSet 5 (mFdiv (mVar 5) (mC (.int 4096))))) mNx)
def L2_law_numbers (n : Nat) : Ev → Out := (mSeq (mSet 5 (mFun absD (mCons (mIx (mVarB 0) (mVar 4)) mNil))) (mIfS (mBin (cmpI fun i j => decide (j ≤ i)) (mVar 5) (mC (.int 1000000000000000000))) (mFor (mRng1 (mCons (mC (.int 60)) mNil)) (bName 6) (L1_law_numbers n)) (mIfS (mBin (cmpI fun i j => decide (i < j)) (mLen (mVarB 3)) (mVar 2)) (mSeq (mSet 7 (mMod (mFun int1D (mCons (mAdd (mAdd (mMul (mVar 5) (mC (.int 48271))) (mMul (mVar 4) (mC (.int 69621)))) (mC (.int 12345))) mNil)) (mC (.int 2147483647)))) (mSeq (mSet 7 (mMod (mFun int1D (mCons (mAdd (mMul (mVar 7) (mC (.int 69621))) (mFdiv (mVar 7) (mC (.int 1009)))) mNil)) (mC (.int 1000003)))) (mApp 3 (mMod (mFun int1D (mCons (mVar 7) mNil)) (mC (.int 4096)))))) mNx)))
def M_law_numbers (n : Nat) : Ev → Out := (mSeq (mSetL 3 (mLst mNil)) (mSeq (mFor (mRng2 (mCons (mVar 1) (mCons (mLen (mVarB 0)) mNil))) (bName 4) (L2_law_numbers n)) (mRetO 3)))
def F_law_numbers (n : Nat) : List D → R := bodyF 8 3 (M_law_numbers n)
def M_law_is_integer (n : Nat) : Ev → Out := (mRet (mAnd2 (mInst "int" (mVar 0)) (mNot (mInst "bool" (mVar 0)))))
def F_law_is_integer (n : Nat) : List D → R := bodyF 1 1 (M_law_is_integer n)
def L1_law_formula (n : Nat) : Ev → Out := (mSeq (mSet 4 (mMod (mFun int1D (mCons (mVar 3) mNil)) (mC (.int 16)))) (mSeq (mSet 5 (mFdiv (mFun int1D (mCons (mVar 3) mNil)) (mC (.int 16)))) (mSeq (mSet 6 (mMod (mFun int1D (mCons (mVar 5) mNil)) (mFun max2D (mCons (mC (.int 1)) (mCons (mLen (mVarB 2)) mNil))))) (mSeq (mSet 7 (mMod (mFdiv (mVar 5) (mC (.int 16))) (mFun max2D (mCons (mC (.int 1)) (mCons (mLen (mVarB 2)) mNil))))) (mIfS (mOr2 (mBin (cmpI fun i j => decide (i < j)) (mVar 4) (mC (.int 3))) (mBin (eqD) (mVarB 2) (mLst mNil))) (mApp 2 (mTup (mCons (mC (.str "number")) (mCons (mSub (mMod (mMul (mFun int1D (mCons (mVar 5) mNil)) (mC (.int 41))) (mC (.int 401))) (mC (.int 200))) (mCons (mIx (mLst (mCons (mC (.int 1)) (mCons (mC (.int 1)) (mCons (mAdd (mC (.int 1)) (mMod (mFdiv (mVar 5) (mC (.int 512))) (mC (.int 60)))) (mCons (mAdd (mC (.int 1)) (mMod (mMul (mFun int1D (mCons (mVar 5) mNil)) (mC (.int 7))) (mC (.int 60)))) mNil))))) (mMod (mFdiv (mVar 5) (mC (.int 4))) (mC (.int 4)))) mNil))))) (mIfS (mBin (eqD) (mVar 4) (mC (.int 3))) (mApp 2 (mTup (mCons (mC (.str "pi")) mNil))) (mIfS (mBin (cmpI fun i j => decide (i < j)) (mVar 4) (mC (.int 8))) (mApp 2 (mTup (mCons (mIx (mLst (mCons (mC (.str "add")) (mCons (mC (.str "subtract")) (mCons (mC (.str "times")) (mCons (mC (.str "divide")) mNil))))) (mSub (mVar 4) (mC (.int 4)))) (mCons (mVar 6) (mCons (mVar 7) mNil))))) (mApp 2 (mTup (mCons (mIx (mLst (mCons (mC (.str "root")) (mCons (mC (.str "sine")) (mCons (mC (.str "cosine")) (mCons (mC (.str "exp")) (mCons (mC (.str "log")) (mCons (mC (.str "arctan")) (mCons (mC (.str "arcsine")) (mCons (mC (.str "arccosine")) mNil))))))))) (mSub (mVar 4) (mC (.int 8)))) (mCons (mVar 6) mNil)))))))))))
def M_law_formula (n : Nat) : Ev → Out := (mSeq (mSetL 2 (mLst mNil)) (mSeq (mFor (mIter (mSl (mVarB 0) (mC .none) (mInt (mVar 1)))) (bName 3) (L1_law_formula n)) (mFrz [2] (mRet (mTupOf (mVarB 2))))))
def F_law_formula (n : Nat) : List D → R := bodyF 8 2 (M_law_formula n)
def M_law_moved (n : Nat) : Ev → Out := (mSeq (mIfS (mBin (memD false) (mIx (mVarB 0) (mC (.int 0))) (mTup (mCons (mC (.str "number")) (mCons (mC (.str "pi")) mNil)))) (mRetO 0) mNx) (mSeq (mIfS (mBin (eqD) (mLen (mVarB 0)) (mC (.int 2))) (mRet (mTup (mCons (mIx (mVarB 0) (mC (.int 0))) (mCons (mIxAny 1 (mIx (mVarB 0) (mC (.int 1))) (mIx (mVarB 1) (mIx (mVarB 0) (mC (.int 1))))) mNil)))) mNx) (mRet (mTup (mCons (mIx (mVarB 0) (mC (.int 0))) (mCons (mIxAny 1 (mIx (mVarB 0) (mC (.int 1))) (mIx (mVarB 1) (mIx (mVarB 0) (mC (.int 1))))) (mCons (mIxAny 1 (mIx (mVarB 0) (mC (.int 2))) (mIx (mVarB 1) (mIx (mVarB 0) (mC (.int 2))))) mNil)))))))
def F_law_moved (n : Nat) : List D → R := bodyF 2 2 (M_law_moved n)
def FB_law_moved (n : Nat) : D → List (Int × D) → R := bodyB 2 (M_law_moved n)
def L1_law (n : Nat) : Ev → Out := (mSeq (mSet 8 (mCallO (F_law_moved n) 6 (mVar 7))) (mSeq (mIfS (mBin (memX true) (mVar 8) (mVarB 5)) (mApp 5 (mVar 8)) mNx) (mApp 6 (mLix (mVarB 5) (mVar 8)))))
def L2_law (n : Nat) : Ev → Out := (mSeq (mSet 11 (mSub (mSub (mLen (mVarB 5)) (mC (.int 1))) (mVar 10))) (mIfS (mAnd2 (mBin (memX false) (mVar 11) (mVarB 9)) (mBin (memD true) (mIx (mIx (mVarB 5) (mVar 11)) (mC (.int 0))) (mTup (mCons (mC (.str "number")) (mCons (mC (.str "pi")) mNil))))) (mSet 9 (mAdd (mVar 9) (mListOf (mSl (mIx (mVarB 5) (mVar 11)) (mInt (mC (.int 1))) (mC .none))))) mNx))
def L3_law (n : Nat) : Ev → Out := (mPutOD 13 (mIx (mVarB 12) (mVar 10)) (mVar 10))
def L4_law (n : Nat) : Ev → Out := (mSeq (mSet 17 (mCall (F_steps_of n) (mCons (mVar 4) (mCons (mVar 16) mNil)))) (mIfS (mOr2 (mNot (mCall (F_law_is_integer n) (mCons (mVar 17) mNil))) (mNot (mCall (F_law_alike n) (mCons (mVar 17) (mCons (mLen (mComp (mIter (mVar 4)) (bName 7) (mBin (eqD) (mIx (mVarB 7) (mC (.int 0))) (mVar 16)) (mVar 7) [7])) mNil))))) (mRet (mC (.bool false))) mNx))
def M_law (n : Nat) : Ev → Out := (mSeq (mSet 1 (mFun absD (mCons (mCall (F_law_cell n) (mCons (mVar 0) (mCons (mC (.int 0)) mNil))) mNil))) (mSeq (mSet 2 (mComp (mIter (mCall (F_law_numbers n) (mCons (mVar 0) (mCons (mC (.int 1)) (mCons (mC (.int 14)) mNil))))) (bName 3) (mC (.bool true)) (mMod (mFun int1D (mCons (mVar 3) mNil)) (mIx (mLst (mCons (mC (.int 64)) (mCons (mC (.int 4096)) (mCons (mC (.int 1048576)) mNil)))) (mMod (mFdiv (mVar 1) (mC (.int 16))) (mC (.int 3))))) [3])) (mSeq (mSet 4 (mCall (F_law_formula n) (mCons (mAdd (mVar 2) (mLst (mCons (mMod (mFdiv (mVar 1) (mC (.int 64))) (mC (.int 9))) mNil))) (mCons (mAdd (mC (.int 1)) (mMod (mFun int1D (mCons (mVar 1) mNil)) (mC (.int 15)))) mNil)))) (mSeq (mSetL 5 (mLst mNil)) (mSeq (mSetL 6 (mLst mNil)) (mSeq (mFor (mIter (mVar 4)) (bName 7) (L1_law n)) (mSeq (mFrz [5, 6] (mSet 9 (mLst (mCons (mIx (mVarB 6) (mSub (mLen (mVarB 6)) (mC (.int 1)))) mNil)))) (mSeq (mFor (mRng1 (mCons (mLen (mVarB 5)) mNil)) (bName 10) (L2_law n)) (mSeq (mSet 12 (mSortSet (mVar 9))) (mSeq (mSetOD 13) (mSeq (mFor (mRng1 (mCons (mLen (mVarB 12)) mNil)) (bName 10) (L3_law n)) (mSeq (mSet 14 (mTupOf (mComp (mIter (mVar 12)) (bName 11) (mC (.bool true)) (mCallD (FB_law_moved n) 13 (mIx (mVarB 5) (mVar 11))) [11]))) (mSeq (mSet 15 (mCall (F_tidied n) (mCons (mVar 4) mNil))) (mSeq (mIfS (mOr2 (mNot (mInst "tuple" (mVar 15))) (mOr2 (mNot (mCall (F_law_alike n) (mCons (mVar 15) (mCons (mVar 14) mNil)))) (mOr2 (mBin (isD true) (mCall (F_is_formula n) (mCons (mVar 15) mNil)) (mC (.bool true))) (mBin (neD) (mCall (F_tidied n) (mCons (mVar 15) mNil)) (mVar 15))))) (mRet (mC (.bool false))) mNx) (mSeq (mFor (mIter (mTup (mCons (mC (.str "number")) (mCons (mC (.str "pi")) (mCons (mC (.str "add")) (mCons (mC (.str "times")) (mCons (mC (.str "root")) (mCons (mC (.str "log")) mNil)))))))) (bName 16) (L4_law n)) (mRet (mC (.bool true))))))))))))))))))
def F_law (n : Nat) : List D → R := bodyF 18 1 (M_law n)
/-! ## what the top has left -/
structure Tx (K : PySem.W.Frag) (mg : Str → Option Value) : Prop where
  b_abs : mg "abs" = none
  b_bool : mg "bool" = none
  b_enumerate : mg "enumerate" = none
  b_int : mg "int" = none
  b_isinstance : mg "isinstance" = none
  b_len : mg "len" = none
  b_list : mg "list" = none
  b_max : mg "max" = none
  b_range : mg "range" = none
  b_reversed : mg "reversed" = none
  b_set : mg "set" = none
  b_sorted : mg "sorted" = none
  b_str : mg "str" = none
  b_tuple : mg "tuple" = none
  c_PAIRS : GlD K mg "PAIRS" (.tuple [(.str "add"), (.str "subtract"), (.str "times"), (.str "divide")])
  c_SINGLES : GlD K mg "SINGLES" (.tuple [(.str "root"), (.str "sine"), (.str "cosine"), (.str "exp"), (.str "log"), (.str "arctan"), (.str "arcsine"), (.str "arccosine")])
  d_is_integer : ∃ fd, DefAt K mg "is_integer" s_is_integer ["value"] (He.ga K "is_integer") fd
  d_arguments_of : ∃ fd, DefAt K mg "arguments_of" s_arguments_of ["step"] (He.ga K "arguments_of") fd
  d_is_step : ∃ fd, DefAt K mg "is_step" s_is_step ["value", "count"] (He.ga K "is_step") fd
  d_is_formula : ∃ fd, DefAt K mg "is_formula" s_is_formula ["value"] (He.ga K "is_formula") fd
  d_replaced : ∃ fd, DefAt K mg "replaced" s_replaced ["step", "places"] (He.ga K "replaced") fd
  d_tidied : ∃ fd, DefAt K mg "tidied" s_tidied ["formula"] (He.ga K "tidied") fd
  d_steps_of : ∃ fd, DefAt K mg "steps_of" s_steps_of ["formula", "word"] (He.ga K "steps_of") fd
  d_law_alike : ∃ fd, DefAt K mg "_law_alike" s_law_alike ["actual", "due"] (He.ga K "_law_alike") fd
  d_law_cell : ∃ fd, DefAt K mg "_law_cell" s_law_cell ["script", "k"] (He.ga K "_law_cell") fd
  d_law_numbers : ∃ fd, DefAt K mg "_law_numbers" s_law_numbers ["script", "first", "most"] (He.ga K "_law_numbers") fd
  d_law_is_integer : ∃ fd, DefAt K mg "_law_is_integer" s_law_is_integer ["actual"] (He.ga K "_law_is_integer") fd
  d_law_formula : ∃ fd, DefAt K mg "_law_formula" s_law_formula ["numbers", "most"] (He.ga K "_law_formula") fd
  d_law_moved : ∃ fd, DefAt K mg "_law_moved" s_law_moved ["step", "places"] (He.ga K "_law_moved") fd
  d_law : ∃ fd, DefAt K mg "law" s_law ["script"] (He.ga K "law") fd
def makers : List Str := []
section
variable [TabNames] {K : PySem.W.Frag} {mg : Str → Option Value} {base : Heap}
theorem ok_is_integer (T : Tx K mg) (n : Nat) : Fn TabNames.pg TabNames.wo K mg base 1 "is_integer" 1 (F_is_integer n) := by
  obtain ⟨fd, dA⟩ := T.d_is_integer
  exact fn_mk (k := 0) (m := M_is_integer n) 1 1 dA sc_is_integer rfl rfl fun cdv A outer s H E hr tk po => (xs_one (s_ret (xv_and (x_inst (x_var 0) T.b_isinstance T.b_int boot_int') (x_one (x_not (x_inst (x_var 0) T.b_isinstance T.b_bool boot_bool'))))))
theorem ok_arguments_of (T : Tx K mg) (n : Nat) : Fn TabNames.pg TabNames.wo K mg base 1 "arguments_of" 1 (F_arguments_of n) := by
  obtain ⟨fd, dA⟩ := T.d_arguments_of
  exact fn_mk (k := 0) (m := M_arguments_of n) 1 1 dA sc_arguments_of rfl rfl fun cdv A outer s H E hr tk po => (xs_one (s_ret (x_if (xt_cm (cIn) (x_ix (xb_var 0) x_int) (x_tup (xa_cons x_str (xa_cons x_str xa_nil)))) (x_lst xa_nil) (XL.toE (xl_listOf (XE.toB (x_sl (xb_var 0) (xo_some x_int) xo_none)) T.b_list)))))
theorem ok_is_step (T : Tx K mg) (n : Nat) : Fn TabNames.pg TabNames.wo K mg base 2 "is_step" 2 (F_is_step n) := by
  obtain ⟨fd, dA⟩ := T.d_is_step
  have G_is_integer : Fn TabNames.pg TabNames.wo K mg base 1 "is_integer" 1 (F_is_integer n) := ok_is_integer T  n
  exact fn_mk (k := 1) (m := M_is_step n) 4 2 dA sc_is_step rfl rfl fun cdv A outer s H E hr tk po => (xs_cons (s_if (XW.xt (xw_or (xt_not (xt_val (x_inst (x_var 0) T.b_isinstance T.b_tuple boot_tuple'))) (xw_or (xt_cm (cEq hr.units) (x_len (xb_var 0) T.b_len) x_int) (xw_or1 (xt_not (xt_val (x_inst (x_ix (xb_var 0) x_int) T.b_isinstance T.b_str boot_str'))))))) (xs_one (s_ret x_bl)) xs_nil) (xs_cons (s_if (xt_cm (cNe hr.units) (XL.toE (xl_comp (own := [("item", 2)]) sc_is_step.nd (x_iter (x_sl (xb_var 0) (xo_some x_int) xo_none)) (blkOk_by (by kernel_rfl)) (fun _ _ _ _ _ => (g_name 2 sc_is_step.nd)) (fun _ _ _ _ _ => (xts_one (xt_not (xt_val (x_call G_is_integer hr takes0 (xa_cons (x_var 2) xa_nil)))))) (fun _ _ _ _ _ => (x_var 2)))) (x_lst xa_nil)) (xs_one (s_ret x_bl)) xs_nil) (xs_cons (s_if (xt_cm (cEq hr.units) (x_ix (xb_var 0) x_int) x_str) (xs_one (s_ret (xv_and (x_cm (cEq hr.units) (x_len (xb_var 0) T.b_len) x_int) (x_one (x_cm (cGe) (x_ix (xb_var 0) x_int) x_int))))) xs_nil) (xs_cons (s_if (xt_cm (cEq hr.units) (x_ix (xb_var 0) x_int) x_str) (xs_one (s_ret (x_cm (cEq hr.units) (x_len (xb_var 0) T.b_len) x_int))) xs_nil) (xs_cons (s_if (XW.xt (xw_and (xt_not (XW.xt (xw_and (xt_cm (cIn) (x_ix (xb_var 0) x_int) (x_glob T.c_PAIRS)) (xw_and1 (xt_cm (cEq hr.units) (x_len (xb_var 0) T.b_len) x_int))))) (xw_and1 (xt_not (XW.xt (xw_and (xt_cm (cIn) (x_ix (xb_var 0) x_int) (x_glob T.c_SINGLES)) (xw_and1 (xt_cm (cEq hr.units) (x_len (xb_var 0) T.b_len) x_int)))))))) (xs_one (s_ret x_bl)) xs_nil) (xs_one (s_ret (x_cm (cEq hr.units) (XL.toE (xl_comp (own := [("index", 3)]) sc_is_step.nd (x_iter (x_sl (xb_var 0) (xo_some x_int) xo_none)) (blkOk_by (by kernel_rfl)) (fun _ _ _ _ _ => (g_name 3 sc_is_step.nd)) (fun _ _ _ _ _ => (xts_one (xt_not (xt_chain (cLe) (cLt) x_int (x_var 3) (x_var 1))))) (fun _ _ _ _ _ => (x_var 3)))) (x_lst xa_nil)))))))))
theorem ok_is_formula (T : Tx K mg) (n : Nat) : Fn TabNames.pg TabNames.wo K mg base 3 "is_formula" 1 (F_is_formula n) := by
  obtain ⟨fd, dA⟩ := T.d_is_formula
  have G_is_step : Fn TabNames.pg TabNames.wo K mg base 2 "is_step" 2 (F_is_step n) := ok_is_step T  n
  exact fn_mk (k := 2) (m := M_is_formula n) 3 1 dA sc_is_formula rfl rfl fun cdv A outer s H E hr tk po => (xs_cons (s_if (XW.xt (xw_or (xt_not (xt_val (x_inst (x_var 0) T.b_isinstance T.b_tuple boot_tuple'))) (xw_or1 (xt_cm (cEq hr.units) (x_len (xb_var 0) T.b_len) x_int)))) (xs_one (s_ret x_bl)) xs_nil) (xs_one (s_ret (x_cm (cEq hr.units) (XL.toE (xl_comp (own := [("count", 1), ("step", 2)]) sc_is_formula.nd (x_en (xa_cons (x_var 0) xa_nil) T.b_enumerate) (blkOk_by (by kernel_rfl)) (fun _ _ _ _ _ => (g_tup (gs_cons (g_name 1 sc_is_formula.nd) (gs_cons (g_name 2 sc_is_formula.nd) gs_nil)))) (fun _ _ _ _ _ => (xts_one (xt_not (xt_val (x_call G_is_step hr takes0 (xa_cons (x_var 2) (xa_cons (x_var 1) xa_nil))))))) (fun _ _ _ _ _ => (x_var 2)))) (x_lst xa_nil)))))
theorem ok_replaced (T : Tx K mg) (n : Nat) : Fn TabNames.pg TabNames.wo K mg base 1 "replaced" 2 (F_replaced n) := by
  obtain ⟨fd, dA⟩ := T.d_replaced
  exact fn_mk (k := 0) (m := M_replaced n) 3 2 dA sc_replaced rfl rfl fun cdv A outer s H E hr tk po => (xs_cons (s_if (xt_cm (cIn) (x_ix (xb_var 0) x_int) (x_tup (xa_cons x_str (xa_cons x_str xa_nil)))) (xs_one (s_retO 0)) xs_nil) (xs_one (s_ret (x_add (x_tup (xa_cons (x_ix (xb_var 0) x_int) xa_nil)) (x_tupOf (XE.toB (XL.toE (xl_comp (own := [("index", 2)]) sc_replaced.nd (x_iter (x_sl (xb_var 0) (xo_some x_int) xo_none)) (blkOk_by (by kernel_rfl)) (fun _ _ _ _ _ => (g_name 2 sc_replaced.nd)) (fun _ _ _ _ _ => xts_nil) (fun _ _ _ _ _ => (x_ixAny 1 (x_ixBD 1 (units1 hr) (x_var 2)) (x_ix (xb_var 1) (x_var 2))))))) T.b_tuple)))))
theorem okB_replaced (T : Tx K mg) (n : Nat) : FnB TabNames.pg TabNames.wo K mg base 1 "replaced" (FB_replaced n) := by
  obtain ⟨fd, dA⟩ := T.d_replaced
  exact fnB_mk (k := 0) (m := M_replaced n) 3 dA sc_replaced rfl rfl (by decide) fun cdv A outer s H E hr tk po => (xs_cons (s_if (xt_cm (cIn) (x_ix (xb_var 0) x_int) (x_tup (xa_cons x_str (xa_cons x_str xa_nil)))) (xs_one (s_retO 0)) xs_nil) (xs_one (s_ret (x_add (x_tup (xa_cons (x_ix (xb_var 0) x_int) xa_nil)) (x_tupOf (XE.toB (XL.toE (xl_comp (own := [("index", 2)]) sc_replaced.nd (x_iter (x_sl (xb_var 0) (xo_some x_int) xo_none)) (blkOk_by (by kernel_rfl)) (fun _ _ _ _ _ => (g_name 2 sc_replaced.nd)) (fun _ _ _ _ _ => xts_nil) (fun _ _ _ _ _ => (x_ixAny 1 (x_ixBD 1 (units1 hr) (x_var 2)) (x_ix (xb_var 1) (x_var 2))))))) T.b_tuple)))))
theorem ok_tidied (T : Tx K mg) (n : Nat) : Fn TabNames.pg TabNames.wo K mg base 2 "tidied" 1 (F_tidied n) := by
  obtain ⟨fd, dA⟩ := T.d_tidied
  have G_replaced : Fn TabNames.pg TabNames.wo K mg base 1 "replaced" 2 (F_replaced n) := ok_replaced T  n
  have G_arguments_of : Fn TabNames.pg TabNames.wo K mg base 1 "arguments_of" 1 (F_arguments_of n) := ok_arguments_of T  n
  have GB_replaced : FnB TabNames.pg TabNames.wo K mg base 1 "replaced" (FB_replaced n) := okB_replaced T  n
  exact fn_mk (k := 1) (m := M_tidied n) 12 1 dA sc_tidied rfl rfl fun cdv A outer s H E hr tk po => (xs_cons (s_setL 1 sc_tidied.nd (xl_lst xa_nil)) (xs_cons (s_setOT 2 sc_tidied.nd) (xs_cons (s_setL 3 sc_tidied.nd (xl_lst xa_nil)) (xs_cons (s_for po (x_iter (x_var 0)) (g_name 4 sc_tidied.nd) (xs_cons (s_set 5 sc_tidied.nd (x_callO 3 G_replaced hr tk (x_var 4))) (xs_cons (s_if (xt_notInOT 2 rfl rfl (units1 hr) (x_var 5)) (xs_cons (s_putOT 2 rfl rfl (units1 hr) (x_var 5) (x_len (xb_var 1) T.b_len)) (xs_one (s_app 1 (x_var 5)))) xs_nil) (xs_one (s_app 3 (x_ixOT 2 rfl rfl (units1 hr) (x_var 5))))))) (xs_cons (s_frz [1, 3] (s_set 6 sc_tidied.nd (x_ix (xb_var 3) (x_neg x_int)))) (xs_cons (s_setOD1 7 sc_tidied.nd (x_var 6) x_bl) (xs_cons (s_for po (x_revR1 (x_add (x_var 6) x_int) T.b_reversed T.b_range) (g_name 8 sc_tidied.nd) (xs_one (s_if (xt_inOD 7 (units1 hr) (x_var 8)) (xs_one (s_for po (x_iter (x_call G_arguments_of hr tk (xa_cons (x_ix (xb_var 1) (x_var 8)) xa_nil))) (g_name 9 sc_tidied.nd) (xs_one (s_putOD 7 (units1 hr) (x_var 9) x_bl)))) xs_nil))) (xs_cons (s_setDC 10 (own := [("place", 11), ("at", 8)]) sc_tidied.nd (x_en (xa_cons (x_sortOD 7 rfl T.b_sorted) xa_nil) T.b_enumerate) (blkOk_by (by kernel_rfl)) (fun _ _ _ _ _ => (g_tup (gs_cons (g_name 11 sc_tidied.nd) (gs_cons (g_name 8 sc_tidied.nd) gs_nil)))) (fun _ _ _ _ _ => xts_nil) (fun _ _ _ _ _ => (x_var 8)) (fun _ _ _ _ _ => (x_var 11))) (xs_one (s_ret (x_tupOf (XE.toB (XL.toE (xl_comp (own := [("at", 8)]) sc_tidied.nd (x_iter (x_sortOD 7 rfl T.b_sorted)) (blkOk_by (by kernel_rfl)) (fun _ _ _ _ _ => (g_name 8 sc_tidied.nd)) (fun _ _ _ _ _ => xts_nil) (fun _ _ _ _ _ => (x_callD 10 GB_replaced hr takes0 (x_ix (xb_var 1) (x_var 8))))))) T.b_tuple)))))))))))
theorem ok_steps_of (T : Tx K mg) (n : Nat) : Fn TabNames.pg TabNames.wo K mg base 1 "steps_of" 2 (F_steps_of n) := by
  obtain ⟨fd, dA⟩ := T.d_steps_of
  exact fn_mk (k := 0) (m := M_steps_of n) 3 2 dA sc_steps_of rfl rfl fun cdv A outer s H E hr tk po => (xs_one (s_ret (x_len (XE.toB (XL.toE (xl_comp (own := [("step", 2)]) sc_steps_of.nd (x_iter (x_var 0)) (blkOk_by (by kernel_rfl)) (fun _ _ _ _ _ => (g_name 2 sc_steps_of.nd)) (fun _ _ _ _ _ => (xts_one (xt_cm (cEq hr.units) (x_ix (xb_var 2) x_int) (x_var 1)))) (fun _ _ _ _ _ => (x_var 2))))) T.b_len)))
theorem ok_law_alike (T : Tx K mg) (n : Nat) : Fn TabNames.pg TabNames.wo K mg base 6 "_law_alike" 2 (F_law_alike n) := by
  have all : ∀ d, Fn TabNames.pg TabNames.wo K mg base (0 + d) "_law_alike" 2 (R_law_alike n d) := by
    obtain ⟨fd, dA⟩ := T.d_law_alike
    intro d
    induction d with
    | zero => exact fn_no dA rfl
    | succ d ih =>
      have GS := ih
      exact fn_mk (k := 0 + d) (m := M_law_alike n (R_law_alike n d)) 3 2 dA sc_law_alike rfl rfl fun cdv A outer s H E hr tk po => (xs_cons (s_if (XW.xt (xw_or (xt_val (x_inst (x_var 1) T.b_isinstance T.b_list boot_list')) (xw_or1 (xt_val (x_inst (x_var 1) T.b_isinstance T.b_tuple boot_tuple'))))) (xs_cons (s_if (XW.xt (xw_or (xt_cm (cNe hr.units) (x_inst (x_var 0) T.b_isinstance T.b_list boot_list') (x_inst (x_var 1) T.b_isinstance T.b_list boot_list')) (xw_or1 (xt_cm (cNe hr.units) (x_inst (x_var 0) T.b_isinstance T.b_tuple boot_tuple') (x_inst (x_var 1) T.b_isinstance T.b_tuple boot_tuple'))))) (xs_one (s_ret x_bl)) xs_nil) (xs_one (s_ret (xv_and (x_cm (cEq hr.units) (x_len (xb_var 0) T.b_len) (x_len (xb_var 1) T.b_len)) (x_one (x_cm (cEq hr.units) (x_len (XE.toB (XL.toE (xl_comp (own := [("k", 2)]) sc_law_alike.nd (x_rng1 (xa_cons (x_len (xb_var 1) T.b_len) xa_nil) T.b_range) (blkOk_by (by kernel_rfl)) (fun _ _ _ _ _ => (g_name 2 sc_law_alike.nd)) (fun _ _ _ _ _ => (xts_one (xt_not (xt_val (x_call GS hr takes0 (xa_cons (x_ix (xb_var 0) (x_var 2)) (xa_cons (x_ix (xb_var 1) (x_var 2)) xa_nil))))))) (fun _ _ _ _ _ => (x_var 2))))) T.b_len) x_int)))))) xs_nil) (xs_cons (s_if (XW.xt (xw_or (xt_cm (cNe hr.units) (x_inst (x_var 0) T.b_isinstance T.b_bool boot_bool') (x_inst (x_var 1) T.b_isinstance T.b_bool boot_bool')) (xw_or1 (xt_cm (cNe hr.units) (x_inst (x_var 0) T.b_isinstance T.b_int boot_int') (x_inst (x_var 1) T.b_isinstance T.b_int boot_int'))))) (xs_one (s_ret x_bl)) xs_nil) (xs_cons (s_if (XW.xt (xw_or (xt_cm (cNe hr.units) (x_inst (x_var 0) T.b_isinstance T.b_str boot_str') (x_inst (x_var 1) T.b_isinstance T.b_str boot_str')) (xw_or1 (xt_cm (cNe hr.units) (x_cm (cIs) (x_var 0) x_non) (x_cm (cIs) (x_var 1) x_non))))) (xs_one (s_ret x_bl)) xs_nil) (xs_one (s_ret (x_cm (cEq hr.units) (x_var 0) (x_var 1)))))))
  exact all 6
theorem ok_law_cell (T : Tx K mg) (n : Nat) : Fn TabNames.pg TabNames.wo K mg base 1 "_law_cell" 2 (F_law_cell n) := by
  obtain ⟨fd, dA⟩ := T.d_law_cell
  exact fn_mk (k := 0) (m := M_law_cell n) 2 2 dA sc_law_cell rfl rfl fun cdv A outer s H E hr tk po => (xs_cons (s_if (xt_cm (cLt) (x_var 1) (x_len (xb_var 0) T.b_len)) (xs_one (s_ret (x_ix (xb_var 0) (x_var 1)))) xs_nil) (xs_one (s_ret x_int)))
theorem ok_law_numbers (T : Tx K mg) (n : Nat) : Fn TabNames.pg TabNames.wo K mg base 1 "_law_numbers" 3 (F_law_numbers n) := by
  obtain ⟨fd, dA⟩ := T.d_law_numbers
  exact fn_mk (k := 0) (m := M_law_numbers n) 8 3 dA sc_law_numbers rfl rfl fun cdv A outer s H E hr tk po => (xs_cons (s_setL 3 sc_law_numbers.nd (xl_lst xa_nil)) (xs_cons (s_for po (x_rng2 (xa_cons (x_var 1) (xa_cons (x_len (xb_var 0) T.b_len) xa_nil)) T.b_range) (g_name 4 sc_law_numbers.nd) (xs_cons (s_set 5 sc_law_numbers.nd (x_abs (xa_cons (x_ix (xb_var 0) (x_var 4)) xa_nil) T.b_abs)) (xs_one (s_if (xt_cm (cGe) (x_var 5) x_int) (xs_one (s_for po (x_rng1 (xa_cons x_int xa_nil) T.b_range) (g_name 6 sc_law_numbers.nd) (xs_one (s_if (XW.xt (xw_and (xt_cm (cGt) (x_var 5) x_int) (xw_and1 (xt_cm (cLt) (x_len (xb_var 3) T.b_len) (x_var 2))))) (xs_cons (s_app 3 (x_mod (x_int1 (xa_cons (x_var 5) xa_nil) T.b_int) x_int)) (xs_one (s_set 5 sc_law_numbers.nd (x_fdiv (x_var 5) x_int)))) xs_nil)))) (xs_one (s_if (xt_cm (cLt) (x_len (xb_var 3) T.b_len) (x_var 2)) (xs_cons (s_set 7 sc_law_numbers.nd (x_mod (x_int1 (xa_cons (x_add (x_add (x_mul (x_var 5) x_int) (x_mul (x_var 4) x_int)) x_int) xa_nil) T.b_int) x_int)) (xs_cons (s_set 7 sc_law_numbers.nd (x_mod (x_int1 (xa_cons (x_add (x_mul (x_var 7) x_int) (x_fdiv (x_var 7) x_int)) xa_nil) T.b_int) x_int)) (xs_one (s_app 3 (x_mod (x_int1 (xa_cons (x_var 7) xa_nil) T.b_int) x_int))))) xs_nil)))))) (xs_one (s_retO 3))))
theorem ok_law_is_integer (T : Tx K mg) (n : Nat) : Fn TabNames.pg TabNames.wo K mg base 1 "_law_is_integer" 1 (F_law_is_integer n) := by
  obtain ⟨fd, dA⟩ := T.d_law_is_integer
  exact fn_mk (k := 0) (m := M_law_is_integer n) 1 1 dA sc_law_is_integer rfl rfl fun cdv A outer s H E hr tk po => (xs_one (s_ret (xv_and (x_inst (x_var 0) T.b_isinstance T.b_int boot_int') (x_one (x_not (x_inst (x_var 0) T.b_isinstance T.b_bool boot_bool'))))))
theorem ok_law_formula (T : Tx K mg) (n : Nat) : Fn TabNames.pg TabNames.wo K mg base 1 "_law_formula" 2 (F_law_formula n) := by
  obtain ⟨fd, dA⟩ := T.d_law_formula
  exact fn_mk (k := 0) (m := M_law_formula n) 8 2 dA sc_law_formula rfl rfl fun cdv A outer s H E hr tk po => (xs_cons (s_setL 2 sc_law_formula.nd (xl_lst xa_nil)) (xs_cons (s_for po (x_iter (x_sl (xb_var 0) xo_none (xo_some (x_var 1)))) (g_name 3 sc_law_formula.nd) (xs_cons (s_set 4 sc_law_formula.nd (x_mod (x_int1 (xa_cons (x_var 3) xa_nil) T.b_int) x_int)) (xs_cons (s_set 5 sc_law_formula.nd (x_fdiv (x_int1 (xa_cons (x_var 3) xa_nil) T.b_int) x_int)) (xs_cons (s_set 6 sc_law_formula.nd (x_mod (x_int1 (xa_cons (x_var 5) xa_nil) T.b_int) (x_max2 (xa_cons x_int (xa_cons (x_len (xb_var 2) T.b_len) xa_nil)) T.b_max))) (xs_cons (s_set 7 sc_law_formula.nd (x_mod (x_fdiv (x_var 5) x_int) (x_max2 (xa_cons x_int (xa_cons (x_len (xb_var 2) T.b_len) xa_nil)) T.b_max))) (xs_one (s_if (XW.xt (xw_or (xt_cm (cLt) (x_var 4) x_int) (xw_or1 (xt_eqB hr.units (xb_var 2) (x_lst xa_nil))))) (xs_one (s_app 2 (x_tup (xa_cons x_str (xa_cons (x_sub (x_mod (x_mul (x_int1 (xa_cons (x_var 5) xa_nil) T.b_int) x_int) x_int) x_int) (xa_cons (x_ix (XE.toB (x_lst (xa_cons x_int (xa_cons x_int (xa_cons (x_add x_int (x_mod (x_fdiv (x_var 5) x_int) x_int)) (xa_cons (x_add x_int (x_mod (x_mul (x_int1 (xa_cons (x_var 5) xa_nil) T.b_int) x_int) x_int)) xa_nil)))))) (x_mod (x_fdiv (x_var 5) x_int) x_int)) xa_nil)))))) (xs_one (s_if (xt_cm (cEq hr.units) (x_var 4) x_int) (xs_one (s_app 2 (x_tup (xa_cons x_str xa_nil)))) (xs_one (s_if (xt_cm (cLt) (x_var 4) x_int) (xs_one (s_app 2 (x_tup (xa_cons (x_ix (XE.toB (x_lst (xa_cons x_str (xa_cons x_str (xa_cons x_str (xa_cons x_str xa_nil)))))) (x_sub (x_var 4) x_int)) (xa_cons (x_var 6) (xa_cons (x_var 7) xa_nil)))))) (xs_one (s_app 2 (x_tup (xa_cons (x_ix (XE.toB (x_lst (xa_cons x_str (xa_cons x_str (xa_cons x_str (xa_cons x_str (xa_cons x_str (xa_cons x_str (xa_cons x_str (xa_cons x_str xa_nil)))))))))) (x_sub (x_var 4) x_int)) (xa_cons (x_var 6) xa_nil)))))))))))))))) (xs_one (s_frz [2] (s_ret (x_tupOf (xb_var 2) T.b_tuple))))))
theorem ok_law_moved (T : Tx K mg) (n : Nat) : Fn TabNames.pg TabNames.wo K mg base 1 "_law_moved" 2 (F_law_moved n) := by
  obtain ⟨fd, dA⟩ := T.d_law_moved
  exact fn_mk (k := 0) (m := M_law_moved n) 2 2 dA sc_law_moved rfl rfl fun cdv A outer s H E hr tk po => (xs_cons (s_if (xt_cm (cIn) (x_ix (xb_var 0) x_int) (x_tup (xa_cons x_str (xa_cons x_str xa_nil)))) (xs_one (s_retO 0)) xs_nil) (xs_cons (s_if (xt_cm (cEq hr.units) (x_len (xb_var 0) T.b_len) x_int) (xs_one (s_ret (x_tup (xa_cons (x_ix (xb_var 0) x_int) (xa_cons (x_ixAny 1 (x_ixBD 1 (units1 hr) (x_ix (xb_var 0) x_int)) (x_ix (xb_var 1) (x_ix (xb_var 0) x_int))) xa_nil))))) xs_nil) (xs_one (s_ret (x_tup (xa_cons (x_ix (xb_var 0) x_int) (xa_cons (x_ixAny 1 (x_ixBD 1 (units1 hr) (x_ix (xb_var 0) x_int)) (x_ix (xb_var 1) (x_ix (xb_var 0) x_int))) (xa_cons (x_ixAny 1 (x_ixBD 1 (units1 hr) (x_ix (xb_var 0) x_int)) (x_ix (xb_var 1) (x_ix (xb_var 0) x_int))) xa_nil))))))))
theorem okB_law_moved (T : Tx K mg) (n : Nat) : FnB TabNames.pg TabNames.wo K mg base 1 "_law_moved" (FB_law_moved n) := by
  obtain ⟨fd, dA⟩ := T.d_law_moved
  exact fnB_mk (k := 0) (m := M_law_moved n) 2 dA sc_law_moved rfl rfl (by decide) fun cdv A outer s H E hr tk po => (xs_cons (s_if (xt_cm (cIn) (x_ix (xb_var 0) x_int) (x_tup (xa_cons x_str (xa_cons x_str xa_nil)))) (xs_one (s_retO 0)) xs_nil) (xs_cons (s_if (xt_cm (cEq hr.units) (x_len (xb_var 0) T.b_len) x_int) (xs_one (s_ret (x_tup (xa_cons (x_ix (xb_var 0) x_int) (xa_cons (x_ixAny 1 (x_ixBD 1 (units1 hr) (x_ix (xb_var 0) x_int)) (x_ix (xb_var 1) (x_ix (xb_var 0) x_int))) xa_nil))))) xs_nil) (xs_one (s_ret (x_tup (xa_cons (x_ix (xb_var 0) x_int) (xa_cons (x_ixAny 1 (x_ixBD 1 (units1 hr) (x_ix (xb_var 0) x_int)) (x_ix (xb_var 1) (x_ix (xb_var 0) x_int))) (xa_cons (x_ixAny 1 (x_ixBD 1 (units1 hr) (x_ix (xb_var 0) x_int)) (x_ix (xb_var 1) (x_ix (xb_var 0) x_int))) xa_nil))))))))
theorem ok_law (T : Tx K mg) (n : Nat) {fd : FuncData} (dA : DefAt K mg "law" s_law ["script"] (He.ga K "law") fd) : FnOk TabNames.pg TabNames.wo K mg base (L2.CX TabNames.pg TabNames.wo) 7 (He.ga K "law") fd ["script"] (SpF K mg 1 (F_law n)) := by
  have G_law_cell : Fn TabNames.pg TabNames.wo K mg base 1 "_law_cell" 2 (F_law_cell n) := ok_law_cell T  n
  have G_law_numbers : Fn TabNames.pg TabNames.wo K mg base 1 "_law_numbers" 3 (F_law_numbers n) := ok_law_numbers T  n
  have G_law_formula : Fn TabNames.pg TabNames.wo K mg base 1 "_law_formula" 2 (F_law_formula n) := ok_law_formula T  n
  have G_law_moved : Fn TabNames.pg TabNames.wo K mg base 1 "_law_moved" 2 (F_law_moved n) := ok_law_moved T  n
  have G_tidied : Fn TabNames.pg TabNames.wo K mg base 2 "tidied" 1 (F_tidied n) := ok_tidied T  n
  have G_is_formula : Fn TabNames.pg TabNames.wo K mg base 3 "is_formula" 1 (F_is_formula n) := ok_is_formula T  n
  have G_law_alike : Fn TabNames.pg TabNames.wo K mg base 6 "_law_alike" 2 (F_law_alike n) := ok_law_alike T  n
  have G_steps_of : Fn TabNames.pg TabNames.wo K mg base 1 "steps_of" 2 (F_steps_of n) := ok_steps_of T  n
  have G_law_is_integer : Fn TabNames.pg TabNames.wo K mg base 1 "_law_is_integer" 1 (F_law_is_integer n) := ok_law_is_integer T  n
  have GB_law_moved : FnB TabNames.pg TabNames.wo K mg base 1 "_law_moved" (FB_law_moved n) := okB_law_moved T  n
  exact fn_ok (k := 6) (m := M_law n) 18 1 dA sc_law rfl rfl fun cdv A outer s H E hr tk po => (xs_cons (s_set 1 sc_law.nd (x_abs (xa_cons (x_call G_law_cell hr tk (xa_cons (x_var 0) (xa_cons x_int xa_nil))) xa_nil) T.b_abs)) (xs_cons (s_setLcD 2 (own := [("number", 3)]) sc_law.nd (x_iter (x_call G_law_numbers hr tk (xa_cons (x_var 0) (xa_cons x_int (xa_cons x_int xa_nil))))) (blkOk_by (by kernel_rfl)) (fun _ _ _ _ _ => (g_name 3 sc_law.nd)) (fun _ _ _ _ _ => xts_nil) (fun _ _ _ _ _ => (x_mod (x_int1 (xa_cons (x_var 3) xa_nil) T.b_int) (x_ix (XE.toB (x_lst (xa_cons x_int (xa_cons x_int (xa_cons x_int xa_nil))))) (x_mod (x_fdiv (x_var 1) x_int) x_int))))) (xs_cons (s_set 4 sc_law.nd (x_call G_law_formula hr tk (xa_cons (x_add (x_var 2) (x_lst (xa_cons (x_mod (x_fdiv (x_var 1) x_int) x_int) xa_nil))) (xa_cons (x_add x_int (x_mod (x_int1 (xa_cons (x_var 1) xa_nil) T.b_int) x_int)) xa_nil)))) (xs_cons (s_setL 5 sc_law.nd (xl_lst xa_nil)) (xs_cons (s_setL 6 sc_law.nd (xl_lst xa_nil)) (xs_cons (s_for po (x_iter (x_var 4)) (g_name 7 sc_law.nd) (xs_cons (s_set 8 sc_law.nd (x_callO 6 G_law_moved hr tk (x_var 7))) (xs_cons (s_if (xt_niX (units65 hr) (x_var 8) (xb_var 5)) (xs_one (s_app 5 (x_var 8))) xs_nil) (xs_one (s_app 6 (x_lix (units65 hr) (xb_var 5) (x_var 8))))))) (xs_cons (s_frz [5, 6] (s_set 9 sc_law.nd (x_lst (xa_cons (x_ix (xb_var 6) (x_sub (x_len (xb_var 6) T.b_len) x_int)) xa_nil)))) (xs_cons (s_for po (x_rng1 (xa_cons (x_len (xb_var 5) T.b_len) xa_nil) T.b_range) (g_name 10 sc_law.nd) (xs_cons (s_set 11 sc_law.nd (x_sub (x_sub (x_len (xb_var 5) T.b_len) x_int) (x_var 10))) (xs_one (s_if (XW.xt (xw_and (xt_inX (units65 hr) (x_var 11) (xb_var 9)) (xw_and1 (xt_cm (cNotIn) (x_ix (XE.toB (x_ix (xb_var 5) (x_var 11))) x_int) (x_tup (xa_cons x_str (xa_cons x_str xa_nil))))))) (xs_one (s_set 9 sc_law.nd (x_add (x_var 9) (XL.toE (xl_listOf (XE.toB (x_sl (XE.toB (x_ix (xb_var 5) (x_var 11))) (xo_some x_int) xo_none)) T.b_list))))) xs_nil)))) (xs_cons (s_set 12 sc_law.nd (x_sortSet (x_var 9) T.b_sorted T.b_set)) (xs_cons (s_setOD 13 sc_law.nd) (xs_cons (s_for po (x_rng1 (xa_cons (x_len (xb_var 12) T.b_len) xa_nil) T.b_range) (g_name 10 sc_law.nd) (xs_one (s_putOD 13 (units1 hr) (x_ix (xb_var 12) (x_var 10)) (x_var 10)))) (xs_cons (s_set 14 sc_law.nd (x_tupOf (XE.toB (XL.toE (xl_comp (own := [("at", 11)]) sc_law.nd (x_iter (x_var 12)) (blkOk_by (by kernel_rfl)) (fun _ _ _ _ _ => (g_name 11 sc_law.nd)) (fun _ _ _ _ _ => xts_nil) (fun _ _ _ _ _ => (x_callD 13 GB_law_moved hr takes0 (x_ix (xb_var 5) (x_var 11))))))) T.b_tuple)) (xs_cons (s_set 15 sc_law.nd (x_call G_tidied hr tk (xa_cons (x_var 4) xa_nil))) (xs_cons (s_if (XW.xt (xw_or (xt_not (xt_val (x_inst (x_var 15) T.b_isinstance T.b_tuple boot_tuple'))) (xw_or (xt_not (xt_val (x_call G_law_alike hr tk (xa_cons (x_var 15) (xa_cons (x_var 14) xa_nil))))) (xw_or (xt_cm (cIsNot) (x_call G_is_formula hr tk (xa_cons (x_var 15) xa_nil)) x_bl) (xw_or1 (xt_cm (cNe hr.units) (x_call G_tidied hr tk (xa_cons (x_var 15) xa_nil)) (x_var 15))))))) (xs_one (s_ret x_bl)) xs_nil) (xs_cons (s_for po (x_iter (x_tup (xa_cons x_str (xa_cons x_str (xa_cons x_str (xa_cons x_str (xa_cons x_str (xa_cons x_str xa_nil)))))))) (g_name 16 sc_law.nd) (xs_cons (s_set 17 sc_law.nd (x_call G_steps_of hr tk (xa_cons (x_var 4) (xa_cons (x_var 16) xa_nil)))) (xs_one (s_if (XW.xt (xw_or (xt_not (xt_val (x_call G_law_is_integer hr tk (xa_cons (x_var 17) xa_nil)))) (xw_or1 (xt_not (xt_val (x_call G_law_alike hr tk (xa_cons (x_var 17) (xa_cons (x_len (XE.toB (XL.toE (xl_comp (own := [("step", 7)]) sc_law.nd (x_iter (x_var 4)) (blkOk_by (by kernel_rfl)) (fun _ _ _ _ _ => (g_name 7 sc_law.nd)) (fun _ _ _ _ _ => (xts_one (xt_cm (cEq hr.units) (x_ix (xb_var 7) x_int) (x_var 16)))) (fun _ _ _ _ _ => (x_var 7))))) T.b_len) xa_nil)))))))) (xs_one (s_ret x_bl)) xs_nil)))) (xs_one (s_ret x_bl)))))))))))))))))
end
/-! ## the head -/
def fn : List He.DefD := [mkDef "is_integer" s_is_integer, mkDef "arguments_of" s_arguments_of, mkDef "is_step" s_is_step, mkDef "is_formula" s_is_formula, mkDef "replaced" s_replaced, mkDef "tidied" s_tidied, mkDef "steps_of" s_steps_of, mkDef "_law_alike" s_law_alike, mkDef "_law_cell" s_law_cell, mkDef "_law_numbers" s_law_numbers, mkDef "_law_is_integer" s_law_is_integer, mkDef "_law_formula" s_law_formula, mkDef "_law_moved" s_law_moved, mkDef "law" s_law]
def fs : List Fk := [kFree "abs",
  kFree "bool",
  kFree "enumerate",
  kFree "int",
  kFree "isinstance",
  kFree "len",
  kFree "list",
  kFree "max",
  kFree "range",
  kFree "reversed",
  kFree "set",
  kFree "sorted",
  kFree "str",
  kFree "tuple",
  kTup "PAIRS" [.str "add", .str "subtract", .str "times", .str "divide"],
  kTup "SINGLES" [.str "root", .str "sine", .str "cosine", .str "exp", .str "log", .str "arctan", .str "arcsine", .str "arccosine"],
  kGlo "is_integer",
  kGlo "arguments_of",
  kGlo "is_step",
  kGlo "is_formula",
  kGlo "replaced",
  kGlo "tidied",
  kGlo "steps_of",
  kGlo "_law_alike",
  kGlo "_law_cell",
  kGlo "_law_numbers",
  kGlo "_law_is_integer",
  kGlo "_law_formula",
  kGlo "_law_moved",
  kGlo "law"]
theorem tx_of {K : PySem.W.Frag} {h : Heap} {mg : Str → Option Value} (KX : K.In h) (G : h.Ns mainGlobals mg) (c : obsK fs fn K = wantK fn) : Tx K mg :=
  ⟨free_of KX G (fact_at c 0),
  free_of KX G (fact_at c 1),
  free_of KX G (fact_at c 2),
  free_of KX G (fact_at c 3),
  free_of KX G (fact_at c 4),
  free_of KX G (fact_at c 5),
  free_of KX G (fact_at c 6),
  free_of KX G (fact_at c 7),
  free_of KX G (fact_at c 8),
  free_of KX G (fact_at c 9),
  free_of KX G (fact_at c 10),
  free_of KX G (fact_at c 11),
  free_of KX G (fact_at c 12),
  free_of KX G (fact_at c 13),
  tup_of KX G (fact_at c 14),
  tup_of KX G (fact_at c 15),
  defAt_of KX G (fact_at c 16) (def_at c 0) (fun _ _ _ _ _ _ us hl => match us, hl with | [_], _ => rfl),
  defAt_of KX G (fact_at c 17) (def_at c 1) (fun _ _ _ _ _ _ us hl => match us, hl with | [_], _ => rfl),
  defAt_of KX G (fact_at c 18) (def_at c 2) (fun _ _ _ _ _ _ us hl => match us, hl with | [_, _], _ => rfl),
  defAt_of KX G (fact_at c 19) (def_at c 3) (fun _ _ _ _ _ _ us hl => match us, hl with | [_], _ => rfl),
  defAt_of KX G (fact_at c 20) (def_at c 4) (fun _ _ _ _ _ _ us hl => match us, hl with | [_, _], _ => rfl),
  defAt_of KX G (fact_at c 21) (def_at c 5) (fun _ _ _ _ _ _ us hl => match us, hl with | [_], _ => rfl),
  defAt_of KX G (fact_at c 22) (def_at c 6) (fun _ _ _ _ _ _ us hl => match us, hl with | [_, _], _ => rfl),
  defAt_of KX G (fact_at c 23) (def_at c 7) (fun _ _ _ _ _ _ us hl => match us, hl with | [_, _], _ => rfl),
  defAt_of KX G (fact_at c 24) (def_at c 8) (fun _ _ _ _ _ _ us hl => match us, hl with | [_, _], _ => rfl),
  defAt_of KX G (fact_at c 25) (def_at c 9) (fun _ _ _ _ _ _ us hl => match us, hl with | [_, _, _], _ => rfl),
  defAt_of KX G (fact_at c 26) (def_at c 10) (fun _ _ _ _ _ _ us hl => match us, hl with | [_], _ => rfl),
  defAt_of KX G (fact_at c 27) (def_at c 11) (fun _ _ _ _ _ _ us hl => match us, hl with | [_, _], _ => rfl),
  defAt_of KX G (fact_at c 28) (def_at c 12) (fun _ _ _ _ _ _ us hl => match us, hl with | [_, _], _ => rfl),
  defAt_of KX G (fact_at c 29) (def_at c 13) (fun _ _ _ _ _ _ us hl => match us, hl with | [_], _ => rfl)⟩
def loose0 : List PySem.Str := ["PAIRS", "SINGLES", "is_integer", "arguments_of", "is_step", "is_formula", "replaced", "tidied", "steps_of", "_law_alike", "_law_cell", "_law_numbers", "_law_is_integer", "_law_formula", "_law_moved"]
def loose : List PySem.Str := loose0
abbrev Rw : PySem.W.OpenRow := PySem.W.OpenLaw.row PySem.Challenge.rw_portolan_k08_formulas_tidied
abbrev hk : PySem.W.Hook := hookK 2 fs fn
def ob (s : PySem.W.SharedT) : ObsT := obsG 2 fs fn (HandSHeadRun.getT s)
theorem ob_eq (s : PySem.W.SharedT) : ob s = hk.obs s.abs := obsG_eq (HandSHeadRun.getT_eq s)
theorem run (w : World) : HandSHeadRun.RunEq Rw (PySem.W.view Rw.prog [17]) hk ob 3000 loose w := by
  intro os
  kernel_rfl
section
variable [TabNames] {n : Nat}
theorem v_cell (ns : List Int) (h : ns.length ≤ 63) (k : Int) (hk : 0 ≤ k) : ∃ z, F_law_cell n [scriptD ns, .int k] = .ok (.int z) := by
  unfold scriptD
  by_cases q : k < ns.length
  · obtain ⟨d, hd, e⟩ := atI_mem (ds := ns.map PyData.int) hk (by simpa using q)
    obtain ⟨z, _, rfl⟩ := List.mem_map.mp hd
    exact ⟨z, by simp [F_law_cell, bodyF, M_law_cell, startE, q, e]⟩
  · exact ⟨0, by simp [F_law_cell, bodyF, M_law_cell, startE, q]⟩
theorem v_alike_a (k : Nat) (d : D) (h : lowD 0 d) : R_law_alike n (k + 1) [d, d] = .ok (.bool true) := by
  cases d with
  | none => simp [R_law_alike, bodyF, M_law_alike, startE]
  | bool b => simp [R_law_alike, bodyF, M_law_alike, startE]
  | int i => simp [R_law_alike, bodyF, M_law_alike, startE]
  | str z =>
    have h2 : shp (.str z) = true := h
    simp [R_law_alike, bodyF, M_law_alike, startE, eqD_ok h2 h2, eqv_str]
  | _ => exact h.elim
theorem v_alike_w (k : Nat) (ih : ∀ d, lowD k d → R_law_alike n (k + 1) [d, d] = .ok (.bool true)) (ds : List D) (x : D) (hx : ∀ i, ixD x (.int i) = R.of (atI ds i)) (hd : ∀ x ∈ ds, lowD k x) :
    compD (bName 2 [Sl.d x, Sl.d x, Sl.un]) (mNot (mCall (R_law_alike n (k + 1)) (mCons (mIx (mVarB 0) (mVar 2)) (mCons (mIx (mVarB 1) (mVar 2)) mNil)))) (mVar 2) (rangeD 0 ds.length) = .ok (.list []) := by
  refine comp_none fun d hd2 => ?_
  obtain ⟨j, hj, rfl⟩ := mem_range hd2
  exact ⟨_, rfl, by simp [hx, FL.atI_nat hj, ih _ (hd _ (List.getElem_mem hj))]⟩
theorem v_alike_l (k : Nat) (ih : ∀ d, lowD k d → R_law_alike n (k + 1) [d, d] = .ok (.bool true)) (ds : List D) (hl : ds.length < 1000000) (hd : ∀ x ∈ ds, lowD k x) : R_law_alike n (k + 1 + 1) [.list ds, .list ds] = .ok (.bool true) := by
  have hc := v_alike_w k ih ds (.list ds) (fun i => rfl) hd
  have hr := ev_rngLen hl
  have e3 : ds.length ≤ 16777216 := by omega
  have u : R_law_alike n (k + 1 + 1) = bodyF 3 2 (M_law_alike n (R_law_alike n (k + 1))) := rfl
  rw [u]
  generalize R_law_alike n (k + 1) = f at *
  simp [bodyF, M_law_alike, startE, hr, e3, hc]
theorem v_alike_t (k : Nat) (ih : ∀ d, lowD k d → R_law_alike n (k + 1) [d, d] = .ok (.bool true)) (ds : List D) (hl : ds.length < 1000000) (hd : ∀ x ∈ ds, lowD k x) : R_law_alike n (k + 1 + 1) [.tuple ds, .tuple ds] = .ok (.bool true) := by
  have hc := v_alike_w k ih ds (.tuple ds) (fun i => rfl) hd
  have hr := ev_rngLen hl
  have e3 : ds.length ≤ 16777216 := by omega
  have u : R_law_alike n (k + 1 + 1) = bodyF 3 2 (M_law_alike n (R_law_alike n (k + 1))) := rfl
  rw [u]
  generalize R_law_alike n (k + 1) = f at *
  simp [bodyF, M_law_alike, startE, hr, e3, hc]
theorem v_alike_r : ∀ (k : Nat) (d : D), lowD k d → R_law_alike n (k + 1) [d, d] = .ok (.bool true) := by
  intro k
  induction k with
  | zero => exact fun d h => v_alike_a 0 d h
  | succ k ih =>
    intro d h
    cases d with
    | none => exact v_alike_a _ _ trivial
    | bool b => exact v_alike_a _ _ trivial
    | int i => exact v_alike_a _ _ trivial
    | str z => exact v_alike_a _ _ h
    | dict kv => exact h.elim
    | list ds => exact v_alike_l k ih ds h.1 h.2
    | tuple ds => exact v_alike_t k ih ds h.1 h.2
theorem v_alike (d : D) (h : lowD 5 d) : F_law_alike n [d, d] = .ok (.bool true) := v_alike_r 5 d h
theorem v_numbers_in (ns : List Int) (sc : D) (f m at_ : Int) (hm2 : m ≤ 1000) (s6 s7 : Sl) (c : Int) (hc : 0 ≤ c) (ms : List Int) (hl : (ms.length : Int) ≤ m) (hb : ∀ z ∈ ms, 0 ≤ z ∧ z < 4096) :
    ∃ ρ', forD (bName 6) (L1_law_numbers n) (rangeD 0 60) [.d sc, .d (.int f), .d (.int m), .ol (ms.map .int), .d (.int at_), .d (.int c), s6, s7] = .nx ρ' ∧
      ∃ ms c s6, ρ' = [.d sc, .d (.int f), .d (.int m), .ol (List.map PyData.int ms), .d (.int at_), .d (.int c), s6, s7] ∧ (ms.length : Int) ≤ m ∧ ∀ z ∈ ms, 0 ≤ z ∧ z < 4096 := by
  obtain ⟨ρ', h1, ms', c', s6', h2, h3, h4, h5⟩ := for_inv (bt := bName 6) (m1 := L1_law_numbers n) (ds := rangeD 0 60)
    (P := fun k ρ => ∃ ms c s6, ρ = [.d sc, .d (.int f), .d (.int m), .ol (List.map PyData.int ms), .d (.int at_), .d (.int c), s6, s7] ∧ (ms.length : Int) ≤ m ∧ 0 ≤ c ∧ ∀ z ∈ ms, 0 ≤ z ∧ z < 4096) ⟨ms, c, s6, rfl, hl, hc, hb⟩ fun k ρ hk ⟨ms, c, s6, e, h1, h2, h3⟩ => by
      subst e
      obtain ⟨j, _, ej⟩ := mem_range (List.getElem_mem hk)
      by_cases q : 0 < c ∧ (ms.length : Int) < m
      · refine ⟨_, _, rfl, .inl ?_, ms ++ [c % 4096], c / 4096, .d (rangeD 0 60)[k], rfl, by simp; omega, by omega, fun z hz => ?_⟩
        · have e3 : ms.length < 16777216 := by omega
          simp [L1_law_numbers, q.1, q.2, e3]
        · rcases List.mem_append.mp hz with z' | z'
          · exact h3 z z'
          · rw [List.mem_singleton.mp z']
            omega
      · refine ⟨_, [.d sc, .d (.int f), .d (.int m), .ol (List.map PyData.int ms), .d (.int at_), .d (.int c), .d (rangeD 0 60)[k], s7], rfl, .inl ?_, ms, c, .d (rangeD 0 60)[k], rfl, h1, h2, h3⟩
        by_cases q1 : 0 < c
        · have q2 : ¬ (ms.length : Int) < m := fun z => q ⟨q1, z⟩
          simp [L1_law_numbers, q1, q2]
        · simp [L1_law_numbers, q1]
  exact ⟨ρ', h1, ms', c', s6', h2, h3, h5⟩
theorem v_numbers (ns : List Int) (hn : ns.length ≤ 63) (f m : Int) (hf : 0 ≤ f) (hf2 : f ≤ 1000) (hm : 0 ≤ m) (hm2 : m ≤ 1000) :
    ∃ ms : List Int, F_law_numbers n [scriptD ns, .int f, .int m] = .ok (.list (ms.map .int)) ∧ (ms.length : Int) ≤ m ∧ ∀ z ∈ ms, 0 ≤ z ∧ z < 4096 := by
  have loop : ∃ ρ', mFor (mRng2 (mCons (mVar 1) (mCons (mLen (mVarB 0)) mNil))) (bName 4) (L2_law_numbers n) [.d (scriptD ns), .d (.int f), .d (.int m), .ol [], .un, .un, .un, .un] = .nx ρ' ∧
      ∃ ms s4 s5 s6 s7, ρ' = [.d (scriptD ns), .d (.int f), .d (.int m), .ol (List.map PyData.int ms), s4, s5, s6, s7] ∧ (ms.length : Int) ≤ m ∧ ∀ z ∈ ms, 0 ≤ z ∧ z < 4096 := by
    have r1 : -4611686018427387904 ≤ (ns.length : Int) := by omega
    have r2 : (ns.length : Int) < 4611686018427387904 := by omega
    have r3 : -4611686018427387904 ≤ f := by omega
    have r4 : f < 4611686018427387904 := by omega
    have e : (mRng2 (mCons (mVar 1) (mCons (mLen (mVarB 0)) mNil))) [.d (scriptD ns), .d (.int f), .d (.int m), .ol [], .un, .un, .un, .un] = .ok (.list (rangeD f ((ns.length : Int) - f).toNat)) := by
      have e0 : lenD (scriptD ns) = .ok (.int ns.length) := by unfold scriptD; simp
      simp [e0, r1, r2, r3, r4]
    rw [ev_for, e, ev_gok, ev_forK]
    refine for_inv (P := fun _ ρ => ∃ ms s4 s5 s6 s7, ρ = [.d (scriptD ns), .d (.int f), .d (.int m), .ol (List.map PyData.int ms), s4, s5, s6, s7] ∧ (ms.length : Int) ≤ m ∧ ∀ z ∈ ms, 0 ≤ z ∧ z < 4096) ⟨[], .un, .un, .un, .un, rfl, by simpa using hm, by simp⟩ fun k ρ hk ⟨ms, s4, s5, s6, s7, e, h1, h2⟩ => ?_
    subst e
    have hk' : k < ((ns.length : Int) - f).toNat := by rw [len_range] at hk; exact hk
    have ek : (rangeD f ((ns.length : Int) - f).toNat)[k] = .int (f + (k : Int)) := by simp [rangeD]
    rw [ek]
    obtain ⟨x, hx⟩ : ∃ x, atI (ns.map PyData.int) (f + (k : Int)) = some (.int x) := by
      obtain ⟨d, hd, e⟩ := atI_mem (ds := ns.map PyData.int) (i := f + (k : Int)) (by omega) (by rw [List.length_map]; omega)
      obtain ⟨z, _, rfl⟩ := List.mem_map.mp hd
      exact ⟨z, e⟩
    have hx' : ixD (scriptD ns) (.int (f + (k : Int))) = .ok (.int x) := by unfold scriptD; simp [hx]
    obtain ⟨c, hc, c0⟩ := abs_ok x
    by_cases q : 1000000000000000000 ≤ c
    · obtain ⟨ρ', g1, ms', c', s6', g2, g3, g4⟩ := v_numbers_in (n := n) ns (scriptD ns) f m (f + (k : Int)) hm2 s6 s7 c c0 ms h1 h2
      refine ⟨_, ρ', rfl, .inl ?_, ms', _, _, s6', s7, g2, g3, g4⟩
      refine Eq.trans ?_ g1
      simp [L2_law_numbers, hx', hc, q]
    · by_cases q2 : (ms.length : Int) < m
      · refine ⟨_, _, rfl, .inl ?_, ms ++ [((c * 48271 + (f + (k : Int)) * 69621 + 12345) % 2147483647 * 69621 + (c * 48271 + (f + (k : Int)) * 69621 + 12345) % 2147483647 / 1009) % 1000003 % 4096], .d (.int (f + (k : Int))), .d (.int c), s6, .d (.int (((c * 48271 + (f + (k : Int)) * 69621 + 12345) % 2147483647 * 69621 + (c * 48271 + (f + (k : Int)) * 69621 + 12345) % 2147483647 / 1009) % 1000003)), rfl, by simp; omega, fun z hz => ?_⟩
        · have e3 : ms.length < 16777216 := by omega
          simp [L2_law_numbers, hx', hc, q, q2, e3]
        · rcases List.mem_append.mp hz with z' | z'
          · exact h2 z z'
          · rw [List.mem_singleton.mp z']
            omega
      · refine ⟨_, [.d (scriptD ns), .d (.int f), .d (.int m), .ol (List.map PyData.int ms), .d (.int (f + (k : Int))), .d (.int c), s6, s7], rfl, .inl ?_, ms, _, _, s6, s7, rfl, h1, h2⟩
        simp [L2_law_numbers, hx', hc, q, q2]
  obtain ⟨ρ', h1, ms, s4, s5, s6, s7, h2, h3, h4⟩ := loop
  refine ⟨ms, ?_, h3, h4⟩
  refine f_ret rfl ?_
  unfold M_law_numbers
  simp only [startE, List.map_cons, List.map_nil, List.length_cons, List.length_nil, Nat.reduceAdd, Nat.reduceSub, List.reduceReplicate, List.cons_append, List.nil_append, Nat.zero_add, List.replicate_zero, List.append_nil]
  refine o_setL (ds := []) (by simp) ?_
  simp only [List.set_cons_zero, List.set_cons_succ]
  refine o_nx h1 ?_
  rw [h2]
  simp
theorem v_formula (ms : List Int) (h0 : ∀ z ∈ ms, 0 ≤ z) (hl : ms.length ≤ 100) (hne : ms ≠ []) (m : Int) (m1 : 1 ≤ m) (m2 : m ≤ 50) :
    ∃ F : List Stp, F_law_formula n [.list (ms.map .int), .int m] = .ok (.tuple (F.map sd)) ∧ Wf F ∧ F.length = min m.toNat ms.length ∧ ∀ s ∈ F, s.1 = 0 → ∃ p q, s.2 = [p, q] ∧ -200 ≤ p ∧ p ≤ 200 ∧ 1 ≤ q ∧ q ≤ 60 := by
  have hlen : (ms.take m.toNat).length = min m.toNat ms.length := List.length_take
  obtain ⟨ρ', g1, F, s3, s4, s5, s6, s7, g2, g3, g4, g5⟩ := for_inv (bt := bName 3) (m1 := L1_law_formula n)
    (ds := (ms.take m.toNat).map PyData.int) (ρ := [.d (.list (ms.map .int)), .d (.int m), .ol [], .un, .un, .un, .un, .un])
    (P := fun k ρ => ∃ (F : List Stp) (s3 s4 s5 s6 s7 : Sl), ρ = [.d (.list (ms.map .int)), .d (.int m), .ol (F.map sd), s3, s4, s5, s6, s7] ∧ Wf F ∧ F.length = k ∧ ∀ s ∈ F, s.1 = 0 → ∃ p q, s.2 = [p, q] ∧ -200 ≤ p ∧ p ≤ 200 ∧ 1 ≤ q ∧ q ≤ 60) ⟨[], .un, .un, .un, .un, .un, rfl, Wf.nil, rfl, by simp⟩ fun k ρ hk ⟨F, s3, s4, s5, s6, s7, e, h1, h2, h3⟩ => by
      subst e
      have hk' : k < (ms.take m.toNat).length := by simpa using hk
      have hk2 : k < 50 := by omega
      obtain ⟨z, hz, ez⟩ : ∃ z, 0 ≤ z ∧ ((ms.take m.toNat).map PyData.int)[k] = .int z := ⟨(ms.take m.toNat)[k], h0 _ (List.mem_of_mem_take (List.getElem_mem hk')), by simp⟩
      rw [ez]
      have e3 : F.length < 16777216 := by omega
      obtain ⟨M, hM, M1, M2⟩ : ∃ M : Int, (if (F.length : Int) > 1 then (F.length : Int) else 1) = M ∧ 1 ≤ M ∧ (F ≠ [] → M = F.length) := ⟨_, rfl, by split <;> omega, fun q => by
        have : 0 < F.length := List.length_pos_iff.mpr q
        split <;> omega⟩
      have mm : ∀ x : Int, modD (.int x) (.int M) = some (.int (x % M)) := fun x => ev_modI (by omega)
      have b1 : 0 ≤ z / 16 % M ∧ z / 16 % M < M := ⟨Int.emod_nonneg _ (by omega), Int.emod_lt_of_pos _ (by omega)⟩
      have b2 : 0 ≤ z / 16 / 16 % M ∧ z / 16 / 16 % M < M := ⟨Int.emod_nonneg _ (by omega), Int.emod_lt_of_pos _ (by omega)⟩
      have en := ev_eqNil (shp_low (k := 2) (h1.lowL (by omega) 0))
      have en2 : (F.map sd = []) ↔ F = [] := List.map_eq_nil_iff
      have hlf : (F.map sd).length = F.length := List.length_map ..
      have more : ∀ s : Stp, okS F.length s → (s.1 = 0 → ∃ p q, s.2 = [p, q] ∧ -200 ≤ p ∧ p ≤ 200 ∧ 1 ≤ q ∧ q ≤ 60) → ∀ s4 s5 s6 s7 : Sl, ∃ (F' : List Stp) (t3 t4 t5 t6 t7 : Sl), [.d (.list (ms.map .int)), .d (.int m), .ol (F.map sd ++ [sd s]), .d (.int z), s4, s5, s6, s7] = [.d (.list (ms.map .int)), .d (.int m), .ol (F'.map sd), t3, t4, t5, t6, t7] ∧ Wf F' ∧ F'.length = k + 1 ∧ ∀ s ∈ F', s.1 = 0 → ∃ p q, s.2 = [p, q] ∧ -200 ≤ p ∧ p ≤ 200 ∧ 1 ≤ q ∧ q ≤ 60 := fun s hs hq s4 s5 s6 s7 =>
        ⟨F ++ [s], .d (.int z), s4, s5, s6, s7, by rw [List.map_append]; rfl, h1.app hs, by simp [h2], fun t ht => by
          rcases List.mem_append.mp ht with ht | ht
          · exact h3 t ht
          · rw [List.mem_singleton.mp ht]; exact hq⟩
      by_cases q : z % 16 < 3 ∨ F = []
      · obtain ⟨w, w1, w2, ew⟩ : ∃ w : Int, 1 ≤ w ∧ w ≤ 60 ∧ atI [PyData.int 1, .int 1, .int (1 + z / 16 / 512 % 60), .int (1 + z / 16 * 7 % 60)] (z / 16 / 4 % 4) = some (.int w) := by
          have : z / 16 / 4 % 4 = 0 ∨ z / 16 / 4 % 4 = 1 ∨ z / 16 / 4 % 4 = 2 ∨ z / 16 / 4 % 4 = 3 := by omega
          rcases this with e | e | e | e <;> rw [e]
          · exact ⟨1, by decide, by decide, by simp⟩
          · exact ⟨1, by decide, by decide, by simp⟩
          · exact ⟨1 + z / 16 / 512 % 60, by omega, by omega, by simp⟩
          · exact ⟨1 + z / 16 * 7 % 60, by omega, by omega, by simp⟩
        refine ⟨_, [.d (.list (ms.map .int)), .d (.int m), .ol (F.map sd ++ [sd (0, [z / 16 * 41 % 401 - 200, w])]), .d (.int z), .d (.int (z % 16)), .d (.int (z / 16)), .d (.int (z / 16 % M)), .d (.int (z / 16 / 16 % M))], rfl, .inl ?_, more (0, [z / 16 * 41 % 401 - 200, w]) ⟨show 0 < 14 by decide, rfl, fun _ => ⟨_, _, rfl, w1⟩, fun z => by simp at z⟩ (fun _ => ⟨_, _, rfl, by omega, by omega, w1, w2⟩) _ _ _ _⟩
        have eq : (decide (z % 16 < 3) || decide (F.map sd = [])) = true := by
          rcases q with q | q
          · simp [q]
          · simp [q]
        generalize F.map sd = Fd at *
        have hw : (PyData.str "number") = .str (Wd 0) := rfl
        by_cases q1 : z % 16 < 3
        · simp [L1_law_formula, hlf, hM, mm, q1, ew, e3, sd, hw, en]
        · have q2 : Fd = [] := by
            rw [en2]
            exact q.resolve_left q1
          rw [decide_eq_true q2] at en
          simp [L1_law_formula, hlf, hM, mm, q1, ew, e3, sd, hw, en]
      · have q1 : ¬ z % 16 < 3 := fun h => q (.inl h)
        have q2 : F ≠ [] := fun h => q (.inr h)
        have q3 : ¬ F.map sd = [] := fun h => q2 (en2.mp h)
        have M3 := M2 q2
        have qf : decide (F.map sd = []) = false := decide_eq_false q3
        rw [qf] at en
        have kinds : z % 16 = 3 ∨ z % 16 = 4 ∨ z % 16 = 5 ∨ z % 16 = 6 ∨ z % 16 = 7 ∨ z % 16 = 8 ∨ z % 16 = 9 ∨ z % 16 = 10 ∨ z % 16 = 11 ∨ z % 16 = 12 ∨ z % 16 = 13 ∨ z % 16 = 14 ∨ z % 16 = 15 := by omega
        rcases kinds with e | e | e | e | e | e | e | e | e | e | e | e | e
        · refine ⟨_, [.d (.list (ms.map .int)), .d (.int m), .ol (F.map sd ++ [sd (1, [])]), .d (.int z), .d (.int (z % 16)), .d (.int (z / 16)), .d (.int (z / 16 % M)), .d (.int (z / 16 / 16 % M))], rfl, .inl ?_, more (1, []) ⟨show 1 < 14 by decide, rfl, fun z => by simp at z, fun z => by simp at z⟩ (fun z => by simp at z) _ _ _ _⟩
          have hw : PyData.str "pi" = .str (Wd 1) := rfl
          generalize F.map sd = Fd at *
          simp [L1_law_formula, hlf, hM, mm, e3, sd, hw, en, e]
        · refine ⟨_, [.d (.list (ms.map .int)), .d (.int m), .ol (F.map sd ++ [sd (2, [z / 16 % M, z / 16 / 16 % M])]), .d (.int z), .d (.int (z % 16)), .d (.int (z / 16)), .d (.int (z / 16 % M)), .d (.int (z / 16 / 16 % M))], rfl, .inl ?_, more (2, [z / 16 % M, z / 16 / 16 % M]) ⟨show 2 < 14 by decide, rfl, fun z => by simp at z, fun _ a ha => ?_⟩ (fun z => by simp at z) _ _ _ _⟩
          · have hw : PyData.str "add" = .str (Wd 2) := rfl
            generalize F.map sd = Fd at *
            simp [L1_law_formula, hlf, hM, mm, e3, sd, hw, en, e]
          · rcases List.mem_cons.mp ha with rfl | ha
            · exact ⟨b1.1, by omega⟩
            · rw [List.mem_singleton.mp ha]; exact ⟨b2.1, by omega⟩
        · refine ⟨_, [.d (.list (ms.map .int)), .d (.int m), .ol (F.map sd ++ [sd (3, [z / 16 % M, z / 16 / 16 % M])]), .d (.int z), .d (.int (z % 16)), .d (.int (z / 16)), .d (.int (z / 16 % M)), .d (.int (z / 16 / 16 % M))], rfl, .inl ?_, more (3, [z / 16 % M, z / 16 / 16 % M]) ⟨show 3 < 14 by decide, rfl, fun z => by simp at z, fun _ a ha => ?_⟩ (fun z => by simp at z) _ _ _ _⟩
          · have hw : PyData.str "subtract" = .str (Wd 3) := rfl
            generalize F.map sd = Fd at *
            simp [L1_law_formula, hlf, hM, mm, e3, sd, hw, en, e]
          · rcases List.mem_cons.mp ha with rfl | ha
            · exact ⟨b1.1, by omega⟩
            · rw [List.mem_singleton.mp ha]; exact ⟨b2.1, by omega⟩
        · refine ⟨_, [.d (.list (ms.map .int)), .d (.int m), .ol (F.map sd ++ [sd (4, [z / 16 % M, z / 16 / 16 % M])]), .d (.int z), .d (.int (z % 16)), .d (.int (z / 16)), .d (.int (z / 16 % M)), .d (.int (z / 16 / 16 % M))], rfl, .inl ?_, more (4, [z / 16 % M, z / 16 / 16 % M]) ⟨show 4 < 14 by decide, rfl, fun z => by simp at z, fun _ a ha => ?_⟩ (fun z => by simp at z) _ _ _ _⟩
          · have hw : PyData.str "times" = .str (Wd 4) := rfl
            generalize F.map sd = Fd at *
            simp [L1_law_formula, hlf, hM, mm, e3, sd, hw, en, e]
          · rcases List.mem_cons.mp ha with rfl | ha
            · exact ⟨b1.1, by omega⟩
            · rw [List.mem_singleton.mp ha]; exact ⟨b2.1, by omega⟩
        · refine ⟨_, [.d (.list (ms.map .int)), .d (.int m), .ol (F.map sd ++ [sd (5, [z / 16 % M, z / 16 / 16 % M])]), .d (.int z), .d (.int (z % 16)), .d (.int (z / 16)), .d (.int (z / 16 % M)), .d (.int (z / 16 / 16 % M))], rfl, .inl ?_, more (5, [z / 16 % M, z / 16 / 16 % M]) ⟨show 5 < 14 by decide, rfl, fun z => by simp at z, fun _ a ha => ?_⟩ (fun z => by simp at z) _ _ _ _⟩
          · have hw : PyData.str "divide" = .str (Wd 5) := rfl
            generalize F.map sd = Fd at *
            simp [L1_law_formula, hlf, hM, mm, e3, sd, hw, en, e]
          · rcases List.mem_cons.mp ha with rfl | ha
            · exact ⟨b1.1, by omega⟩
            · rw [List.mem_singleton.mp ha]; exact ⟨b2.1, by omega⟩
        · refine ⟨_, [.d (.list (ms.map .int)), .d (.int m), .ol (F.map sd ++ [sd (6, [z / 16 % M])]), .d (.int z), .d (.int (z % 16)), .d (.int (z / 16)), .d (.int (z / 16 % M)), .d (.int (z / 16 / 16 % M))], rfl, .inl ?_, more (6, [z / 16 % M]) ⟨show 6 < 14 by decide, rfl, fun z => by simp at z, fun _ a ha => ?_⟩ (fun z => by simp at z) _ _ _ _⟩
          · have hw : PyData.str "root" = .str (Wd 6) := rfl
            generalize F.map sd = Fd at *
            simp [L1_law_formula, hlf, hM, mm, e3, sd, hw, en, e]
          · rw [List.mem_singleton.mp ha]; exact ⟨b1.1, by omega⟩
        · refine ⟨_, [.d (.list (ms.map .int)), .d (.int m), .ol (F.map sd ++ [sd (7, [z / 16 % M])]), .d (.int z), .d (.int (z % 16)), .d (.int (z / 16)), .d (.int (z / 16 % M)), .d (.int (z / 16 / 16 % M))], rfl, .inl ?_, more (7, [z / 16 % M]) ⟨show 7 < 14 by decide, rfl, fun z => by simp at z, fun _ a ha => ?_⟩ (fun z => by simp at z) _ _ _ _⟩
          · have hw : PyData.str "sine" = .str (Wd 7) := rfl
            generalize F.map sd = Fd at *
            simp [L1_law_formula, hlf, hM, mm, e3, sd, hw, en, e]
          · rw [List.mem_singleton.mp ha]; exact ⟨b1.1, by omega⟩
        · refine ⟨_, [.d (.list (ms.map .int)), .d (.int m), .ol (F.map sd ++ [sd (8, [z / 16 % M])]), .d (.int z), .d (.int (z % 16)), .d (.int (z / 16)), .d (.int (z / 16 % M)), .d (.int (z / 16 / 16 % M))], rfl, .inl ?_, more (8, [z / 16 % M]) ⟨show 8 < 14 by decide, rfl, fun z => by simp at z, fun _ a ha => ?_⟩ (fun z => by simp at z) _ _ _ _⟩
          · have hw : PyData.str "cosine" = .str (Wd 8) := rfl
            generalize F.map sd = Fd at *
            simp [L1_law_formula, hlf, hM, mm, e3, sd, hw, en, e]
          · rw [List.mem_singleton.mp ha]; exact ⟨b1.1, by omega⟩
        · refine ⟨_, [.d (.list (ms.map .int)), .d (.int m), .ol (F.map sd ++ [sd (9, [z / 16 % M])]), .d (.int z), .d (.int (z % 16)), .d (.int (z / 16)), .d (.int (z / 16 % M)), .d (.int (z / 16 / 16 % M))], rfl, .inl ?_, more (9, [z / 16 % M]) ⟨show 9 < 14 by decide, rfl, fun z => by simp at z, fun _ a ha => ?_⟩ (fun z => by simp at z) _ _ _ _⟩
          · have hw : PyData.str "exp" = .str (Wd 9) := rfl
            generalize F.map sd = Fd at *
            simp [L1_law_formula, hlf, hM, mm, e3, sd, hw, en, e]
          · rw [List.mem_singleton.mp ha]; exact ⟨b1.1, by omega⟩
        · refine ⟨_, [.d (.list (ms.map .int)), .d (.int m), .ol (F.map sd ++ [sd (10, [z / 16 % M])]), .d (.int z), .d (.int (z % 16)), .d (.int (z / 16)), .d (.int (z / 16 % M)), .d (.int (z / 16 / 16 % M))], rfl, .inl ?_, more (10, [z / 16 % M]) ⟨show 10 < 14 by decide, rfl, fun z => by simp at z, fun _ a ha => ?_⟩ (fun z => by simp at z) _ _ _ _⟩
          · have hw : PyData.str "log" = .str (Wd 10) := rfl
            generalize F.map sd = Fd at *
            simp [L1_law_formula, hlf, hM, mm, e3, sd, hw, en, e]
          · rw [List.mem_singleton.mp ha]; exact ⟨b1.1, by omega⟩
        · refine ⟨_, [.d (.list (ms.map .int)), .d (.int m), .ol (F.map sd ++ [sd (11, [z / 16 % M])]), .d (.int z), .d (.int (z % 16)), .d (.int (z / 16)), .d (.int (z / 16 % M)), .d (.int (z / 16 / 16 % M))], rfl, .inl ?_, more (11, [z / 16 % M]) ⟨show 11 < 14 by decide, rfl, fun z => by simp at z, fun _ a ha => ?_⟩ (fun z => by simp at z) _ _ _ _⟩
          · have hw : PyData.str "arctan" = .str (Wd 11) := rfl
            generalize F.map sd = Fd at *
            simp [L1_law_formula, hlf, hM, mm, e3, sd, hw, en, e]
          · rw [List.mem_singleton.mp ha]; exact ⟨b1.1, by omega⟩
        · refine ⟨_, [.d (.list (ms.map .int)), .d (.int m), .ol (F.map sd ++ [sd (12, [z / 16 % M])]), .d (.int z), .d (.int (z % 16)), .d (.int (z / 16)), .d (.int (z / 16 % M)), .d (.int (z / 16 / 16 % M))], rfl, .inl ?_, more (12, [z / 16 % M]) ⟨show 12 < 14 by decide, rfl, fun z => by simp at z, fun _ a ha => ?_⟩ (fun z => by simp at z) _ _ _ _⟩
          · have hw : PyData.str "arcsine" = .str (Wd 12) := rfl
            generalize F.map sd = Fd at *
            simp [L1_law_formula, hlf, hM, mm, e3, sd, hw, en, e]
          · rw [List.mem_singleton.mp ha]; exact ⟨b1.1, by omega⟩
        · refine ⟨_, [.d (.list (ms.map .int)), .d (.int m), .ol (F.map sd ++ [sd (13, [z / 16 % M])]), .d (.int z), .d (.int (z % 16)), .d (.int (z / 16)), .d (.int (z / 16 % M)), .d (.int (z / 16 / 16 % M))], rfl, .inl ?_, more (13, [z / 16 % M]) ⟨show 13 < 14 by decide, rfl, fun z => by simp at z, fun _ a ha => ?_⟩ (fun z => by simp at z) _ _ _ _⟩
          · have hw : PyData.str "arccosine" = .str (Wd 13) := rfl
            generalize F.map sd = Fd at *
            simp [L1_law_formula, hlf, hM, mm, e3, sd, hw, en, e]
          · rw [List.mem_singleton.mp ha]; exact ⟨b1.1, by omega⟩
  have hc := cut_t (ds := ms.map PyData.int) (b := m) (by omega)
  rw [← List.map_take] at hc
  refine ⟨F, ?_, g3, by rw [g4, List.length_map, hlen], g5⟩
  refine f_ret rfl ?_
  unfold M_law_formula
  simp only [startE, List.map_cons, List.map_nil, List.length_cons, List.length_nil, Nat.reduceAdd, Nat.reduceSub, List.reduceReplicate, List.cons_append, List.nil_append, Nat.zero_add, List.replicate_zero, List.append_nil]
  refine o_setL (ds := []) (by simp) ?_
  simp only [List.set_cons_zero, List.set_cons_succ]
  refine o_for (by simp [slD, partD, hc]) g1 ?_
  rw [g2]
  simp [frz]
theorem v_is_integer (i : Int) : F_is_integer n [.int i] = .ok (.bool true) := by simp [F_is_integer, bodyF, M_is_integer, startE]
theorem v_is_step (k : Nat) (s : Stp) (h : okS k s) : F_is_step n [sd s, .int k] = .ok (.bool true) := by
  have c1 : compD (bName 2 [.d (sd s), .d (.int k), .un, .un]) (mNot (mCall (F_is_integer n) (mCons (mVar 2) mNil))) (mVar 2) (s.2.map .int) = .ok (.list []) := comp_none fun d hd => by
    obtain ⟨i, _, rfl⟩ := List.mem_map.mp hd
    exact ⟨_, rfl, by simp [v_is_integer]⟩
  have c2 : 2 ≤ s.1 → compD (bName 3 [.d (sd s), .d (.int k), .un, .un]) (mNot (mChain (cmpI fun i j => decide (i ≤ j)) (cmpI fun i j => decide (i < j)) (mC (.int 0)) (mVar 3) (mVar 1))) (mVar 3) (s.2.map .int) = .ok (.list []) := fun h2 => comp_none fun d hd => by
    obtain ⟨i, hi, rfl⟩ := List.mem_map.mp hd
    have := h.i h2 i hi
    exact ⟨_, rfl, by simp [this.1, this.2]⟩
  have hm1 : ev_neNil0 = ev_neNil0 := rfl
  have ne := ev_neNil0
  have eqn := ev_eqNil0
  rcases h.shape with ⟨p, q, rfl, hq⟩ | rfl | ⟨c, i, j, h2, h6, rfl, _⟩ | ⟨c, i, h6, h14, rfl, _⟩
  · have e1 := eq_number (c := 0) (by decide)
    simp [sd] at c1 c2
    simp [F_is_step, bodyF, M_is_step, startE, sd, slD, partD, cut_1, c1, ne, e1, hq]
  · have e1 := eq_number (c := 1) (by decide)
    have e2 := eq_pi (c := 1) (by decide)
    simp [sd] at c1 c2
    simp [F_is_step, bodyF, M_is_step, startE, sd, slD, partD, cut_1, c1, ne, e1, e2]
  · have hc : c < 14 := by omega
    have e1 := eq_number hc
    have e2 := eq_pi hc
    have e3 := mem_pairs hc
    have e4 := mem_singles hc
    rw [decide_eq_false (by omega)] at e1 e2 e4
    rw [decide_eq_true ⟨h2, h6⟩] at e3
    have c2 := c2 h2
    simp [sd] at c1 c2
    simp [F_is_step, bodyF, M_is_step, startE, sd, slD, partD, cut_1, c1, c2, ne, eqn, e1, e2, e3, e4]
  · have e1 := eq_number h14
    have e2 := eq_pi h14
    have e3 := mem_pairs h14
    have e4 := mem_singles h14
    rw [decide_eq_false (by omega)] at e1 e2 e3
    rw [decide_eq_true h6] at e4
    have c2 := c2 (show 2 ≤ c by omega)
    simp [sd] at c1 c2
    simp [F_is_step, bodyF, M_is_step, startE, sd, slD, partD, cut_1, c1, c2, ne, eqn, e1, e2, e3, e4]
theorem v_is_formula (F : List Stp) (h : Wf F) (hl : F.length ≤ 1000) (hne : F ≠ []) : F_is_formula n [.tuple (F.map sd)] = .ok (.bool true) := by
  have c1 : compD (bTup 2 (bsCons (bName 1) (bsCons (bName 2) bsNil)) [.d (.tuple (F.map sd)), .un, .un]) (mNot (mCall (F_is_step n) (mCons (mVar 2) (mCons (mVar 1) mNil)))) (mVar 2) (zipD (rangeD 0 F.length) (F.map sd)) = .ok (.list []) := comp_none fun d hd => by
    obtain ⟨k, hk, rfl⟩ := List.mem_iff_getElem.mp hd
    have hk' : k < F.length := by simpa [zipD, rangeD] using hk
    have v := v_is_step (n := n) k F[k] (h k F[k] (List.getElem?_eq_getElem hk'))
    refine ⟨_, by simp [zipD, rangeD]; rfl, ?_⟩
    simp [v]
  have l1 : (zipD (rangeD 0 F.length) (F.map sd)).length ≤ 16777216 := by simp [zipD, rangeD]; omega
  have l2 : (F.map sd).length = F.length := List.length_map ..
  have l3 : 0 < F.length := List.length_pos_iff.mpr hne
  have l4 : ¬ ((F.length : Nat) : Int) = 0 := by omega
  have eqn := ev_eqNil0
  generalize F.map sd = Fd at *
  generalize zz : zipD (rangeD 0 F.length) Fd = zs at *
  refine f_ret rfl ?_
  unfold M_is_formula
  simp only [startE, List.map_cons, List.map_nil, List.length_cons, List.length_nil, Nat.reduceAdd, Nat.reduceSub, List.reduceReplicate, List.cons_append, List.nil_append, Nat.zero_add, List.replicate_zero, List.append_nil]
  refine o_skip (by simp [l2, hne]) ?_
  refine o_ret ?_
  simp [l2, zz]
  rw [ev_compK (by rw [ev_size]; exact l1)]
  simp [c1, eqn]
/-! ### the plain part of tidied -/
def leaf (s : Stp) : Bool := decide (s.1 < 2)
def repS (P : List Int) (s : Stp) : Stp := if s.1 < 2 then s else (s.1, s.2.map fun i => P.getD i.toNat 0)
def mvO (O : List Int) (s : Stp) : Stp := if s.1 < 2 then s else (s.1, s.2.map fun i => ((O.idxOf i : Nat) : Int))
def stK (P : List Stp × List Int) (s : Stp) : List Stp × List Int := if repS P.2 s ∈ P.1 then (P.1, P.2 ++ [((P.1.idxOf (repS P.2 s) : Nat) : Int)]) else (P.1 ++ [repS P.2 s], P.2 ++ [((P.1.length : Nat) : Int)])
def keepK (F : List Stp) : List Stp × List Int := F.foldl stK ([], [])
def argsI (K : List Stp) (v : Int) : List Int := match K[v.toNat]? with
  | some s => if s.1 < 2 then [] else s.2
  | none => []
def cloI (K : List Stp) : Nat → List Int → List Int
  | 0, U => U
  | m + 1, U => cloI K m (if ((m : Nat) : Int) ∈ U then U ++ argsI K m else U)
structure Rch (K : List Stp) (l : Int) (U : List Int) : Prop where
  t : l ∈ U
  b : ∀ u ∈ U, 0 ≤ u ∧ u ≤ l
  c : ∀ v ∈ U, ∀ a ∈ argsI K v, a ∈ U
  r : ∀ u ∈ U, u = l ∨ ∃ v ∈ U, u ∈ argsI K v
def tidO (K : List Stp) (l : Int) : List Int := setI (cloI K (l.toNat + 1) [l])
def tidG (K : List Stp) (O : List Int) : List Stp := O.map fun u => mvO O (K.getD u.toNat (1, []))
def tidy (F : List Stp) : List Stp := tidG (keepK F).1 (tidO (keepK F).1 ((keepK F).2.getLastD 0))
theorem args_lt {K : List Stp} (h : Wf K) {v : Int} (hv : 0 ≤ v) {a : Int} (ha : a ∈ argsI K v) : 0 ≤ a ∧ a < v := by
  unfold argsI at ha
  split at ha
  · rename_i s e
    split at ha
    · cases ha
    · have := (h _ s e).i (by omega) a ha
      omega
  · cases ha
/-- by ways down from the end each set of what is used has the same members -/
theorem Rch.sub {K : List Stp} (h : Wf K) {l : Int} {U V : List Int} (a : Rch K l U) (b : Rch K l V) : ∀ (k : Nat) (u : Int), l - u < k → u ∈ U → u ∈ V
  | 0, u, q, m => by have := a.b u m; omega
  | k + 1, u, q, m => by
    rcases a.r u m with rfl | ⟨v, hv, hu⟩
    · exact b.t
    · have := args_lt h (a.b v hv).1 hu
      exact b.c v (Rch.sub h a b k v (by omega) hv) u hu
theorem Rch.same {K : List Stp} (h : Wf K) {l : Int} {U V : List Int} (a : Rch K l U) (b : Rch K l V) (u : Int) : u ∈ U ↔ u ∈ V :=
  ⟨fun m => a.sub h b (l - u + 1).toNat u (by have := a.b u m; omega) m, fun m => b.sub h a (l - u + 1).toNat u (by have := b.b u m; omega) m⟩
/-- what holds while the ways are gone down -/
structure Rcm (K : List Stp) (l : Int) (m : Nat) (U : List Int) : Prop where
  t : l ∈ U
  b : ∀ u ∈ U, 0 ≤ u ∧ u ≤ l
  c : ∀ v ∈ U, (m : Int) ≤ v → ∀ a ∈ argsI K v, a ∈ U
  r : ∀ u ∈ U, u = l ∨ ∃ v ∈ U, u ∈ argsI K v
theorem Rcm.step {K : List Stp} (h : Wf K) {l : Int} {m : Nat} {U : List Int} (a : Rcm K l (m + 1) U) : Rcm K l m (if ((m : Nat) : Int) ∈ U then U ++ argsI K m else U) := by
  by_cases q : ((m : Nat) : Int) ∈ U
  · rw [if_pos q]
    have lt := fun x hx => args_lt h (v := (m : Int)) (by omega) (a := x) hx
    have mb := a.b _ q
    refine ⟨List.mem_append_left _ a.t, fun u hu => ?_, fun v hv mv x hx => ?_, fun u hu => ?_⟩
    · rcases List.mem_append.mp hu with hu | hu
      · exact a.b u hu
      · have := lt u hu; omega
    · rcases List.mem_append.mp hv with hv | hv
      · by_cases e : v = m
        · rw [e] at hx; exact List.mem_append_right _ hx
        · exact List.mem_append_left _ (a.c v hv (by omega) x hx)
      · have := lt v hv; omega
    · rcases List.mem_append.mp hu with hu | hu
      · rcases a.r u hu with e | ⟨v, hv, hx⟩
        · exact .inl e
        · exact .inr ⟨v, List.mem_append_left _ hv, hx⟩
      · exact .inr ⟨m, List.mem_append_left _ q, hu⟩
  · rw [if_neg q]
    refine ⟨a.t, a.b, fun v hv mv => ?_, a.r⟩
    have e : v ≠ m := fun z => q (z ▸ hv)
    exact a.c v hv (by omega)
theorem Rcm.clo {K : List Stp} (h : Wf K) {l : Int} : ∀ (m : Nat) {U : List Int}, Rcm K l m U → Rch K l (cloI K m U)
  | 0, U, a => ⟨a.t, a.b, fun v hv => a.c v hv (a.b v hv).1, a.r⟩
  | m + 1, U, a => Rcm.clo h m (a.step h)
theorem rcm_start {K : List Stp} {l : Int} (h0 : 0 ≤ l) {m : Nat} (hm : l < m) : Rcm K l m [l] :=
  ⟨by simp, fun u hu => by rw [List.mem_singleton.mp hu]; omega, fun v hv mv => by rw [List.mem_singleton.mp hv] at mv; omega, fun u hu => .inl (List.mem_singleton.mp hu)⟩
theorem rch_clo {K : List Stp} (h : Wf K) {l : Int} (h0 : 0 ≤ l) {m : Nat} (hm : l < m) : Rch K l (cloI K m [l]) := (rcm_start h0 hm).clo h
theorem tidO_of {K : List Stp} (h : Wf K) {l : Int} (h0 : 0 ≤ l) {U : List Int} (a : Rch K l U) {O : List Int} (up : O.Pairwise (· < ·)) (m : ∀ k, k ∈ O ↔ k ∈ U) : O = tidO K l :=
  up_uniq up (setI_up _) fun k => by
    rw [m k]
    exact (a.same h (rch_clo h h0 (by omega)) k).trans setI_mem.symm
theorem tidO_mem {K : List Stp} {l u : Int} : u ∈ tidO K l ↔ u ∈ cloI K (l.toNat + 1) [l] := setI_mem
theorem tidO_rch {K : List Stp} (h : Wf K) {l : Int} (h0 : 0 ≤ l) : Rch K l (tidO K l) := by
  have r := rch_clo h h0 (m := l.toNat + 1) (by omega)
  exact ⟨tidO_mem.mpr r.t, fun u hu => r.b u (tidO_mem.mp hu), fun v hv a ha => tidO_mem.mpr (r.c v (tidO_mem.mp hv) a ha), fun u hu => by
    rcases r.r u (tidO_mem.mp hu) with e | ⟨v, hv, hx⟩
    · exact .inl e
    · exact .inr ⟨v, tidO_mem.mpr hv, hx⟩⟩
/-! the first pass -/
structure KpOk (n : Nat) (P : List Stp × List Int) : Prop where
  w : Wf P.1
  d : P.1.Nodup
  l : P.2.length = n
  b : ∀ i ∈ P.2, 0 ≤ i ∧ i < P.1.length
  m : P.1.length ≤ n
theorem repS_ok {n k : Nat} {P : List Stp × List Int} (h : KpOk n P) {s : Stp} (hs : okS n s) : okS P.1.length (repS P.2 s) := by
  unfold repS
  split
  · exact ⟨hs.c, hs.l, hs.q, fun z => by omega⟩
  · refine ⟨hs.c, by rw [List.length_map]; exact hs.l, fun z => by simp at z; omega, fun _ a ha => ?_⟩
    obtain ⟨i, hi, rfl⟩ := List.mem_map.mp ha
    have := hs.i (by omega) i hi
    have hl : i.toNat < P.2.length := by rw [h.l]; omega
    rw [List.getD_eq_getElem?_getD, List.getElem?_eq_getElem hl, Option.getD_some]
    exact h.b _ (List.getElem_mem hl)
theorem KpOk.step {n : Nat} {P : List Stp × List Int} (h : KpOk n P) {s : Stp} (hs : okS n s) : KpOk (n + 1) (stK P s) := by
  have r := repS_ok (k := 0) h hs
  unfold stK
  generalize repS P.2 s = t at *
  by_cases q : t ∈ P.1
  · rw [if_pos q]
    refine ⟨h.w, h.d, by simp [h.l], fun i hi => ?_, by have := h.m; show P.1.length ≤ n + 1; omega⟩
    rcases List.mem_append.mp hi with hi | hi
    · exact h.b i hi
    · rw [List.mem_singleton.mp hi]
      have := List.idxOf_lt_length_iff.mpr q
      dsimp only
      omega
  · rw [if_neg q]
    refine ⟨h.w.app r, ?_, by simp [h.l], fun i hi => ?_, by have := h.m; simp; omega⟩
    · exact List.nodup_append.mpr ⟨h.d, by simp, fun a ha b hb z => q (by rw [List.mem_singleton.mp hb] at z; exact z ▸ ha)⟩
    · rcases List.mem_append.mp hi with hi | hi
      · have := h.b i hi
        simp; omega
      · rw [List.mem_singleton.mp hi]
        simp; omega
theorem keep_ok {F : List Stp} (h : Wf F) : ∀ k, k ≤ F.length → KpOk k (keepK (F.take k)) := by
  intro k
  induction k with
  | zero => exact fun _ => ⟨Wf.nil, .nil, rfl, fun i hi => by simp [keepK] at hi, Nat.le_refl _⟩
  | succ k ih =>
    intro hk
    have e : F.take (k + 1) = F.take k ++ [F[k]'(by omega)] := by rw [List.take_add_one, List.getElem?_eq_getElem (by omega)]; rfl
    rw [e]
    unfold keepK
    rw [List.foldl_append]
    exact (ih (by omega)).step (h k _ (List.getElem?_eq_getElem (by omega)))
theorem keep_all {F : List Stp} (h : Wf F) : KpOk F.length (keepK F) := by
  have := keep_ok h F.length (Nat.le_refl _)
  rwa [List.take_length] at this
/-! the result -/
theorem up_idx {O : List Int} (h : O.Pairwise (· < ·)) : ∀ {j k : Nat} (hj : j < O.length) (hk : k < O.length), O[j] < O[k] → j < k := fun {j k} hj hk q => by
  rcases Nat.lt_trichotomy j k with c | c | c
  · exact c
  · subst c; omega
  · have := List.pairwise_iff_getElem.mp h k j hk hj c
    omega
theorem idx_at {O : List Int} (h : O.Pairwise (· < ·)) {k : Nat} (hk : k < O.length) : O.idxOf O[k] = k := by
  have m : O[k] ∈ O := List.getElem_mem hk
  have l := List.idxOf_lt_length_iff.mpr m
  have e : O[O.idxOf O[k]] = O[k] := List.getElem_idxOf l
  rcases Nat.lt_trichotomy (O.idxOf O[k]) k with c | c | c
  · have := List.pairwise_iff_getElem.mp h _ k l hk c
    omega
  · exact c
  · have := List.pairwise_iff_getElem.mp h k _ hk l c
    omega
theorem args_getD {K : List Stp} {u : Int} {s : Stp} (e : K[u.toNat]? = some s) : argsI K u = if s.1 < 2 then [] else s.2 := by
  unfold argsI
  rw [e]
structure TidOk (K : List Stp) (l : Int) (O : List Int) : Prop where
  w : Wf K
  d : K.Nodup
  l0 : 0 ≤ l
  l1 : l < K.length
  up : O.Pairwise (· < ·)
  r : Rch K l O
section
variable {K : List Stp} {l : Int} {O : List Int}
theorem TidOk.at (T : TidOk K l O) {u : Int} (hu : u ∈ O) : ∃ s, K[u.toNat]? = some s ∧ K.getD u.toNat (1, []) = s ∧ okS u.toNat s := by
  have := T.r.b u hu
  have l1 := T.l1
  have hl : u.toNat < K.length := by omega
  refine ⟨_, List.getElem?_eq_getElem hl, ?_, T.w _ _ (List.getElem?_eq_getElem hl)⟩
  rw [List.getD_eq_getElem?_getD, List.getElem?_eq_getElem hl, Option.getD_some]
theorem TidOk.arg (T : TidOk K l O) {u : Int} (hu : u ∈ O) {s : Stp} (e : K[u.toNat]? = some s) (h2 : 2 ≤ s.1) {a : Int} (ha : a ∈ s.2) : a ∈ O ∧ 0 ≤ a ∧ a < u := by
  have m : a ∈ argsI K u := by rw [args_getD e, if_neg (by omega)]; exact ha
  have := args_lt T.w (T.r.b u hu).1 m
  exact ⟨T.r.c u hu a m, this⟩
theorem TidOk.wf (T : TidOk K l O) : Wf (tidG K O) := fun k t e => by
  unfold tidG at e
  rw [List.getElem?_map] at e
  cases e1 : O[k]? with
  | none => rw [e1] at e; cases e
  | some u =>
    rw [e1] at e
    cases e
    obtain ⟨hk, ek⟩ := List.getElem?_eq_some_iff.mp e1
    have hu : u ∈ O := ek ▸ List.getElem_mem hk
    obtain ⟨s, e2, e3, ok⟩ := T.at hu
    show okS k (mvO O (K.getD u.toNat (1, [])))
    rw [e3]
    unfold mvO
    split
    · exact ⟨ok.c, ok.l, ok.q, fun z => by omega⟩
    · refine ⟨ok.c, by rw [List.length_map]; exact ok.l, fun z => by simp at z; omega, fun _ a ha => ?_⟩
      obtain ⟨i, hi, rfl⟩ := List.mem_map.mp ha
      obtain ⟨m1, m2, m3⟩ := T.arg hu e2 (by omega) hi
      have lt := List.idxOf_lt_length_iff.mpr m1
      have ei : O[O.idxOf i] = i := List.getElem_idxOf lt
      have := up_idx T.up lt hk (by rw [ei, ek]; exact m3)
      omega
theorem idx_inj {a b : Int} (ha : a ∈ O) (hb : b ∈ O) (e : O.idxOf a = O.idxOf b) : a = b := by
  have la := List.idxOf_lt_length_iff.mpr ha
  have lb := List.idxOf_lt_length_iff.mpr hb
  have ea : O[O.idxOf a] = a := List.getElem_idxOf la
  have eb : O[O.idxOf b] = b := List.getElem_idxOf lb
  rw [← ea, ← eb]
  congr 1
theorem map_inj {f : Int → Int} : ∀ {x y : List Int}, (∀ a ∈ x, ∀ b ∈ y, f a = f b → a = b) → x.map f = y.map f → x = y
  | [], [], _, _ => rfl
  | [], _ :: _, _, e => by cases e
  | _ :: _, [], _, e => by cases e
  | a :: x, b :: y, h, e => by
    rw [List.map_cons, List.map_cons, List.cons.injEq] at e
    rw [h a (by simp) b (by simp) e.1, map_inj (fun a ha b hb => h a (List.mem_cons_of_mem _ ha) b (List.mem_cons_of_mem _ hb)) e.2]
theorem mvO_inj {s t : Stp} (hs : 2 ≤ s.1 → ∀ a ∈ s.2, a ∈ O) (ht : 2 ≤ t.1 → ∀ a ∈ t.2, a ∈ O) (e : mvO O s = mvO O t) : s = t := by
  obtain ⟨c, x⟩ := s
  obtain ⟨d, y⟩ := t
  unfold mvO at e
  dsimp only at e hs ht
  by_cases q : c < 2
  · by_cases q2 : d < 2
    · rw [if_pos q, if_pos q2] at e; exact e
    · rw [if_pos q, if_neg q2] at e
      have := congrArg Prod.fst e
      dsimp only at this
      omega
  · by_cases q2 : d < 2
    · rw [if_neg q, if_pos q2] at e
      have := congrArg Prod.fst e
      dsimp only at this
      omega
    · rw [if_neg q, if_neg q2, Prod.mk.injEq] at e
      rw [e.1, map_inj (fun a ha b hb z => idx_inj (hs (by omega) a ha) (ht (by omega) b hb) (Int.ofNat.inj z)) e.2]
theorem TidOk.nodup (T : TidOk K l O) : (tidG K O).Nodup := by
  unfold tidG
  rw [List.nodup_iff_pairwise_ne, List.pairwise_map]
  refine T.up.imp_of_mem fun {u v} hu hv q e => ?_
  obtain ⟨s, e1, e2, _⟩ := T.at hu
  obtain ⟨t, f1, f2, _⟩ := T.at hv
  rw [e2, f2] at e
  have st := mvO_inj (fun h a ha => (T.arg hu e1 h ha).1) (fun h a ha => (T.arg hv f1 h ha).1) e
  subst st
  obtain ⟨h1, h2⟩ := List.getElem?_eq_some_iff.mp e1
  obtain ⟨h3, h4⟩ := List.getElem?_eq_some_iff.mp f1
  have := (List.nodup_iff_pairwise_ne.mp T.d)
  have b1 := T.r.b u hu
  have b2 := T.r.b v hv
  exact List.pairwise_iff_getElem.mp this u.toNat v.toNat h1 h3 (by omega) (by rw [h2, h4])
theorem TidOk.ne (T : TidOk K l O) : tidG K O ≠ [] := fun z => by
  have m := T.r.t
  unfold tidG at z
  rw [List.map_eq_nil_iff.mp z] at m
  cases m
theorem TidOk.len (T : TidOk K l O) : O.length ≤ K.length := by
  have main : ∀ (L : List Int) (m : Nat), L.Pairwise (· < ·) → (∀ x ∈ L, (m : Int) ≤ x ∧ x < K.length) → L.length + m ≤ K.length ∨ L = [] := by
    intro L
    induction L with
    | nil => exact fun _ _ _ => .inr rfl
    | cons x L ih =>
      intro m hp hb
      have h2 := List.pairwise_cons.mp hp
      have hx := hb x (by simp)
      left
      rcases ih (m + 1) h2.2 (fun y hy => by
        have := h2.1 y hy
        have := hb y (by simp [hy])
        omega) with q | q
      · rw [List.length_cons]; omega
      · rw [q]; simp; omega
  rcases main O 0 T.up (fun x hx => by have := T.r.b x hx; have := T.l1; omega) with q | q
  · omega
  · rw [q]; simp
/-- a tidied formula: each step only once, each but the last is used -/
structure Tidy (G : List Stp) : Prop where
  w : Wf G
  d : G.Nodup
  n : G ≠ []
  u : ∀ k : Nat, k < G.length → k + 1 = G.length ∨ ∃ j : Nat, (k : Int) ∈ argsI G j ∧ j < G.length
theorem TidOk.tidy (T : TidOk K l O) : Tidy (tidG K O) := by
  refine ⟨T.wf, T.nodup, T.ne, fun k hk => ?_⟩
  have lg : (tidG K O).length = O.length := by unfold tidG; rw [List.length_map]
  rw [lg] at hk ⊢
  have hu : O[k] ∈ O := List.getElem_mem hk
  rcases T.r.r _ hu with e | ⟨v, hv, ha⟩
  · left
    rcases Nat.lt_or_ge (k + 1) O.length with c | c
    · have := List.pairwise_iff_getElem.mp T.up k (k + 1) hk c (by omega)
      have := T.r.b _ (List.getElem_mem c)
      omega
    · omega
  · right
    have lv := List.idxOf_lt_length_iff.mpr hv
    have ev : O[O.idxOf v] = v := List.getElem_idxOf lv
    obtain ⟨s, e1, e2, _⟩ := T.at hv
    rw [args_getD e1] at ha
    split at ha
    · cases ha
    · rename_i h2
      refine ⟨O.idxOf v, ?_, lv⟩
      have eg : (tidG K O)[((O.idxOf v : Nat) : Int).toNat]? = some (mvO O s) := by
        unfold tidG
        rw [Int.toNat_natCast, List.getElem?_map, List.getElem?_eq_getElem lv, ev, Option.map_some, e2]
      rw [args_getD eg]
      unfold mvO
      rw [if_neg h2]
      dsimp only
      rw [if_neg h2]
      refine List.mem_map.mpr ⟨O[k], ha, ?_⟩
      rw [idx_at T.up hk]
end
/-! tidied again -/
theorem up_range (m : Nat) : ((List.range m).map fun k => ((k : Nat) : Int)).Pairwise (· < ·) := by
  rw [List.pairwise_map]
  exact List.pairwise_lt_range.imp fun h => by omega
theorem rep_self {k : Nat} {s : Stp} (h : okS k s) : repS ((List.range k).map fun j => ((j : Nat) : Int)) s = s := by
  obtain ⟨c, x⟩ := s
  unfold repS
  split
  · rfl
  · rename_i q
    dsimp only at q ⊢
    congr 1
    have hx := h.i (by show 2 ≤ c; omega)
    dsimp only at hx
    clear h
    induction x with
    | nil => rfl
    | cons a x ih =>
      have := hx a (by simp)
      rw [List.map_cons, ih fun b hb => hx b (by simp [hb])]
      congr 1
      rw [List.getD_eq_getElem?_getD, List.getElem?_map, List.getElem?_range (by omega)]
      show ((a.toNat : Nat) : Int) = a
      omega
theorem keep_self {G : List Stp} (h : Wf G) (d : G.Nodup) : ∀ k, k ≤ G.length → keepK (G.take k) = (G.take k, (List.range k).map fun j => ((j : Nat) : Int)) := by
  intro k
  induction k with
  | zero => exact fun _ => rfl
  | succ k ih =>
    intro hk
    have e : G.take (k + 1) = G.take k ++ [G[k]'(by omega)] := by rw [List.take_add_one, List.getElem?_eq_getElem (by omega)]; rfl
    rw [e]
    unfold keepK
    rw [List.foldl_append]
    show stK (keepK (G.take k)) _ = _
    rw [ih (by omega)]
    unfold stK
    rw [rep_self (h k _ (List.getElem?_eq_getElem (by omega)))]
    have no : ¬ G[k]'(by omega) ∈ G.take k := fun m => by
      obtain ⟨j, hj, ej⟩ := List.mem_iff_getElem.mp m
      have hj2 : j < k ∧ j < G.length := by rw [List.length_take] at hj; omega
      rw [List.getElem_take] at ej
      exact List.pairwise_iff_getElem.mp (List.nodup_iff_pairwise_ne.mp d) j k hj2.2 (by omega) hj2.1 ej
    dsimp only
    rw [if_neg no, List.range_succ, List.map_append]
    have : (G.take k).length = k := by rw [List.length_take]; omega
    rw [this]
    rfl
theorem mv_self {m : Nat} {s : Stp} {k : Nat} (h : okS k s) (hk : k ≤ m) : mvO ((List.range m).map fun j => ((j : Nat) : Int)) s = s := by
  obtain ⟨c, x⟩ := s
  unfold mvO
  split
  · rfl
  · rename_i q
    dsimp only at q ⊢
    congr 1
    have hx := h.i (by show 2 ≤ c; omega)
    dsimp only at hx
    clear h
    induction x with
    | nil => rfl
    | cons a x ih =>
      have := hx a (by simp)
      rw [List.map_cons, ih fun b hb => hx b (by simp [hb])]
      congr 1
      have hl : a.toNat < ((List.range m).map fun j => ((j : Nat) : Int)).length := by rw [List.length_map, List.length_range]; omega
      have ea : ((List.range m).map fun j => ((j : Nat) : Int))[a.toNat] = a := by
        rw [List.getElem_map, List.getElem_range]; omega
      have := idx_at (up_range m) hl
      rw [ea] at this
      omega
theorem Tidy.same {G : List Stp} (T : Tidy G) : tidy G = G := by
  have hk := keep_self T.w T.d G.length (Nat.le_refl _)
  rw [List.take_length] at hk
  have n0 := List.length_pos_iff.mpr T.n
  have el : ((List.range G.length).map fun j => ((j : Nat) : Int)).getLastD 0 = ((G.length - 1 : Nat) : Int) := by
    obtain ⟨m, em⟩ : ∃ m, G.length = m + 1 := ⟨G.length - 1, by omega⟩
    rw [em, List.range_succ, List.map_append]
    simp
  have r : Rch G ((G.length - 1 : Nat) : Int) ((List.range G.length).map fun j => ((j : Nat) : Int)) := by
    refine ⟨List.mem_map.mpr ⟨_, List.mem_range.mpr (by omega), rfl⟩, fun u hu => ?_, fun v hv a ha => ?_, fun u hu => ?_⟩
    · obtain ⟨j, hj, rfl⟩ := List.mem_map.mp hu
      have := List.mem_range.mp hj
      omega
    · obtain ⟨j, hj, rfl⟩ := List.mem_map.mp hv
      have := List.mem_range.mp hj
      have := args_lt T.w (by omega) ha
      exact List.mem_map.mpr ⟨a.toNat, List.mem_range.mpr (by omega), by omega⟩
    · obtain ⟨j, hj, rfl⟩ := List.mem_map.mp hu
      have hj := List.mem_range.mp hj
      rcases T.u j hj with e | ⟨v, hv, hl⟩
      · left; omega
      · exact .inr ⟨v, List.mem_map.mpr ⟨v, List.mem_range.mpr hl, rfl⟩, hv⟩
  have eo : ((List.range G.length).map fun j => ((j : Nat) : Int)) = tidO G ((G.length - 1 : Nat) : Int) := tidO_of T.w (by omega) r (up_range _) fun _ => Iff.rfl
  unfold tidy
  rw [hk]
  dsimp only
  rw [el, ← eo]
  unfold tidG
  refine List.ext_getElem (by simp) fun k h1 h2 => ?_
  rw [List.getElem_map, List.getElem_map, List.getElem_range, List.getD_eq_getElem?_getD, Int.toNat_natCast, List.getElem?_eq_getElem h2, Option.getD_some]
  exact mv_self (T.w k _ (List.getElem?_eq_getElem h2)) (by omega)
theorem tid_ok {F : List Stp} (h : Wf F) (hn : F ≠ []) : TidOk (keepK F).1 ((keepK F).2.getLastD 0) (tidO (keepK F).1 ((keepK F).2.getLastD 0)) := by
  have k := keep_all h
  have n0 := List.length_pos_iff.mpr hn
  have hl : (keepK F).2 ≠ [] := fun z => by
    have := k.l
    rw [z] at this
    simp at this
    omega
  have b : 0 ≤ (keepK F).2.getLastD 0 ∧ (keepK F).2.getLastD 0 < (keepK F).1.length := by
    rw [List.getLastD_eq_getLast?, List.getLast?_eq_some_getLast hl, Option.getD_some]
    exact k.b _ (List.getLast_mem hl)
  exact ⟨k.w, k.d, b.1, b.2, setI_up _, tidO_rch k.w b.1⟩
theorem tidy_tidy {F : List Stp} (h : Wf F) (hn : F ≠ []) : Tidy (tidy F) ∧ tidy (tidy F) = tidy F := by
  have T := (tid_ok h hn).tidy
  exact ⟨T, T.same⟩
theorem tidy_len {F : List Stp} (h : Wf F) (hn : F ≠ []) : (tidy F).length ≤ F.length := by
  have a := (tid_ok h hn).len
  have := (keep_all h).m
  unfold tidy tidG
  rw [List.length_map]
  omega
/-! ### tidied computes tidy -/
def mvG (g : Int → Int) (s : Stp) : Stp := if s.1 < 2 then s else (s.1, s.2.map g)
theorem v_repl (n : Nat) (Z : Sl) (g : Int → Int) (k : Nat) (s : Stp) (h : okS k s) (H : 2 ≤ s.1 → ∀ i ∈ s.2, mIxAny 1 (mVar 2) (mIx (mVarB 1) (mVar 2)) [.d (sd s), Z, .d (.int i)] = .ok (.int (g i))) :
    M_replaced n [.d (sd s), Z, .un] = .ret (sd (mvG g s)) := by
  have e := mem_leaf h.c
  have ix : ixD (sd s) (.int 0) = .ok (.str (Wd s.1)) := by simp [sd]
  have hl : s.2.length ≤ 2 := by have := h.l; have := ar_le s.1; omega
  have sl : slD (sd s) (some 1) none = .ok (.tuple (s.2.map .int)) := by simp [sd, slD, cut_1]
  have sm : sd (mvG g s) = if s.1 < 2 then sd s else .tuple (.str (Wd s.1) :: (s.2.map fun i => .int (g i))) := by
    unfold mvG
    split
    · rfl
    · simp [sd]
  have c1 := fun h2 : 2 ≤ s.1 => comp_map (bt := bName 2 [.d (sd s), Z, .un]) (mt := mC (.bool true)) (me := mIxAny 1 (mVar 2) (mIx (mVarB 1) (mVar 2))) (fun i : Int => PyData.int i) (fun i => PyData.int (g i)) (l := s.2) fun i hi => ⟨_, rfl, rfl, H h2 i hi⟩
  clear H
  rw [sm]
  have l1 : (s.2.map PyData.int).length ≤ 16777216 := by simp; omega
  generalize sd s = S at *
  unfold M_replaced
  by_cases q : s.1 < 2
  · rw [decide_eq_true q] at e
    rw [if_pos q]
    refine o_stop (o_ifT ?_ ?_)
    · simp [ix, e]
    · simp
  · rw [decide_eq_false q] at e
    rw [if_neg q]
    have l3 : 1 + (s.2.map fun i => PyData.int (g i)).length ≤ 16777216 := by simp; omega
    refine o_skip (by simp [ix, e]) ?_
    have c1 := c1 (by omega)
    refine o_ret ?_
    have hh : mComp (mIter (mSl (mVarB 0) (mInt (mC (.int 1))) (mC .none))) (bName 2) (mC (.bool true)) (mIxAny 1 (mVar 2) (mIx (mVarB 1) (mVar 2))) [2] [.d S, Z, .un] = .ok (.list (s.2.map fun i => PyData.int (g i))) := by
      generalize hm : mIxAny 1 (mVar 2) (mIx (mVarB 1) (mVar 2)) = mm at *
      generalize (s.2.map fun i => PyData.int (g i)) = Y at *
      generalize (List.map PyData.int s.2) = W at *
      simp [sl, partD, l1, c1]
    generalize (mComp (mIter (mSl (mVarB 0) (mInt (mC (.int 1))) (mC .none))) (bName 2) (mC (.bool true)) (mIxAny 1 (mVar 2) (mIx (mVarB 1) (mVar 2))) [2]) = cc at *
    generalize (s.2.map fun i => PyData.int (g i)) = Y at *
    simp [ix, hh]
    rw [ev_addT (by rw [ev_size]; simpa using l3)]
    rfl
theorem ix_list {P : List Int} {i : Int} (h0 : 0 ≤ i) (h1 : i < P.length) : atI (P.map PyData.int) i = some (.int (P.getD i.toNat 0)) := by
  obtain ⟨k, rfl⟩ : ∃ k : Nat, i = k := ⟨i.toNat, by omega⟩
  have hk : k < P.length := by omega
  rw [FL.atI_nat (by simpa using hk)]
  simp [List.getD_eq_getElem?_getD, hk]
theorem v_replO (k : Nat) (s : Stp) (P : List Int) (h : okS k s) (hk : k ≤ P.length) : F_replaced n [sd s, .list (P.map .int)] = .ok (sd (repS P s)) :=
  f_ret rfl (v_repl n (.d (.list (P.map .int))) (fun i => P.getD i.toNat 0) k s h fun h2 i hi => by
    have := h.i h2 i hi
    have e := ix_list (P := P) (i := i) this.1 (by omega)
    simp [e])
theorem v_replB (k : Nat) (s : Stp) (O : List Int) (kvs : List (Int × D)) (h : okS k s) (hO : 2 ≤ s.1 → ∀ i ∈ s.2, getO kvs i = some (.int ((O.idxOf i : Nat) : Int))) : FB_replaced n (sd s) kvs = .ok (sd (mvO O s)) := by
  have := v_repl n (.bd kvs) (fun i => ((O.idxOf i : Nat) : Int)) k s h fun h2 i hi => by
    have e := hO h2 i hi
    simp [e]
  unfold FB_replaced bodyB FL.startB
  show bodyR (M_replaced n [.d (sd s), .bd kvs, .un]) = _
  rw [this]
  rfl
theorem v_args (k : Nat) (s : Stp) (h : okS k s) : F_arguments_of n [sd s] = .ok (.list ((if s.1 < 2 then [] else s.2).map .int)) := by
  have e := mem_leaf h.c
  have ix : ixD (sd s) (.int 0) = .ok (.str (Wd s.1)) := by simp [sd]
  have sl : slD (sd s) (some 1) none = .ok (.tuple (s.2.map .int)) := by simp [sd, slD, cut_1]
  generalize sd s = S at *
  by_cases q : s.1 < 2
  · rw [decide_eq_true q] at e
    rw [if_pos q]
    simp [F_arguments_of, bodyF, M_arguments_of, startE, ix, e]
  · rw [decide_eq_false q] at e
    rw [if_neg q]
    simp [F_arguments_of, bodyF, M_arguments_of, startE, ix, e, sl, partD]
/-! the dicts -/
structure KvT (K : List Stp) (kvs : List (List Key × Int)) : Prop where
  l : kvs.length = K.length
  g : ∀ t : Stp, t.1 < 14 → getK kvs (kS t) = if t ∈ K then some ((K.idxOf t : Nat) : Int) else none
theorem KvT.nil : KvT [] [] := ⟨rfl, fun t _ => by simp [getK]⟩
theorem KvT.app {K : List Stp} {kvs : List (List Key × Int)} (h : KvT K kvs) {t : Stp} (ht : t.1 < 14) (hn : t ∉ K) : putI kvs (kS t) ((K.length : Nat) : Int) = kvs ++ [(kS t, ((K.length : Nat) : Int))] ∧ KvT (K ++ [t]) (kvs ++ [(kS t, ((K.length : Nat) : Int))]) := by
  have e := h.g t ht
  rw [if_neg hn] at e
  refine ⟨?_, by simp [h.l], fun u hu => ?_⟩
  · unfold putI
    rw [e]
    rfl
  · have eu := h.g u hu
    unfold getK at eu ⊢
    rw [List.find?_append]
    by_cases m : u ∈ K
    · rw [if_pos m] at eu
      rw [if_pos (List.mem_append_left _ m), List.idxOf_append, if_pos m]
      cases ef : kvs.find? (fun p => decide (p.1 = kS u)) with
      | none => rw [ef] at eu; cases eu
      | some p => rw [ef] at eu; exact eu
    · rw [if_neg m] at eu
      have ef : kvs.find? (fun p => decide (p.1 = kS u)) = none := by
        cases ef : kvs.find? (fun p => decide (p.1 = kS u)) with
        | none => rfl
        | some p => rw [ef] at eu; cases eu
      rw [ef, Option.none_or]
      by_cases q : t = u
      · subst q
        rw [if_pos (by simp), List.idxOf_append, if_neg m]
        simp
      · have q2 : ¬ kS t = kS u := fun z => q (kS_inj ht hu z)
        have q3 : ¬ u ∈ K ++ [t] := fun z => by
          rcases List.mem_append.mp z with z | z
          · exact m z
          · exact q (List.mem_singleton.mp z).symm
        rw [if_neg q3]
        simp [q2]
theorem keep_mem {K : List Stp} (h : Wf K) : ∀ s ∈ K, s.1 < 14 := fun s hs => by
  obtain ⟨k, hk, e⟩ := List.mem_iff_getElem.mp hs
  exact (h k s (by rw [List.getElem?_eq_getElem hk, e])).c
theorem stK_snd {P : List Stp × List Int} {s : Stp} : (stK P s).2 = P.2 ++ [(((stK P s).1.idxOf (repS P.2 s) : Nat) : Int)] := by
  unfold stK
  split
  · rfl
  · rename_i q
    dsimp only
    rw [List.idxOf_append, if_neg q]
    simp
theorem stK_mem {P : List Stp × List Int} {s : Stp} : repS P.2 s ∈ (stK P s).1 := by
  unfold stK
  split
  · rename_i q; exact q
  · simp
theorem keep_snoc {F : List Stp} {k : Nat} (hk : k < F.length) : keepK (F.take (k + 1)) = stK (keepK (F.take k)) F[k] := by
  have e : F.take (k + 1) = F.take k ++ [F[k]] := by rw [List.take_add_one, List.getElem?_eq_getElem hk]; rfl
  rw [e]
  unfold keepK
  rw [List.foldl_append]
  rfl
theorem t_loop1 (F : List Stp) (h : Wf F) (hl : F.length ≤ 1000) (s6 s7 s8 s9 s10 s11 : Sl) : ∃ s4 s5 kvs, forD (bName 4) (L1_tidied n) (F.map sd) [.d (.tuple (F.map sd)), .ol [], .ot [], .ol [], .un, .un, s6, s7, s8, s9, s10, s11] =
    .nx [.d (.tuple (F.map sd)), .ol ((keepK F).1.map sd), .ot kvs, .ol ((keepK F).2.map .int), s4, s5, s6, s7, s8, s9, s10, s11] := by
  obtain ⟨ρ', g1, s4, s5, kvs, g2, g3⟩ := for_inv (bt := bName 4) (m1 := L1_tidied n) (ds := F.map sd) (ρ := [.d (.tuple (F.map sd)), .ol [], .ot [], .ol [], .un, .un, s6, s7, s8, s9, s10, s11])
    (P := fun k ρ => ∃ s4 s5 kvs, ρ = [.d (.tuple (F.map sd)), .ol ((keepK (F.take k)).1.map sd), .ot kvs, .ol ((keepK (F.take k)).2.map .int), s4, s5, s6, s7, s8, s9, s10, s11] ∧ KvT (keepK (F.take k)).1 kvs) ⟨.un, .un, [], rfl, KvT.nil⟩ fun k ρ hk ⟨s4, s5, kvs, e, kv⟩ => by
      subst e
      have hk' : k < F.length := by simpa using hk
      have ek : (F.map sd)[k] = sd F[k] := by simp
      have ok := h k F[k] (List.getElem?_eq_getElem hk')
      have kk := keep_ok h k (by omega)
      rw [ek, keep_snoc hk']
      have hr := v_replO (n := n) k F[k] (keepK (F.take k)).2 ok (by rw [kk.l]; exact Nat.le_refl _)
      have rok := repS_ok (k := k) kk ok
      have sn := stK_snd (P := keepK (F.take k)) (s := F[k])
      have sm := stK_mem (P := keepK (F.take k)) (s := F[k])
      have l1 := kk.l
      have l2 := kk.m
      have fl := flat_sd (repS (keepK (F.take k)).2 F[k])
      have ky := key_sd (repS (keepK (F.take k)).2 F[k])
      have gt := kv.g _ rok.c
      rw [sn]
      generalize hT : repS (keepK (F.take k)).2 F[k] = t at *
      unfold stK at sm sn ⊢
      rw [hT] at sm sn ⊢
      have co := callOK_ok hr fl
      by_cases q : t ∈ (keepK (F.take k)).1
      · rw [if_pos q] at sn sm gt ⊢
        refine ⟨_, [.d (.tuple (F.map sd)), .ol ((keepK (F.take k)).1.map sd), .ot kvs, .ol (((keepK (F.take k)).2 ++ [(((keepK (F.take k)).1.idxOf t : Nat) : Int)]).map .int), .d (sd F[k]), .d (sd t), s6, s7, s8, s9, s10, s11], rfl, .inl ?_, _, _, kvs, rfl, kv⟩
        have nk := notInK_ok (kvs := kvs) ky
        rw [gt] at nk
        have ik := ixOTK_ok (kvs := kvs) ky gt
        rw [List.map_append]
        have l3 : ((keepK (F.take k)).2.map PyData.int).length < 16777216 := by simp; omega
        generalize sd t = T at *
        generalize sd F[k] = S at *
        generalize F.map sd = FF at *
        generalize (keepK (F.take k)).2.map PyData.int = PP at *
        generalize (keepK (F.take k)).1.map sd = KK at *
        simp [L1_tidied, co, nk, ik, l3]
      · rw [if_neg q] at sn sm gt ⊢
        obtain ⟨p1, p2⟩ := kv.app rok.c q
        dsimp only at sm sn ⊢
        refine ⟨_, [.d (.tuple (F.map sd)), .ol (((keepK (F.take k)).1 ++ [t]).map sd), .ot (kvs ++ [(kS t, (((keepK (F.take k)).1.length : Nat) : Int))]), .ol (((keepK (F.take k)).2 ++ [((((keepK (F.take k)).1 ++ [t]).idxOf t : Nat) : Int)]).map .int), .d (sd F[k]), .d (sd t), s6, s7, s8, s9, s10, s11], rfl, .inl ?_, _, _, _, rfl, p2⟩
        have nk := notInK_ok (kvs := kvs) ky
        rw [gt] at nk
        have gt2 := p2.g t rok.c
        rw [if_pos sm] at gt2
        have ik := ixOTK_ok (kvs := kvs ++ [(kS t, (((keepK (F.take k)).1.length : Nat) : Int))]) ky gt2
        rw [List.map_append, List.map_append]
        simp only [List.map_cons, List.map_nil]
        have l3 : ((keepK (F.take k)).2.map PyData.int).length < 16777216 := by simp; omega
        have l4 : (keepK (F.take k)).1.length < 16777216 := by omega
        have pk := fun ρ : Ev => putOTK_ok (i := 2) (ρ := ρ) (kvs := kvs) (z := (((keepK (F.take k)).1.length : Nat) : Int)) ky (by rw [kv.l, ev_size]; omega)
        rw [p1] at pk
        have ll : ((keepK (F.take k)).1.map sd).length = (keepK (F.take k)).1.length := List.length_map ..
        generalize sd t = T at *
        generalize sd F[k] = S at *
        generalize F.map sd = FF at *
        generalize (keepK (F.take k)).2.map PyData.int = PP at *
        generalize (keepK (F.take k)).1.map sd = KK at *
        generalize kvs ++ [(kS t, (((keepK (F.take k)).1.length : Nat) : Int))] = kv2 at *
        simp [L1_tidied, co, nk, ik, l3, l4, pk, ll]
  rw [List.length_map, List.take_length] at g2
  exact ⟨s4, s5, kvs, g1.trans (by rw [g2])⟩
theorem up_len {m : Nat} : ∀ {L : List Int} (a : Nat), L.Pairwise (· < ·) → (∀ x ∈ L, (a : Int) ≤ x ∧ x < m) → L.length + a ≤ m ∨ L = []
  | [], _, _, _ => .inr rfl
  | x :: L, a, hp, hb => by
    have h2 := List.pairwise_cons.mp hp
    have hx := hb x (by simp)
    left
    rcases up_len (m := m) (L := L) (a + 1) h2.2 (fun y hy => by
      have := h2.1 y hy
      have := hb y (by simp [hy])
      omega) with q | q
    · rw [List.length_cons]; omega
    · rw [q]; simp; omega
theorem getO_mem (k : Int) : ∀ kvs : List (Int × D), (getO kvs k).isSome = decide (k ∈ kvs.map (·.1))
  | [] => rfl
  | p :: kvs => by
    have ih := getO_mem k kvs
    unfold getO at ih ⊢
    rw [List.find?_cons, List.map_cons]
    by_cases q : p.1 = k
    · simp [q]
    · have q2 : ¬ k = p.1 := fun z => q z.symm
      simp only [q, decide_false]
      rw [ih]
      simp [q2]
theorem put_any (k : Int) (kvs : List (Int × D)) : (kvs.any fun p => decide (p.1 = k)) = decide (k ∈ kvs.map (·.1)) := by
  rw [Bool.eq_iff_iff, List.any_eq_true, decide_eq_true_iff, List.mem_map]
  simp only [decide_eq_true_eq]
theorem putO_keys (k : Int) (d : D) (kvs : List (Int × D)) : (putO kvs k d).map (·.1) = if k ∈ kvs.map (·.1) then kvs.map (·.1) else kvs.map (·.1) ++ [k] := by
  unfold putO
  rw [put_any]
  by_cases q : k ∈ kvs.map (·.1)
  · rw [if_pos (decide_eq_true q), if_pos q, List.map_map]
    refine List.map_congr_left fun p _ => ?_
    show (if p.1 = k then (p.1, d) else p).1 = p.1
    split <;> rfl
  · rw [if_neg (by rw [decide_eq_true_iff]; exact q), if_neg q, List.map_append]
    rfl
theorem putO_mem {k : Int} {d : D} {kvs : List (Int × D)} {u : Int} : u ∈ (putO kvs k d).map (·.1) ↔ u ∈ kvs.map (·.1) ∨ u = k := by
  rw [putO_keys]
  split
  · rename_i q
    exact ⟨.inl, fun z => z.elim id fun z => z ▸ q⟩
  · rw [List.mem_append, List.mem_singleton]
theorem putO_nodup {k : Int} {d : D} {kvs : List (Int × D)} (h : (kvs.map (·.1)).Nodup) : ((putO kvs k d).map (·.1)).Nodup := by
  rw [putO_keys]
  split
  · exact h
  · rename_i q
    exact List.nodup_append.mpr ⟨h, by simp, fun a ha b hb z => q (by rw [List.mem_singleton.mp hb] at z; exact z ▸ ha)⟩
theorem putO_len {k : Int} {d : D} {kvs : List (Int × D)} : (putO kvs k d).length ≤ kvs.length + 1 := by
  have := congrArg List.length (putO_keys k d kvs)
  rw [List.length_map] at this
  rw [this]
  split
  · rw [List.length_map]; omega
  · rw [List.length_append, List.length_map, List.length_singleton]; omega
theorem Rcm.congr {K : List Stp} {l : Int} {m : Nat} {U V : List Int} (h : Rcm K l m U) (e : ∀ u, u ∈ V ↔ u ∈ U) : Rcm K l m V :=
  ⟨(e l).mpr h.t, fun u hu => h.b u ((e u).mp hu), fun v hv mv a ha => (e a).mpr (h.c v ((e v).mp hv) mv a ha), fun u hu => by
    rcases h.r u ((e u).mp hu) with z | ⟨v, hv, hx⟩
    · exact .inl z
    · exact .inr ⟨v, (e v).mpr hv, hx⟩⟩
theorem t_loop2 (a : List Int) (ha : a.length ≤ 10) (kvs : List (Int × D)) (hl : kvs.length ≤ 10000) (hn : (kvs.map (·.1)).Nodup) (a0 a1 a2 a3 a4 a5 a6 s8 s9 s10 s11 : Sl) : ∃ kv2 s9', forD (bName 9) (L2_tidied n) (a.map .int) [a0, a1, a2, a3, a4, a5, a6, .od kvs, s8, s9, s10, s11] =
    .nx [a0, a1, a2, a3, a4, a5, a6, .od kv2, s8, s9', s10, s11] ∧ (kv2.map (·.1)).Nodup ∧ (∀ u, u ∈ kv2.map (·.1) ↔ u ∈ kvs.map (·.1) ∨ u ∈ a) ∧ kv2.length ≤ kvs.length + a.length := by
  obtain ⟨ρ', g1, kv2, s9', g2, g3, g4, g5⟩ := for_inv (bt := bName 9) (m1 := L2_tidied n) (ds := a.map .int) (ρ := [a0, a1, a2, a3, a4, a5, a6, .od kvs, s8, s9, s10, s11])
    (P := fun k ρ => ∃ kv2 s9', ρ = [a0, a1, a2, a3, a4, a5, a6, .od kv2, s8, s9', s10, s11] ∧ (kv2.map (·.1)).Nodup ∧ (∀ u, u ∈ kv2.map (·.1) ↔ u ∈ kvs.map (·.1) ∨ u ∈ a.take k) ∧ kv2.length ≤ kvs.length + k) ⟨kvs, s9, rfl, hn, fun u => by simp, Nat.le_refl _⟩ fun k ρ hk ⟨kv2, s9', e, h1, h2, h3⟩ => by
      subst e
      have hk' : k < a.length := by simpa using hk
      have ek : (a.map PyData.int)[k] = .int a[k] := by simp
      rw [ek]
      refine ⟨_, [a0, a1, a2, a3, a4, a5, a6, .od (putO kv2 a[k] (.bool true)), s8, .d (.int a[k]), s10, s11], rfl, .inl ?_, _, _, rfl, putO_nodup h1, fun u => ?_, by have := putO_len (k := a[k]) (d := .bool true) (kvs := kv2); omega⟩
      · have p := fun ρ : Ev => putODK_ok (i := 7) (ρ := ρ) (kvs := kv2) (d := .bool true) (k := a[k]) (by rw [ev_size]; omega)
        simp [L2_tidied, p]
      · rw [putO_mem, h2 u, List.take_add_one, List.getElem?_eq_getElem hk', Option.toList_some, List.mem_append, List.mem_singleton, or_assoc]
  rw [List.length_map, List.take_length] at g4
  rw [List.length_map] at g5
  exact ⟨kv2, s9', g1.trans (by rw [g2]), g3, g4, g5⟩
theorem t_loop3 (K : List Stp) (hK : Wf K) (hl : K.length ≤ 1000) (l : Int) (h0 : 0 ≤ l) (h1 : l < K.length) (a0 a2 a3 a4 a5 s10 s11 : Sl) : ∃ kvs s8 s9,
    forD (bName 8) (L3_tidied n) (revRangeD 0 (l + 1).toNat) [a0, .d (.list (K.map sd)), a2, a3, a4, a5, .d (.int l), .od [(l, .bool true)], .un, .un, s10, s11] =
    .nx [a0, .d (.list (K.map sd)), a2, a3, a4, a5, .d (.int l), .od kvs, s8, s9, s10, s11] ∧ Rch K l (kvs.map (·.1)) ∧ (kvs.map (·.1)).Nodup := by
  obtain ⟨ρ', g1, kvs, s8, s9, g2, g3, g4, g5⟩ := for_inv (bt := bName 8) (m1 := L3_tidied n) (ds := revRangeD 0 (l + 1).toNat) (ρ := [a0, .d (.list (K.map sd)), a2, a3, a4, a5, .d (.int l), .od [(l, .bool true)], .un, .un, s10, s11])
    (P := fun k ρ => ∃ kvs s8 s9, ρ = [a0, .d (.list (K.map sd)), a2, a3, a4, a5, .d (.int l), .od kvs, s8, s9, s10, s11] ∧ Rcm K l ((l + 1).toNat - k) (kvs.map (·.1)) ∧ (kvs.map (·.1)).Nodup ∧ kvs.length ≤ 1 + 2 * k)
    ⟨_, .un, .un, rfl, rcm_start h0 (by omega), by simp, by simp⟩ fun k ρ hk ⟨kvs, s8, s9, e, h2, h3, h4⟩ => by
      subst e
      have hk' : k < (l + 1).toNat := by simpa [revRangeD] using hk
      obtain ⟨v, hv, ev⟩ : ∃ v : Nat, (v : Int) = l - k ∧ (revRangeD 0 (l + 1).toNat)[k] = .int (v : Int) := ⟨(l - k).toNat, by omega, by simp [revRangeD]; omega⟩
      have em : (l + 1).toNat - k = v + 1 := by omega
      have em2 : (l + 1).toNat - (k + 1) = v := by omega
      rw [ev, em2]
      rw [em] at h2
      have st := h2.step hK
      have gm := getO_mem (v : Int) kvs
      by_cases q : (v : Int) ∈ kvs.map (·.1)
      · rw [if_pos q] at st
        rw [decide_eq_true q] at gm
        have hvK : v < K.length := by omega
        have ok := hK v K[v] (List.getElem?_eq_getElem hvK)
        have va := v_args (n := n) v K[v] ok
        have ix : atI (K.map sd) (v : Int) = some (sd K[v]) := by rw [FL.atI_nat (by simpa using hvK)]; simp
        have ea : argsI K (v : Int) = if K[v].1 < 2 then [] else K[v].2 := args_getD (by rw [Int.toNat_natCast]; exact List.getElem?_eq_getElem hvK)
        have la : (argsI K (v : Int)).length ≤ 2 := by
          rw [ea]
          split
          · simp
          · have := ok.l; have := ar_le K[v].1; omega
        rw [← ea] at va
        obtain ⟨kv2, s9', i1, i2, i3, i4⟩ := t_loop2 (n := n) (argsI K (v : Int)) (by omega) kvs (by omega) h3 a0 (.d (.list (K.map sd))) a2 a3 a4 a5 (.d (.int l)) (.d (.int (v : Int))) s9 s10 s11
        refine ⟨_, [a0, .d (.list (K.map sd)), a2, a3, a4, a5, .d (.int l), .od kv2, .d (.int (v : Int)), s9', s10, s11], rfl, .inl ?_, kv2, .d (.int (v : Int)), s9', rfl, st.congr fun u => by rw [i3 u, List.mem_append], i2, by omega⟩
        unfold L3_tidied
        refine o_ifT ?_ (o_for1 ?_ i1)
        · simp [gm]
        · generalize sd K[v] = S at *
          generalize K.map sd = KK at *
          simp [ix, va]
      · rw [if_neg q] at st
        rw [decide_eq_false q] at gm
        refine ⟨_, [a0, .d (.list (K.map sd)), a2, a3, a4, a5, .d (.int l), .od kvs, .d (.int (v : Int)), s9, s10, s11], rfl, .inl ?_, kvs, _, _, rfl, st, h3, by omega⟩
        unfold L3_tidied
        refine o_ifF ?_ ?_
        · simp [gm]
        · simp
  have e0 : (l + 1).toNat - (revRangeD 0 (l + 1).toNat).length = 0 := by simp [revRangeD]
  rw [e0] at g3
  exact ⟨kvs, s8, s9, g1.trans (by rw [g2]), Rcm.clo hK 0 g3, g4⟩
/-! the new places -/
def zipM : Nat → List Int → List (Int × D)
  | _, [] => []
  | j, u :: L => (u, .int (j : Nat)) :: zipM (j + 1) L
theorem zipM_keys : ∀ (L : List Int) (j : Nat), (zipM j L).map (·.1) = L
  | [], _ => rfl
  | u :: L, j => by unfold zipM; rw [List.map_cons, zipM_keys L]
theorem zipM_get {u : Int} : ∀ {L : List Int} (j : Nat), u ∈ L → getO (zipM j L) u = some (.int ((j + L.idxOf u : Nat) : Int))
  | [], _, m => by cases m
  | x :: L, j, m => by
    unfold zipM
    by_cases e : x = u
    · subst e
      simp [getO, List.idxOf_cons]
    · have m2 : u ∈ L := (List.mem_cons.mp m).resolve_left fun z => e z.symm
      have ih := zipM_get (j + 1) m2
      unfold getO at ih ⊢
      have e2 : (x == u) = false := beq_false_of_ne e
      rw [List.find?_cons, List.idxOf_cons, e2]
      simp only [e, decide_false]
      rw [ih]
      simp only [cond_false]
      rw [show j + 1 + L.idxOf u = j + (L.idxOf u + 1) by omega]
theorem zipM_snoc {u : Int} : ∀ (L : List Int) (j : Nat), zipM j (L ++ [u]) = zipM j L ++ [(u, .int ((j + L.length : Nat) : Int))]
  | [], j => rfl
  | x :: L, j => by
    rw [List.cons_append]
    unfold zipM
    rw [zipM_snoc L, List.cons_append, List.length_cons, show j + 1 + L.length = j + (L.length + 1) by omega]
theorem putO_new {kvs : List (Int × D)} {k : Int} {d : D} (h : k ∉ kvs.map (·.1)) : putO kvs k d = kvs ++ [(k, d)] := by
  unfold putO
  rw [put_any, if_neg (by rw [decide_eq_true_iff]; exact h)]
theorem rangeD_cons (lo : Int) (m : Nat) : rangeD lo (m + 1) = .int lo :: rangeD (lo + 1) m := by
  unfold rangeD
  rw [List.range_succ_eq_map, List.map_cons, List.map_map]
  congr 1
  · simp
  · refine List.map_congr_left fun i _ => ?_
    show PyData.int (lo + ((i + 1 : Nat) : Int)) = .int (lo + 1 + (i : Int))
    congr 1
    omega
theorem t_moves (a0 a1 a2 a3 a4 a5 a6 a7 a9 a10 : Sl) : ∀ (L : List Int) (j : Nat) (s8 s11 : Sl) (acc : List (Int × D)), L.Nodup → (∀ u ∈ L, u ∉ acc.map (·.1)) → acc.length + L.length ≤ 10000 →
    dcD (bTup 2 (bsCons (bName 11) (bsCons (bName 8) bsNil)) [a0, a1, a2, a3, a4, a5, a6, a7, s8, a9, a10, s11]) (mC (.bool true)) (mVar 8) (mVar 11) (zipD (rangeD (j : Int) L.length) (L.map .int)) acc = some (acc ++ zipM j L)
  | [], j, s8, s11, acc, _, _, _ => by
    simp [zipD, rangeD, zipM, dcD]
  | u :: L, j, s8, s11, acc, hn, ha, hl => by
    have hn2 := List.nodup_cons.mp hn
    rw [List.length_cons] at hl
    have pn := putO_new (d := .int (j : Int)) (ha u (by simp))
    have ih := t_moves a0 a1 a2 a3 a4 a5 a6 a7 a9 a10 L (j + 1) s8 s11 (acc ++ [(u, .int (j : Int))]) hn2.2 (fun x hx => by
      rw [List.map_append, List.mem_append]
      rintro (z | z)
      · exact ha x (List.mem_cons_of_mem _ hx) z
      · have : x = u := by simpa using z
        exact hn2.1 (this ▸ hx)) (by simp; omega)
    rw [List.length_cons, rangeD_cons, List.map_cons]
    unfold zipM
    show dcD _ _ _ _ (PyData.tuple [.int (j : Int), .int u] :: zipD (rangeD ((j : Int) + 1) L.length) (L.map .int)) acc = _
    have l1 : acc.length < sizeLine := by rw [ev_size]; omega
    have ej : ((j + 1 : Nat) : Int) = (j : Int) + 1 := by omega
    rw [ej] at ih
    unfold dcD
    have e1 : bTup 2 (bsCons (bName 11) (bsCons (bName 8) bsNil)) [a0, a1, a2, a3, a4, a5, a6, a7, s8, a9, a10, s11] (.tuple [.int (j : Int), .int u]) = some [a0, a1, a2, a3, a4, a5, a6, a7, .d (.int u), a9, a10, .d (.int (j : Int))] := rfl
    rw [e1]
    have e2 : mVar 8 [a0, a1, a2, a3, a4, a5, a6, a7, .d (.int u), a9, a10, .d (.int (j : Int))] = .ok (.int u) := by simp
    have e3 : mVar 11 [a0, a1, a2, a3, a4, a5, a6, a7, .d (.int u), a9, a10, .d (.int (j : Int))] = .ok (.int (j : Int)) := by simp
    have e4 : mC (.bool true) [a0, a1, a2, a3, a4, a5, a6, a7, .d (.int u), a9, a10, .d (.int (j : Int))] = .ok (.bool true) := by simp
    simp only [e2, e3, e4]
    rw [if_pos l1, pn, ih, List.append_assoc]
    rfl
theorem idx_lt {O : List Int} {u : Int} (h : u ∈ O) : O.idxOf u < O.length := List.idxOf_lt_length_iff.mpr h
theorem v_tidied (F : List Stp) (h : Wf F) (hn : F ≠ []) (hl : F.length ≤ 60) : F_tidied n [.tuple (F.map sd)] = .ok (.tuple ((tidy F).map sd)) := by
  have ko := keep_all h
  have T := tid_ok h hn
  have n0 := List.length_pos_iff.mpr hn
  obtain ⟨s4, s5, kv, q1⟩ := t_loop1 (n := n) F h (by omega) .un .un .un .un .un .un
  have hlast : atI ((keepK F).2.map PyData.int) (-1) = some (.int ((keepK F).2.getLastD 0)) := by
    have lp := ko.l
    rw [FL.atI_last (by rw [List.length_map]; omega), List.length_map]
    have hp : (keepK F).2 ≠ [] := fun z => by rw [z] at lp; simp at lp; omega
    rw [List.getLastD_eq_getLast?, List.getLast?_eq_getElem?, List.getElem?_map]
    cases e : (keepK F).2[(keepK F).2.length - 1]? with
    | none => have := List.getElem?_eq_none_iff.mp e; omega
    | some z => rfl
  unfold tidy
  have lK := ko.m
  generalize (keepK F).2.getLastD 0 = l at *
  generalize hPP : (keepK F).2 = PP at *
  generalize hKK : (keepK F).1 = K at *
  obtain ⟨kvs, s8, s9, q2, q3, q4⟩ := t_loop3 (n := n) K T.w (by omega) l T.l0 T.l1 (.d (.tuple (F.map sd))) (.ot kv) (.d (.list (PP.map .int))) s4 s5 .un .un
  have eO : sortI (kvs.map (·.1)) = tidO K l := tidO_of T.w T.l0 q3 (lt_of_le_nodup _ (sortI_sorted _) ((sortI_perm _).nodup_iff.mpr q4)) fun k => (sortI_perm _).mem_iff
  have lO := T.len
  have lk : kvs.length = (tidO K l).length := by rw [← eO, (sortI_perm _).length_eq, List.length_map]
  have so := sortODK_ok (kvs := kvs) (by omega)
  rw [eO] at so
  have mv := fun s8 s11 => t_moves (.d (.tuple (F.map sd))) (.d (.list (K.map sd))) (.ot kv) (.d (.list (PP.map .int))) s4 s5 (.d (.int l)) (.od kvs) s9 .un (tidO K l) 0 s8 s11 [] (T.up.imp fun z => by omega) (fun u _ => by simp) (by simp; omega)
  have cm := comp_map (bt := bName 8 [.d (.tuple (F.map sd)), .d (.list (K.map sd)), .ot kv, .d (.list (PP.map .int)), s4, s5, .d (.int l), .od kvs, .un, s9, .od (zipM 0 (tidO K l)), .un]) (mt := mC (.bool true)) (me := mCallD (FB_replaced n) 10 (mIx (mVarB 1) (mVar 8)))
    (fun u : Int => PyData.int u) (fun u => sd (mvO (tidO K l) (K.getD u.toNat (1, [])))) (l := tidO K l) fun u hu => ⟨_, rfl, rfl, by
      obtain ⟨s, e1, e2, ok⟩ := T.at hu
      rw [e2]
      have b := T.r.b u hu
      have hl1 := T.l1
      have ix : atI (K.map sd) u = some (sd s) := by
        obtain ⟨v, rfl⟩ : ∃ v : Nat, u = v := ⟨u.toNat, by omega⟩
        rw [Int.toNat_natCast] at e1
        obtain ⟨hv, ev⟩ := List.getElem?_eq_some_iff.mp e1
        rw [FL.atI_nat (by simpa using hv)]
        simp [ev]
      have r := v_replB (n := n) u.toNat s (tidO K l) (zipM 0 (tidO K l)) ok fun h2 i hi => by
        rw [zipM_get 0 (T.arg hu e1 h2 hi).1, Nat.zero_add]
      refine callD_ok (kvs := zipM 0 (tidO K l)) (d := sd s) (by simp) ?_ r (flat_sd _)
      generalize sd s = S at *
      generalize K.map sd = KK at *
      simp [ix]⟩
  have er : (tidG K (tidO K l)).map sd = (tidO K l).map fun u => sd (mvO (tidO K l) (K.getD u.toNat (1, []))) := by
    unfold tidG
    rw [List.map_map]
    rfl
  rw [er]
  have b1 : -4611686018427387904 ≤ l + 1 := by have := T.l0; omega
  have b2 : l + 1 < 4611686018427387904 := by have := T.l1; omega
  have lz : (zipD (rangeD ((0 : Nat) : Int) (tidO K l).length) ((tidO K l).map .int)).length ≤ sizeLine := by rw [ev_size]; simp [zipD, rangeD]; omega
  have lo2 : ((tidO K l).map PyData.int).length = (tidO K l).length := List.length_map ..
  generalize ((tidO K l).map fun u => sd (mvO (tidO K l) (K.getD u.toNat (1, [])))) = RR at *
  generalize F.map sd = FF at *
  generalize K.map sd = KK at *
  generalize PP.map PyData.int = P2 at *
  refine f_ret rfl ?_
  unfold M_tidied
  simp only [startE, List.map_cons, List.map_nil, List.length_cons, List.length_nil, Nat.reduceAdd, Nat.reduceSub, List.reduceReplicate, List.cons_append, List.nil_append, Nat.zero_add, List.replicate_zero, List.append_nil]
  refine o_setL (ds := []) (by simp) ?_
  simp only [List.set_cons_zero, List.set_cons_succ]
  refine o_nx (by simp; rfl) ?_
  refine o_setL (ds := []) (by simp) ?_
  simp only [List.set_cons_zero, List.set_cons_succ]
  refine o_for (by simp) q1 ?_
  refine o_nx (ρ' := [.d (.tuple FF), .d (.list KK), .ot kv, .d (.list P2), s4, s5, .d (.int l), .un, .un, .un, .un, .un]) (by simp [hlast, frz]) ?_
  refine o_nx (by simp; rfl) ?_
  refine o_for (by simp [b1, b2]) q2 ?_
  refine o_nx (setDC_ok (ds := zipD (rangeD ((0 : Nat) : Int) (tidO K l).length) ((tidO K l).map .int)) (kvs := zipM 0 (tidO K l)) ?_ lz (mv _ _)) ?_
  · generalize hg : (tidO K l).map PyData.int = OO at *
    simp [so, lo2]
  simp only [List.set_cons_zero, List.set_cons_succ]
  refine o_ret ?_
  have lm : ((tidO K l).map PyData.int).length ≤ 16777216 := by rw [lo2]; omega
  generalize hg : (tidO K l).map PyData.int = OO at *
  generalize hmm : mCallD (FB_replaced n) 10 (mIx (mVarB 1) (mVar 8)) = mm at *
  simp [so, lm, cm]
/-! ### the law's own way -/
theorem v_lmv (n : Nat) (Z : Sl) (g : Int → Int) (k : Nat) (s : Stp) (h : okS k s) (H : ∀ e m i, 2 ≤ s.1 → i ∈ s.2 → e [.d (sd s), Z] = .ok (.int i) → m = mIx (mVarB 1) e → mIxAny 1 e m [.d (sd s), Z] = .ok (.int (g i))) :
    M_law_moved n [.d (sd s), Z] = .ret (sd (mvG g s)) := by
  have e := mem_leaf h.c
  have n2 : ¬ (3 : Int) = 2 := by decide
  rcases h.shape with ⟨p, q, rfl, hq⟩ | rfl | ⟨c, i, j, h2, h6, rfl, _⟩ | ⟨c, i, h6, h14, rfl, _⟩
  · dsimp only at e
    simp [M_law_moved, sd, e, mvG]
  · dsimp only at e
    simp [M_law_moved, sd, e, mvG]
  · dsimp only at e
    rw [decide_eq_false (by omega)] at e
    have m2 : ¬ c < 2 := by omega
    have h1 := H (mIx (mVarB 0) (mC (.int 1))) _ i h2 (by simp) (by simp [sd]) rfl
    have h3 := H (mIx (mVarB 0) (mC (.int 2))) _ j h2 (by simp) (by simp [sd]) rfl
    clear H
    have ix : ixD (sd (c, [i, j])) (.int 0) = .ok (.str (Wd c)) := by simp [sd]
    have ln : lenD (sd (c, [i, j])) = .ok (.int 3) := by simp [sd]
    have er : sd (mvG g (c, [i, j])) = .tuple [.str (Wd c), .int (g i), .int (g j)] := by simp [mvG, m2, sd]
    rw [er]
    generalize sd (c, [i, j]) = S at *
    unfold M_law_moved
    refine o_skip (by simp [ix, e]) (o_skip (by simp [ln]) (o_ret ?_))
    generalize mIxAny 1 (mIx (mVarB 0) (mC (PyData.int 1))) (mIx (mVarB 1) (mIx (mVarB 0) (mC (PyData.int 1)))) = A at *
    generalize mIxAny 1 (mIx (mVarB 0) (mC (PyData.int 2))) (mIx (mVarB 1) (mIx (mVarB 0) (mC (PyData.int 2)))) = B at *
    simp [ix, h1, h3]
  · dsimp only at e
    rw [decide_eq_false (by omega)] at e
    have m2 : ¬ c < 2 := by omega
    have h1 := H (mIx (mVarB 0) (mC (.int 1))) _ i (by show 2 ≤ c; omega) (by simp) (by simp [sd]) rfl
    clear H
    have ix : ixD (sd (c, [i])) (.int 0) = .ok (.str (Wd c)) := by simp [sd]
    have ln : lenD (sd (c, [i])) = .ok (.int 2) := by simp [sd]
    have er : sd (mvG g (c, [i])) = .tuple [.str (Wd c), .int (g i)] := by simp [mvG, m2, sd]
    rw [er]
    generalize sd (c, [i]) = S at *
    unfold M_law_moved
    refine o_skip (by simp [ix, e]) (o_stop (o_ifT (by simp [ln]) (o_ret ?_)))
    generalize mIxAny 1 (mIx (mVarB 0) (mC (PyData.int 1))) (mIx (mVarB 1) (mIx (mVarB 0) (mC (PyData.int 1)))) = A at *
    simp [ix, h1]
theorem v_lmvO (k : Nat) (s : Stp) (P : List Int) (h : okS k s) (hk : k ≤ P.length) : F_law_moved n [sd s, .list (P.map .int)] = .ok (sd (repS P s)) :=
  f_ret rfl (v_lmv n (.d (.list (P.map .int))) (fun i => P.getD i.toNat 0) k s h fun e m i h2 hi he hm => by
    have := h.i h2 i hi
    have e1 := ix_list (P := P) (i := i) this.1 (by omega)
    subst hm
    simp [he, e1])
theorem v_lmvB (k : Nat) (s : Stp) (O : List Int) (kvs : List (Int × D)) (h : okS k s) (hO : 2 ≤ s.1 → ∀ i ∈ s.2, getO kvs i = some (.int ((O.idxOf i : Nat) : Int))) : FB_law_moved n (sd s) kvs = .ok (sd (mvO O s)) := by
  have := v_lmv n (.bd kvs) (fun i => ((O.idxOf i : Nat) : Int)) k s h fun e m i h2 hi he hm => by
    have e1 := hO h2 i hi
    subst hm
    simp [he, e1]
  unfold FB_law_moved bodyB FL.startB
  show bodyR (M_law_moved n [.d (sd s), .bd kvs]) = _
  rw [this]
  rfl
theorem any_int {u : Int} : ∀ U : List Int, ((U.map PyData.int).any fun z => PyData.eqv z (.int u)) = decide (u ∈ U)
  | [] => rfl
  | x :: U => by
    rw [List.map_cons, List.any_cons, any_int U, PyData.eqv]
    by_cases e : x = u
    · simp [e]
    · have : ¬ u = x := fun z => e z.symm
      simp [e, this]
theorem mem_int {u : Int} {U : List Int} (h : U.length < 1000000) : memX false (.int u) (.list (U.map .int)) = some (.bool (decide (u ∈ U))) := by
  rw [ev_memX (by rfl) (shp_low (k := 1) ⟨by rw [List.length_map]; exact h, fun x hx => by obtain ⟨i, _, rfl⟩ := List.mem_map.mp hx; trivial⟩), any_int]
  simp
theorem l_loop1 (F : List Stp) (h : Wf F) (hl : F.length ≤ 1000) (a0 a1 a2 a3 a9 a10 a11 a12 a13 a14 a15 a16 a17 : Sl) : ∃ s7 s8, forD (bName 7) (L1_law n) (F.map sd) [a0, a1, a2, a3, .d (.tuple (F.map sd)), .ol [], .ol [], .un, .un, a9, a10, a11, a12, a13, a14, a15, a16, a17] =
    .nx [a0, a1, a2, a3, .d (.tuple (F.map sd)), .ol ((keepK F).1.map sd), .ol ((keepK F).2.map .int), s7, s8, a9, a10, a11, a12, a13, a14, a15, a16, a17] := by
  obtain ⟨ρ', g1, s7, s8, g2⟩ := for_inv (bt := bName 7) (m1 := L1_law n) (ds := F.map sd) (ρ := [a0, a1, a2, a3, .d (.tuple (F.map sd)), .ol [], .ol [], .un, .un, a9, a10, a11, a12, a13, a14, a15, a16, a17])
    (P := fun k ρ => ∃ s7 s8, ρ = [a0, a1, a2, a3, .d (.tuple (F.map sd)), .ol ((keepK (F.take k)).1.map sd), .ol ((keepK (F.take k)).2.map .int), s7, s8, a9, a10, a11, a12, a13, a14, a15, a16, a17]) ⟨.un, .un, rfl⟩ fun k ρ hk ⟨s7, s8, e⟩ => by
      subst e
      have hk' : k < F.length := by simpa using hk
      have ek : (F.map sd)[k] = sd F[k] := by simp
      have ok := h k F[k] (List.getElem?_eq_getElem hk')
      have kk := keep_ok h k (by omega)
      have kk2 := keep_ok h (k + 1) (by omega)
      rw [ek]
      rw [keep_snoc hk'] at kk2 ⊢
      have hr := v_lmvO (n := n) k F[k] (keepK (F.take k)).2 ok (by rw [kk.l]; exact Nat.le_refl _)
      have rok := repS_ok (k := k) kk ok
      have sn := stK_snd (P := keepK (F.take k)) (s := F[k])
      have sm := stK_mem (P := keepK (F.take k)) (s := F[k])
      have l1 := kk.l
      have l2 := kk.m
      have fl := flat_sd (repS (keepK (F.take k)).2 F[k])
      have fi := find_sd (rok.c) (keep_mem kk2.w) sm
      have an := any_sd (rok.c) (keep_mem kk.w)
      have shT := shp_low (k := 1) (rok.low 0)
      have sh1 := shp_low (k := 2) (kk.w.lowL (by omega) 0)
      have sh2 := shp_low (k := 2) (kk2.w.lowL (by have := kk2.m; omega) 0)
      rw [sn]
      generalize hT : repS (keepK (F.take k)).2 F[k] = t at *
      have co := callOK_ok hr fl
      have mx := ev_memX (neg := true) shT sh1
      rw [an] at mx
      have lx : lixD ((stK (keepK (F.take k)) F[k]).1.map sd) (sd t) = .ok (.int (((stK (keepK (F.take k)) F[k]).1.idxOf t : Nat) : Int)) := by
        unfold lixD
        rw [if_pos (by rw [shT, sh2]; rfl), fi]
        rfl
      unfold stK at sm sn lx ⊢
      rw [hT] at sm sn lx ⊢
      by_cases q : t ∈ (keepK (F.take k)).1
      · rw [if_pos q] at sn sm lx ⊢
        rw [decide_eq_true q] at mx
        refine ⟨_, [a0, a1, a2, a3, .d (.tuple (F.map sd)), .ol ((keepK (F.take k)).1.map sd), .ol (((keepK (F.take k)).2 ++ [(((keepK (F.take k)).1.idxOf t : Nat) : Int)]).map .int), .d (sd F[k]), .d (sd t), a9, a10, a11, a12, a13, a14, a15, a16, a17], rfl, .inl ?_, _, _, rfl⟩
        rw [List.map_append]
        have l3 : ((keepK (F.take k)).2.map PyData.int).length < 16777216 := by simp; omega
        generalize sd t = T at *
        generalize sd F[k] = S at *
        generalize F.map sd = FF at *
        generalize (keepK (F.take k)).2.map PyData.int = PP at *
        generalize (keepK (F.take k)).1.map sd = KK at *
        simp [L1_law, co, mx, lx, l3]
      · rw [if_neg q] at sn sm lx ⊢
        rw [decide_eq_false q] at mx
        dsimp only at sm sn lx ⊢
        refine ⟨_, [a0, a1, a2, a3, .d (.tuple (F.map sd)), .ol (((keepK (F.take k)).1 ++ [t]).map sd), .ol (((keepK (F.take k)).2 ++ [((((keepK (F.take k)).1 ++ [t]).idxOf t : Nat) : Int)]).map .int), .d (sd F[k]), .d (sd t), a9, a10, a11, a12, a13, a14, a15, a16, a17], rfl, .inl ?_, _, _, rfl⟩
        rw [List.map_append] at lx ⊢
        rw [List.map_append]
        simp only [List.map_cons, List.map_nil] at lx ⊢
        have l3 : ((keepK (F.take k)).2.map PyData.int).length < 16777216 := by simp; omega
        have l4 : ((keepK (F.take k)).1.map sd).length < 16777216 := by simp; omega
        generalize sd t = T at *
        generalize sd F[k] = S at *
        generalize F.map sd = FF at *
        generalize (keepK (F.take k)).2.map PyData.int = PP at *
        generalize (keepK (F.take k)).1.map sd = KK at *
        simp [L1_law, co, mx, lx, l3, l4]
  rw [List.length_map, List.take_length] at g2
  exact ⟨s7, s8, g1.trans (by rw [g2])⟩
theorem l_loop2 (K : List Stp) (hK : Wf K) (hl : K.length ≤ 15) (l : Int) (h0 : 0 ≤ l) (h1 : l < K.length) (a0 a1 a2 a3 a4 a6 a7 a8 a12 a13 a14 a15 a16 a17 : Sl) : ∃ (U : List Int) (s10 s11 : Sl),
    forD (bName 10) (L2_law n) (rangeD 0 K.length) [a0, a1, a2, a3, a4, .d (.list (K.map sd)), a6, a7, a8, .d (.list ([l].map .int)), .un, .un, a12, a13, a14, a15, a16, a17] =
    .nx [a0, a1, a2, a3, a4, .d (.list (K.map sd)), a6, a7, a8, .d (.list (U.map .int)), s10, s11, a12, a13, a14, a15, a16, a17] ∧ Rch K l U ∧ U.length ≤ 31 := by
  obtain ⟨ρ', g1, U, s10, s11, g2, g3, g5⟩ := for_inv (bt := bName 10) (m1 := L2_law n) (ds := rangeD 0 K.length) (ρ := [a0, a1, a2, a3, a4, .d (.list (K.map sd)), a6, a7, a8, .d (.list ([l].map .int)), .un, .un, a12, a13, a14, a15, a16, a17])
    (P := fun k ρ => ∃ (U : List Int) (s10 s11 : Sl), ρ = [a0, a1, a2, a3, a4, .d (.list (K.map sd)), a6, a7, a8, .d (.list (U.map .int)), s10, s11, a12, a13, a14, a15, a16, a17] ∧ Rcm K l (K.length - k) U ∧ U.length ≤ 1 + 2 * k)
    ⟨[l], .un, .un, rfl, rcm_start h0 (by omega), by simp⟩ fun k ρ hk ⟨U, s10, s11, e, h2, h4⟩ => by
      subst e
      have hk' : k < K.length := by simpa using hk
      have ev : (rangeD 0 K.length)[k] = .int (k : Int) := by simp [rangeD]
      obtain ⟨v, hv⟩ : ∃ v : Nat, v + k + 1 = K.length := ⟨K.length - 1 - k, by omega⟩
      have em : K.length - k = v + 1 := by omega
      have em2 : K.length - (k + 1) = v := by omega
      rw [ev, em2]
      rw [em] at h2
      have st := h2.step hK
      have hvK : v < K.length := by omega
      have ok := hK v K[v] (List.getElem?_eq_getElem hvK)
      have ix : atI (K.map sd) (v : Int) = some (sd K[v]) := by rw [FL.atI_nat (by simpa using hvK)]; simp
      have ea : argsI K (v : Int) = if K[v].1 < 2 then [] else K[v].2 := args_getD (by rw [Int.toNat_natCast]; exact List.getElem?_eq_getElem hvK)
      have mi := mem_int (u := (v : Int)) (U := U) (by omega)
      have cv : (K.length : Int) - 1 - (k : Int) = (v : Int) := by omega
      have ml := mem_leaf_n ok.c
      have ix0 : ixD (sd K[v]) (.int 0) = .ok (.str (Wd K[v].1)) := by simp [sd]
      have sl : slD (sd K[v]) (some 1) none = .ok (.tuple (K[v].2.map .int)) := by simp [sd, slD, cut_1]
      have la := ok.l
      have la2 := ar_le K[v].1
      have lk : (K.map sd).length = K.length := List.length_map ..
      by_cases q : (v : Int) ∈ U
      · rw [if_pos q, ea] at st
        rw [decide_eq_true q] at mi
        by_cases q2 : K[v].1 < 2
        · rw [if_pos q2, List.append_nil] at st
          rw [decide_eq_true q2] at ml
          refine ⟨_, [a0, a1, a2, a3, a4, .d (.list (K.map sd)), a6, a7, a8, .d (.list (U.map .int)), .d (.int (k : Int)), .d (.int (v : Int)), a12, a13, a14, a15, a16, a17], rfl, .inl ?_, U, .d (.int (k : Int)), .d (.int (v : Int)), rfl, st, by omega⟩
          generalize sd K[v] = S at *
          generalize K.map sd = KK at *
          generalize U.map PyData.int = UU at *
          simp [L2_law, lk, cv, mi, ix, ix0, ml]
        · rw [if_neg q2] at st
          rw [decide_eq_false q2] at ml
          have ad : addD (.list (U.map .int)) (.list (K[v].2.map .int)) = some (.list ((U ++ K[v].2).map .int)) := by
            rw [ev_addL (by rw [ev_size]; simp; omega), List.map_append]
          refine ⟨_, [a0, a1, a2, a3, a4, .d (.list (K.map sd)), a6, a7, a8, .d (.list ((U ++ K[v].2).map .int)), .d (.int (k : Int)), .d (.int (v : Int)), a12, a13, a14, a15, a16, a17], rfl, .inl ?_, U ++ K[v].2, .d (.int (k : Int)), .d (.int (v : Int)), rfl, st, by rw [List.length_append]; omega⟩
          generalize sd K[v] = S at *
          generalize K.map sd = KK at *
          generalize (U ++ K[v].2).map PyData.int = U2 at *
          generalize U.map PyData.int = UU at *
          generalize (K[v].2.map PyData.int) = AA at *
          simp [L2_law, lk, cv, mi, ix, ix0, ml, sl, partD, ad]
      · rw [if_neg q] at st
        rw [decide_eq_false q] at mi
        refine ⟨_, [a0, a1, a2, a3, a4, .d (.list (K.map sd)), a6, a7, a8, .d (.list (U.map .int)), .d (.int (k : Int)), .d (.int (v : Int)), a12, a13, a14, a15, a16, a17], rfl, .inl ?_, U, .d (.int (k : Int)), .d (.int (v : Int)), rfl, st, by omega⟩
        generalize sd K[v] = S at *
        generalize K.map sd = KK at *
        generalize U.map PyData.int = UU at *
        simp [L2_law, lk, cv, mi]
  rw [len_range] at g3 g5
  rw [Nat.sub_self] at g3
  exact ⟨U, s10, s11, g1.trans (by rw [g2]), Rcm.clo hK 0 g3, by omega⟩
theorem l_loop3 (O : List Int) (hn : O.Nodup) (hl : O.length ≤ 100) (a0 a1 a2 a3 a4 a5 a6 a7 a8 a9 s10 a11 a14 a15 a16 a17 : Sl) : ∃ s10',
    forD (bName 10) (L3_law n) (rangeD 0 O.length) [a0, a1, a2, a3, a4, a5, a6, a7, a8, a9, s10, a11, .d (.list (O.map .int)), .od [], a14, a15, a16, a17] =
    .nx [a0, a1, a2, a3, a4, a5, a6, a7, a8, a9, s10', a11, .d (.list (O.map .int)), .od (zipM 0 O), a14, a15, a16, a17] := by
  obtain ⟨ρ', g1, s10', g2⟩ := for_inv (bt := bName 10) (m1 := L3_law n) (ds := rangeD 0 O.length) (ρ := [a0, a1, a2, a3, a4, a5, a6, a7, a8, a9, s10, a11, .d (.list (O.map .int)), .od [], a14, a15, a16, a17])
    (P := fun k ρ => ∃ s10, ρ = [a0, a1, a2, a3, a4, a5, a6, a7, a8, a9, s10, a11, .d (.list (O.map .int)), .od (zipM 0 (O.take k)), a14, a15, a16, a17])
    ⟨s10, rfl⟩ fun k ρ hk ⟨s10, e⟩ => by
      subst e
      have hk' : k < O.length := by simpa using hk
      have ev : (rangeD 0 O.length)[k] = .int (k : Int) := by simp [rangeD]
      have ix : atI (O.map PyData.int) (k : Int) = some (.int O[k]) := by rw [FL.atI_nat (by simpa using hk')]; simp
      have et : O.take (k + 1) = O.take k ++ [O[k]] := by rw [List.take_add_one, List.getElem?_eq_getElem hk']; rfl
      have no : O[k] ∉ (zipM 0 (O.take k)).map (·.1) := by
        rw [zipM_keys]
        intro m
        obtain ⟨j, hj, ej⟩ := List.mem_iff_getElem.mp m
        have hj2 : j < k ∧ j < O.length := by rw [List.length_take] at hj; omega
        rw [List.getElem_take] at ej
        exact List.pairwise_iff_getElem.mp (List.nodup_iff_pairwise_ne.mp hn) j k hj2.2 hk' hj2.1 ej
      have lt : (O.take k).length = k := by rw [List.length_take]; omega
      have lz : (zipM 0 (O.take k)).length = k := by
        have := congrArg List.length (zipM_keys (O.take k) 0)
        rw [List.length_map, lt] at this
        exact this
      rw [ev, et, zipM_snoc, lt, Nat.zero_add, ← putO_new (d := .int (k : Int)) no]
      have p := fun ρ : Ev => putODK_ok (i := 13) (ρ := ρ) (kvs := zipM 0 (O.take k)) (d := .int (k : Int)) (k := O[k]) (by rw [ev_size]; omega)
      refine ⟨_, [a0, a1, a2, a3, a4, a5, a6, a7, a8, a9, .d (.int (k : Int)), a11, .d (.list (O.map .int)), .od (putO (zipM 0 (O.take k)) O[k] (.int (k : Int))), a14, a15, a16, a17], rfl, .inl ?_, _, rfl⟩
      generalize O.map PyData.int = OO at *
      simp [L3_law, ix, p]
  rw [len_range, List.take_length] at g2
  exact ⟨s10', g1.trans (by rw [g2])⟩
theorem v_isint (x : Int) : F_law_is_integer n [.int x] = .ok (.bool true) := by
  simp [F_law_is_integer, bodyF, M_law_is_integer, startE]
def cntS (c : Nat) (F : List Stp) : Nat := (F.filter fun s => decide (s.1 = c)).length
theorem v_cnt (F : List Stp) (h : Wf F) (hl : F.length ≤ 1000) (c : Nat) (hc : c < 14) (bt : Ev → D → Option Ev) (vs : List Nat) (me mt : Ev → R) (ρ : Ev) (hb : ∀ s ∈ F, ∃ ρ1, bt (wipeE ρ vs) (sd s) = some ρ1 ∧ mt ρ1 = (R.of (eqD (.str (Wd s.1)) (.str (Wd c)))) ∧ me ρ1 = .ok (sd s)) :
    compD (bt (wipeE ρ vs)) mt me (F.map sd) = .ok (.list ((F.filter fun s => decide (s.1 = c)).map sd)) :=
  comp_fil sd sd (fun s => decide (s.1 = c)) fun s hs => by
    obtain ⟨ρ1, h1, h2, h3⟩ := hb s hs
    refine ⟨ρ1, h1, ?_, fun _ => h3⟩
    rw [h2, wd_eq (keep_mem h s hs) hc]
    rfl
theorem v_steps (F : List Stp) (h : Wf F) (hl : F.length ≤ 1000) (c : Nat) (hc : c < 14) : F_steps_of n [.tuple (F.map sd), .str (Wd c)] = .ok (.int ((cntS c F : Nat) : Int)) := by
  have cc := v_cnt F h hl c hc (bName 2) [2] (mVar 2) (mBin eqD (mIx (mVarB 2) (mC (.int 0))) (mVar 1)) [.d (.tuple (F.map sd)), .d (.str (Wd c)), .un] fun s hs => ⟨_, rfl, by
    have ix0 : ixD (sd s) (.int 0) = .ok (.str (Wd s.1)) := by simp [sd]
    generalize sd s = S at *
    simp [wipeE, ix0], by simp [wipeE]⟩
  have l1 : (F.map sd).length ≤ 16777216 := by simp; omega
  unfold cntS
  generalize hG : (F.filter fun s => decide (s.1 = c)) = G at *
  have lG : (G.map sd).length = G.length := List.length_map ..
  refine f_ret rfl ?_
  show M_steps_of n [.d (.tuple (F.map sd)), .d (.str (Wd c)), .un] = _
  generalize G.map sd = GG at *
  generalize F.map sd = FF at *
  unfold M_steps_of
  refine o_ret ?_
  generalize hm : mBin eqD (mIx (mVarB 2) (mC (.int 0))) (mVar 1) = mm at *
  simp [wipeE] at cc
  simp [l1, cc, lG]
theorem law_ns (ns : List Int) (h : ns.length ≤ 63) : F_law 0 [scriptD ns] = .ok (.bool true) := by
  obtain ⟨x, hx⟩ := v_cell (n := 0) ns h 0 (by decide)
  obtain ⟨d, hd, d0⟩ := abs_ok x
  obtain ⟨ms, m1, m2, m3⟩ := v_numbers (n := 0) ns h 1 14 (by decide) (by decide) (by decide) (by decide)
  obtain ⟨w, w1, ew⟩ : ∃ w : Int, 1 ≤ w ∧ atI [PyData.int 64, .int 4096, .int 1048576] (d / 16 % 3) = some (.int w) := by
    have : d / 16 % 3 = 0 ∨ d / 16 % 3 = 1 ∨ d / 16 % 3 = 2 := by omega
    rcases this with e | e | e <;> rw [e]
    · exact ⟨64, by decide, by simp⟩
    · exact ⟨4096, by decide, by simp⟩
    · exact ⟨1048576, by decide, by simp⟩
  have mw : ∀ z : Int, modD (.int z) (.int w) = some (.int (z % w)) := fun z => ev_modI (by omega)
  have cn := comp_map (bt := bName 3 [.d (scriptD ns), .d (.int d), .un, .un, .un, .un, .un, .un, .un, .un, .un, .un, .un, .un, .un, .un, .un, .un]) (mt := mC (.bool true)) (me := mMod (mFun int1D (mCons (mVar 3) mNil)) (mIx (mLst (mCons (mC (.int 64)) (mCons (mC (.int 4096)) (mCons (mC (.int 1048576)) mNil)))) (mMod (mFdiv (mVar 1) (mC (.int 16))) (mC (.int 3)))))
    (fun z : Int => PyData.int z) (fun z => PyData.int (z % w)) (l := ms) fun z hz => ⟨_, rfl, rfl, by simp [ew, mw]⟩
  obtain ⟨F, f1, f2, f3, _⟩ := v_formula (n := 0) (ms.map (· % w) ++ [d / 64 % 9]) (fun z hz => by
    rcases List.mem_append.mp hz with q | q
    · obtain ⟨y, _, rfl⟩ := List.mem_map.mp q
      exact Int.emod_nonneg _ (by omega)
    · rw [List.mem_singleton.mp q]; omega) (by simp; omega) (by simp) (1 + d % 15) (by omega) (by omega)
  have lF : F.length ≤ 15 := by omega
  have nF : F ≠ [] := fun z => by
    rw [z] at f3
    simp at f3
    omega
  rw [List.map_append, List.map_map] at f1
  have em : ms.map ((fun z => PyData.int z) ∘ (· % w)) = ms.map fun z => PyData.int (z % w) := rfl
  rw [em] at f1
  simp only [List.map_cons, List.map_nil] at f1
  have ad : addD (.list (ms.map fun z => PyData.int (z % w))) (.list [.int (d / 64 % 9)]) = some (.list ((ms.map fun z => PyData.int (z % w)) ++ [.int (d / 64 % 9)])) := by
    rw [ev_addL (by rw [ev_size]; simp; omega)]
  have lms : ms.length ≤ 16777216 := by omega
  have td := v_tidied (n := 0) F f2 nF (by omega)
  have tt := tidy_tidy f2 nF
  have tl := tidy_len f2 nF
  have td2 := v_tidied (n := 0) (tidy F) tt.1.w tt.1.n (by omega)
  rw [tt.2] at td2
  have isf := v_is_formula (n := 0) (tidy F) tt.1.w (by omega) tt.1.n
  have al := v_alike (n := 0) (.tuple ((tidy F).map sd)) (tt.1.w.lowT (by omega) 3)
  have nl := ne_low (tt.1.w.lowT (by omega) 3)
  have ko := keep_all f2
  have T := tid_ok f2 nF
  obtain ⟨s7, s8, q1⟩ := l_loop1 (n := 0) F f2 (by omega) (.d (scriptD ns)) (.d (.int d)) (.d (.list (ms.map fun z => PyData.int (z % w)))) .un .un .un .un .un .un .un .un .un .un
  have hlast : atI ((keepK F).2.map PyData.int) (((((keepK F).2.map PyData.int).length : Nat) : Int) - 1) = some (.int ((keepK F).2.getLastD 0)) := by
    have lp := ko.l
    have hp : (keepK F).2 ≠ [] := fun z => by
      have := List.length_pos_iff.mpr nF
      rw [z] at lp; simp at lp; omega
    have hp2 := List.length_pos_iff.mpr hp
    rw [List.length_map, List.getLastD_eq_getLast?, List.getLast?_eq_getElem?]
    rw [show (((keepK F).2.length : Nat) : Int) - 1 = (((keepK F).2.length - 1 : Nat) : Int) by omega, FL.atI_nat (by rw [List.length_map]; omega)]
    rw [List.getElem_map, List.getElem?_eq_getElem (by omega)]
    rfl
  have lK := ko.m
  have sc : ∀ c, c < 14 → _ := fun c hc => v_steps (n := 0) F f2 (by omega) c hc
  have cL : ∀ c : Nat, c < 14 → ∀ b4 b5 b6 b8 b9 b10 b11 b12 b13 b14 b15 b17, compD (bName 7 (wipeE [.d (scriptD ns), .d (.int d), .d (.list (ms.map fun z => PyData.int (z % w))), .un, b4, b5, b6, s7, b8, b9, b10, b11, b12, b13, b14, b15, .d (.str (Wd c)), b17] [7])) (mBin eqD (mIx (mVarB 7) (mC (.int 0))) (mVar 16)) (mVar 7) (F.map sd) = .ok (.list ((F.filter fun s => decide (s.1 = c)).map sd)) :=
    fun c hc b4 b5 b6 b8 b9 b10 b11 b12 b13 b14 b15 b17 => v_cnt F f2 (by omega) c hc (bName 7) [7] (mVar 7) (mBin eqD (mIx (mVarB 7) (mC (.int 0))) (mVar 16)) _ fun s hs => ⟨_, rfl, by
      have ix0 : ixD (sd s) (.int 0) = .ok (.str (Wd s.1)) := by simp [sd]
      generalize sd s = S at *
      simp [wipeE, ix0], by simp [wipeE]⟩
  unfold tidy at td al nl isf td2
  generalize (keepK F).2.getLastD 0 = l at *
  generalize hPP : (keepK F).2 = PP at *
  generalize hKK : (keepK F).1 = K at *
  obtain ⟨U, s10, s11, q2, q3, q4⟩ := l_loop2 (n := 0) K T.w (by omega) l T.l0 T.l1 (.d (scriptD ns)) (.d (.int d)) (.d (.list (ms.map fun z => PyData.int (z % w)))) .un (.d (.tuple (F.map sd))) (.d (.list (PP.map .int))) s7 s8 .un .un .un .un .un .un
  have so := sortSet_ok (ns := U) (by omega)
  have eO : setI U = tidO K l := tidO_of T.w T.l0 q3 (setI_up _) fun k => setI_mem
  rw [eO] at so
  have lO := T.len
  obtain ⟨s10', q5⟩ := l_loop3 (n := 0) (tidO K l) (T.up.imp fun z => by omega) (by omega) (.d (scriptD ns)) (.d (.int d)) (.d (.list (ms.map fun z => PyData.int (z % w)))) .un (.d (.tuple (F.map sd))) (.d (.list (K.map sd))) (.d (.list (PP.map .int))) s7 s8 (.d (.list (U.map .int))) s10 s11 .un .un .un .un
  have cm := comp_map (bt := bName 11 [.d (scriptD ns), .d (.int d), .d (.list (ms.map fun z => PyData.int (z % w))), .un, .d (.tuple (F.map sd)), .d (.list (K.map sd)), .d (.list (PP.map .int)), s7, s8, .d (.list (U.map .int)), s10', .un, .d (.list ((tidO K l).map .int)), .od (zipM 0 (tidO K l)), .un, .un, .un, .un]) (mt := mC (.bool true)) (me := mCallD (FB_law_moved 0) 13 (mIx (mVarB 5) (mVar 11)))
    (fun u : Int => PyData.int u) (fun u => sd (mvO (tidO K l) (K.getD u.toNat (1, [])))) (l := tidO K l) fun u hu => ⟨_, rfl, rfl, by
      obtain ⟨s, e1, e2, ok⟩ := T.at hu
      rw [e2]
      have b := T.r.b u hu
      have hl1 := T.l1
      have ix : atI (K.map sd) u = some (sd s) := by
        obtain ⟨v, rfl⟩ : ∃ v : Nat, u = v := ⟨u.toNat, by omega⟩
        rw [Int.toNat_natCast] at e1
        obtain ⟨hv, ev⟩ := List.getElem?_eq_some_iff.mp e1
        rw [FL.atI_nat (by simpa using hv)]
        simp [ev]
      have r := v_lmvB (n := 0) u.toNat s (tidO K l) (zipM 0 (tidO K l)) ok fun h2 i hi => by
        rw [zipM_get 0 (T.arg hu e1 h2 hi).1, Nat.zero_add]
      refine callD_ok (kvs := zipM 0 (tidO K l)) (d := sd s) (by simp) ?_ r (flat_sd _)
      generalize sd s = S at *
      generalize K.map sd = KK at *
      simp [ix]⟩
  have er : (tidG K (tidO K l)).map sd = (tidO K l).map fun u => sd (mvO (tidO K l) (K.getD u.toNat (1, []))) := by
    unfold tidG
    rw [List.map_map]
    rfl
  rw [← er] at cm
  have lK2 : (K.map sd).length = K.length := List.length_map ..
  have lO2 : ((tidO K l).map PyData.int).length = (tidO K l).length := List.length_map ..
  have lO3 : ((tidO K l).map PyData.int).length ≤ 16777216 := by rw [lO2]; omega
  have bK : (K.length : Int) < 4611686018427387904 := by omega
  have bO : ((tidO K l).length : Int) < 4611686018427387904 := by omega
  have bK2 : -4611686018427387904 ≤ (K.length : Int) := by omega
  have bO2 : -4611686018427387904 ≤ ((tidO K l).length : Int) := by omega
  have lFF : (F.map sd).length ≤ 16777216 := by simp; omega
  have lo5 : ∃ ρ', forD (bName 16) (L4_law 0) [.str "number", .str "pi", .str "add", .str "times", .str "root", .str "log"] [.d (scriptD ns), .d (.int d), .d (.list (ms.map fun z => PyData.int (z % w))), .un, .d (.tuple (F.map sd)), .d (.list (K.map sd)), .d (.list (PP.map .int)), s7, s8, .d (.list (U.map .int)), s10', s11, .d (.list ((tidO K l).map .int)), .od (zipM 0 (tidO K l)), .d (.tuple ((tidG K (tidO K l)).map sd)), .d (.tuple ((tidG K (tidO K l)).map sd)), .un, .un] = .nx ρ' := by
    obtain ⟨ρ', u1, _⟩ := for_inv (bt := bName 16) (m1 := L4_law 0) (ds := [.str "number", .str "pi", .str "add", .str "times", .str "root", .str "log"]) (ρ := [.d (scriptD ns), .d (.int d), .d (.list (ms.map fun z => PyData.int (z % w))), .un, .d (.tuple (F.map sd)), .d (.list (K.map sd)), .d (.list (PP.map .int)), s7, s8, .d (.list (U.map .int)), s10', s11, .d (.list ((tidO K l).map .int)), .od (zipM 0 (tidO K l)), .d (.tuple ((tidG K (tidO K l)).map sd)), .d (.tuple ((tidG K (tidO K l)).map sd)), .un, .un])
      (P := fun k ρ => ∃ b16 b17, ρ = [.d (scriptD ns), .d (.int d), .d (.list (ms.map fun z => PyData.int (z % w))), .un, .d (.tuple (F.map sd)), .d (.list (K.map sd)), .d (.list (PP.map .int)), s7, s8, .d (.list (U.map .int)), s10', s11, .d (.list ((tidO K l).map .int)), .od (zipM 0 (tidO K l)), .d (.tuple ((tidG K (tidO K l)).map sd)), .d (.tuple ((tidG K (tidO K l)).map sd)), b16, b17]) ⟨.un, .un, rfl⟩ fun k ρ hk ⟨b16, b17, e⟩ => by
        subst e
        have hk' : k < 6 := hk
        obtain ⟨c, hc, ec⟩ : ∃ c, c < 14 ∧ ([.str "number", .str "pi", .str "add", .str "times", .str "root", .str "log"] : List D)[k] = .str (Wd c) := by
          match k, hk' with
          | 0, _ => exact ⟨0, by decide, rfl⟩
          | 1, _ => exact ⟨1, by decide, rfl⟩
          | 2, _ => exact ⟨2, by decide, rfl⟩
          | 3, _ => exact ⟨4, by decide, rfl⟩
          | 4, _ => exact ⟨6, by decide, rfl⟩
          | 5, _ => exact ⟨10, by decide, rfl⟩
          | k + 6, h => omega
        rw [ec]
        have st := sc c hc
        have cl := cL c hc (.d (.tuple (F.map sd))) (.d (.list (K.map sd))) (.d (.list (PP.map .int))) s8 (.d (.list (U.map .int))) s10' s11 (.d (.list ((tidO K l).map .int))) (.od (zipM 0 (tidO K l))) (.d (.tuple ((tidG K (tidO K l)).map sd))) (.d (.tuple ((tidG K (tidO K l)).map sd))) (.d (.int ((cntS c F : Nat) : Int)))
        have ai := v_alike (n := 0) (.int ((cntS c F : Nat) : Int)) trivial
        have ii := v_isint (n := 0) ((cntS c F : Nat) : Int)
        have lc : ((F.filter fun s => decide (s.1 = c)).map sd).length = cntS c F := List.length_map ..
        refine ⟨_, [.d (scriptD ns), .d (.int d), .d (.list (ms.map fun z => PyData.int (z % w))), .un, .d (.tuple (F.map sd)), .d (.list (K.map sd)), .d (.list (PP.map .int)), s7, s8, .d (.list (U.map .int)), s10', s11, .d (.list ((tidO K l).map .int)), .od (zipM 0 (tidO K l)), .d (.tuple ((tidG K (tidO K l)).map sd)), .d (.tuple ((tidG K (tidO K l)).map sd)), .d (.str (Wd c)), .d (.int ((cntS c F : Nat) : Int))], rfl, .inl ?_, _, _, rfl⟩
        generalize (F.filter fun s => decide (s.1 = c)).map sd = CC at *
        generalize cntS c F = nn at *
        generalize F.map sd = FF at *
        generalize K.map sd = KK at *
        generalize (tidG K (tidO K l)).map sd = GG at *
        generalize (tidO K l).map PyData.int = OO at *
        generalize scriptD ns = sS at *
        generalize hm : mBin eqD (mIx (mVarB 7) (mC (.int 0))) (mVar 16) = mm at *
        unfold L4_law
        rw [hm]
        refine o_set (d := .int nn) (by simp [st]) ?_
        simp only [List.set_cons_zero, List.set_cons_succ]
        refine o_ifF ?_ rfl
        simp [wipeE] at cl
        simp [ii, lFF, cl, lc, ai]
    exact ⟨ρ', u1⟩
  obtain ⟨ρ5, q6⟩ := lo5
  generalize (tidG K (tidO K l)).map sd = GG at *
  generalize F.map sd = FF at *
  generalize K.map sd = KK at *
  generalize scriptD ns = sS at *
  generalize hms : (ms.map fun z => PyData.int (z % w)) = MM at *
  generalize hOO : (tidO K l).map PyData.int = OO at *
  generalize hP2 : PP.map PyData.int = P2 at *
  generalize hU2 : U.map PyData.int = U2 at *
  refine f_ret rfl ?_
  unfold M_law
  simp only [startE, List.map_cons, List.map_nil, List.length_cons, List.length_nil, Nat.reduceAdd, Nat.reduceSub, List.reduceReplicate, List.cons_append, List.nil_append, Nat.zero_add, List.replicate_zero, List.append_nil]
  refine o_set (d := .int d) (by simp [hx, hd]) ?_
  simp only [List.set_cons_zero, List.set_cons_succ]
  refine o_set (d := .list MM) (by
    generalize hm : mMod (mFun int1D (mCons (mVar 3) mNil)) (mIx (mLst (mCons (mC (.int 64)) (mCons (mC (.int 4096)) (mCons (mC (.int 1048576)) mNil)))) (mMod (mFdiv (mVar 1) (mC (.int 16))) (mC (.int 3)))) = mm at *
    simp [m1, lms, cn]) ?_
  simp only [List.set_cons_zero, List.set_cons_succ]
  refine o_set (d := .tuple FF) (by simp [ad, f1]) ?_
  simp only [List.set_cons_zero, List.set_cons_succ]
  refine o_setL (ds := []) (by simp) ?_
  simp only [List.set_cons_zero, List.set_cons_succ]
  refine o_setL (ds := []) (by simp) ?_
  simp only [List.set_cons_zero, List.set_cons_succ]
  refine o_for (by simp) q1 ?_
  refine o_nx (ρ' := [.d sS, .d (.int d), .d (.list MM), .un, .d (.tuple FF), .d (.list KK), .d (.list P2), s7, s8, .d (.list [.int l]), .un, .un, .un, .un, .un, .un, .un, .un]) (by simp [hlast, frz]) ?_
  refine o_for (by simp [lK2, bK, bK2]) q2 ?_
  refine o_set (d := .list OO) (by simp [so]) ?_
  simp only [List.set_cons_zero, List.set_cons_succ]
  refine o_nx (by simp; rfl) ?_
  refine o_for (by simp [lO2, bO, bO2]) q5 ?_
  refine o_set (d := .tuple GG) (by
    generalize hm : mCallD (FB_law_moved 0) 13 (mIx (mVarB 5) (mVar 11)) = mm at *
    simp [lO3, cm]) ?_
  simp only [List.set_cons_zero, List.set_cons_succ]
  refine o_set (d := .tuple GG) (by simp [td]) ?_
  simp only [List.set_cons_zero, List.set_cons_succ]
  refine o_skip (by simp [al, isf, td2, nl]) ?_
  refine o_for (by simp) q6 ?_
  exact o_ret (by simp)

end

section
variable {P : Program} {w : World} {K : PySem.W.Frag} {h : Heap} {mg : Str → Option Value} {f : Addr}
theorem facts [TabNames] (X : K.In h) (G : h.Ns mainGlobals mg) (hfa : mg ("law" : Str) = some (.ref f)) (c : obsK fs fn K = wantK fn) :
    ∃ fd : FuncData, (∀ (s : Shared) (v : Value), BindsTo s fd ⟨[v], []⟩ [("script", v)]) ∧ ∀ base : Heap, K.In base → base.Ns mainGlobals mg → FnOk TabNames.pg TabNames.wo K mg base (L2.CX TabNames.pg TabNames.wo) 7 f fd ["script"] (SpF K mg 1 (F_law 0)) := by
  have T : Tx K mg := tx_of X G c
  obtain ⟨fd, dA⟩ := T.d_law
  have e := hfa.symm.trans dA.g
  cases e
  have b := FunD.bindsA (ps := ["script"]) dA.F fun _ _ _ _ _ _ us hl => match us, hl with | [_], _ => rfl
  exact ⟨fd, fun s v => b s [v] rfl, fun base _ _ => ok_law T 0 dA⟩
end
end Lk08
open PySem PySem.W PySem.Calls PyProof.Rows
theorem PySem.Challenge.cw_portolan_k08_formulas_tidied_holds : PySem.Challenge.rw_portolan_k08_formulas_tidied.Holds := by
  w_on; o_law
  refine HandSHeadRun.head_any (r := Lk08.Rw) (q := view Lk08.Rw.prog [17]) (H := Lk08.hk) (ob := Lk08.ob) (M := 3000) (loose := Lk08.loose) (d := HandSHeadRun.topDef Lk08.Rw.prog 17) (kwd := []) Lk08.ob_eq
    (by kernel_rfl) (fun s => by kernel_rfl) Lk08.run (by kernel_rfl) (by kernel_rfl) (by kernel_rfl) (by rfl) (by first | assumption | decide +kernel) (by decide +kernel) ⟨rfl, rfl, rfl, rfl, rfl, by decide +kernel⟩ ?hw ?hc
  case hw => w_witness2
  case hc =>
    refine FL.walk_end (tb := fun w => ⟨fun _ => "", [], (PySem.Challenge.rw_portolan_k08_formulas_tidied).prog, w⟩) (l := PySem.Challenge.rw_portolan_k08_formulas_tidied) (n := 63) (k := 7) (x := "script") (f := Lk08.F_law 0) (fun _ => rfl) rfl (by decide) (by kernel_rfl) ⟨rfl, by decide, by decide⟩ ?hF fun w ns h1 h2 => (letI : FL.TabNames := ⟨fun _ => "", [], (PySem.Challenge.rw_portolan_k08_formulas_tidied).prog, w⟩; Lk08.law_ns ns h1)
    intro w mg fa h Y G hmg0
    obtain ⟨K, KX, c⟩ := Y
    have hmg : mg ("law" : PySem.Str) = some (.ref fa) := by
      rw [← show (HandSHeadRun.topDef Lk08.Rw.prog 17).name = ("law" : PySem.Str) from by kernel_rfl]
      exact hmg0
    letI : FL.TabNames := ⟨fun _ => "", [], (PySem.Challenge.rw_portolan_k08_formulas_tidied).prog, w⟩
    obtain ⟨fd, hb, hF⟩ := Lk08.facts KX G hmg c
    exact ⟨K, fd, KX, hb, hF⟩
