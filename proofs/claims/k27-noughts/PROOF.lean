import PyProof.Rows.All
import Wide.All
import OpenK.AllK
import Wide.FinOn
import HandS.Base
import HandS.Call
import HandS.List
import HandS.Comp
import HandS.Dict
import HandS.Iter
import HandS.Exc
import HandS.ExcOwn
import HandS.ForMost
import HandS.ForExc
import HandS.Words
import HandS.TupAny
import HandS.TupMul
import HandS.Wide
import HandS.IsInst
import PyProof.ListMulAny
import KE.KTupSum
import HandS.CallSlots
import KE.GoesMore
import HandS.Style
import HandS.NoneIn
import PySem.Challenge.RW_believedruns_k27_whole_noughts_known_ahe
set_option Elab.async false
section
set_option Elab.async false
set_option linter.all false
set_option maxRecDepth 100000
/-! A tree layer over the hand layer: values as trees, a small store of dicts, each construct's meaning as a plain function. -/
namespace TL
open PySem PySem.Spec PyProof.Rows L2
abbrev St := L2.St

/-! ### values as trees -/
inductive T where
  | non | bl (b : Bool) | int (i : Int) | str (x : Str)
  | tup (ts : List T) | lst (ts : List T)
  /-- a def or class of the module, by its name -/
  | fn (x : Str)
  /-- a built-in class -/
  | ty (n : String)
  /-- the i-th thing of the store -/
  | ptr (i : Nat)
  /-- an instance that is never changed: its class, its attributes' names, their values -/
  | ins (c : Str) (ks : List Str) (ts : List T)
  deriving Inhabited

/-- things that change -/
inductive MO where
  | dK (kvs : List (Key × T))
abbrev Sto := List MO

/-- an exception: its class, its fields -/
structure Exc where
  c : Str
  ks : List Str
  ts : List T

/-- what the module knows -/
structure Gd where
  K : PySem.W.Frag
  mg : Str → Option Value

mutual
inductive Rep (G : Gd) (F : Hp) (ι : List Addr) : V → T → Prop
  | non : Rep G F ι .non .non
  | bl (b : Bool) : Rep G F ι (.bl b) (.bl b)
  | int (i : Int) : Rep G F ι (.int i) (.int i)
  | str (x : Str) : Rep G F ι (.str x) (.str x)
  | tup {a : Addr} {vs : List V} {ts : List T} : SqT G.K F a vs → Reps G F ι vs ts → Rep G F ι (.ref a) (.tup ts)
  | lst {a : Addr} {vs : List V} {ts : List T} : SqL G.K F a vs → Reps G F ι vs ts → Rep G F ι (.ref a) (.lst ts)
  | fn {a : Addr} {x : Str} : G.mg x = some (.ref a) → Rep G F ι (.ref a) (.fn x)
  | ty (n : String) : Rep G F ι (.ty n) (.ty n)
  | ptr {a : Addr} {i : Nat} : ι[i]? = some a → Rep G F ι (.ref a) (.ptr i)
  | ins {a C dx : Addr} {c : Str} {fs : List (Str × V)} {ks : List Str} {ts : List T} : G.mg c = some (.ref C) → F a = some (.ins C dx fs) → fs.map (·.1) = ks → Reps G F ι (fs.map (·.2)) ts → Rep G F ι (.ref a) (.ins c ks ts)
inductive Reps (G : Gd) (F : Hp) (ι : List Addr) : List V → List T → Prop
  | nil : Reps G F ι [] []
  | cons {v : V} {vs : List V} {t : T} {ts : List T} : Rep G F ι v t → Reps G F ι vs ts → Reps G F ι (v :: vs) (t :: ts)
end

theorem sqT_mono {K : PySem.W.Frag} {F F' : Hp} {a : Addr} {xs : List V} (e : Same F F') (h : SqT K F a xs) : SqT K F' a xs := by
  rcases h with (h | ⟨o, h⟩) | h
  · exact .inl (.inl (e _ _ h))
  · exact .inl (.inr ⟨o, e _ _ h⟩)
  · exact .inr h

section
variable {G : Gd} {F F' : Hp} {ι ι' : List Addr}
mutual
theorem Rep.mono (e : Same F F') (p : ι <+: ι') : ∀ {v : V} {t : T}, Rep G F ι v t → Rep G F' ι' v t
  | _, _, .non => .non
  | _, _, .bl b => .bl b
  | _, _, .int i => .int i
  | _, _, .str x => .str x
  | _, _, .tup h r => .tup (sqT_mono e h) (Reps.mono e p r)
  | _, _, .lst h r => .lst (e.seq h) (Reps.mono e p r)
  | _, _, .fn h => .fn h
  | _, _, .ty n => .ty n
  | _, _, .ptr h => .ptr (by
      obtain ⟨n, rfl⟩ := p
      rw [List.getElem?_append_left (List.getElem?_eq_some_iff.mp h).1]
      exact h)
  | _, _, .ins h1 h2 h3 r => .ins h1 (e _ _ h2) h3 (Reps.mono e p r)
theorem Reps.mono (e : Same F F') (p : ι <+: ι') : ∀ {vs : List V} {ts : List T}, Reps G F ι vs ts → Reps G F' ι' vs ts
  | _, _, .nil => .nil
  | _, _, .cons r rs => .cons (Rep.mono e p r) (Reps.mono e p rs)
end
theorem Reps.length : ∀ {vs : List V} {ts : List T}, Reps G F ι vs ts → vs.length = ts.length
  | _, _, .nil => rfl
  | _, _, .cons _ r => by rw [List.length_cons, List.length_cons, r.length]
theorem Reps.get : ∀ {vs : List V} {ts : List T} {i : Nat} {t : T}, Reps G F ι vs ts → ts[i]? = some t → ∃ v, vs[i]? = some v ∧ Rep G F ι v t
  | _, _, i, _, .nil, h => by simp at h
  | _, _, 0, t, .cons r _, h => by
    have e := Option.some.inj h
    subst e
    exact ⟨_, rfl, r⟩
  | _, _, i + 1, t, .cons _ r, h => by
    obtain ⟨v, e, q⟩ := r.get (i := i) (t := t) (by simpa using h)
    exact ⟨v, by simpa using e, q⟩
theorem Reps.getV : ∀ {vs : List V} {ts : List T} {i : Nat} {v : V}, Reps G F ι vs ts → vs[i]? = some v → ∃ t, ts[i]? = some t ∧ Rep G F ι v t
  | _, _, i, _, .nil, h => by simp at h
  | _, _, 0, t, .cons r _, h => by
    have e := Option.some.inj h
    subst e
    exact ⟨_, rfl, r⟩
  | _, _, i + 1, t, .cons _ r, h => by
    obtain ⟨v, e, q⟩ := r.getV (i := i) (v := t) (by simpa using h)
    exact ⟨v, by simpa using e, q⟩
theorem Reps.append : ∀ {vs us : List V} {ts rs : List T}, Reps G F ι vs ts → Reps G F ι us rs → Reps G F ι (vs ++ us) (ts ++ rs)
  | _, _, _, _, .nil, s => s
  | _, _, _, _, .cons r t, s => .cons r (Reps.append t s)
theorem Reps.take : ∀ {vs : List V} {ts : List T} (n : Nat), Reps G F ι vs ts → Reps G F ι (vs.take n) (ts.take n)
  | _, _, 0, _ => .nil
  | _, _, _ + 1, .nil => .nil
  | _, _, n + 1, .cons r t => .cons r (Reps.take n t)
theorem Reps.drop : ∀ {vs : List V} {ts : List T} (n : Nat), Reps G F ι vs ts → Reps G F ι (vs.drop n) (ts.drop n)
  | _, _, 0, r => r
  | _, _, _ + 1, .nil => .nil
  | _, _, n + 1, .cons _ t => Reps.drop n t
theorem Reps.set {v : V} {t : T} (r : Rep G F ι v t) : ∀ {vs : List V} {ts : List T} (i : Nat), Reps G F ι vs ts → Reps G F ι (vs.set i v) (ts.set i t)
  | _, _, _, .nil => .nil
  | _, _, 0, .cons _ q => .cons r q
  | _, _, i + 1, .cons p q => .cons p (Reps.set r i q)
theorem Reps.reverse : ∀ {vs : List V} {ts : List T}, Reps G F ι vs ts → Reps G F ι vs.reverse ts.reverse
  | _, _, .nil => .nil
  | _, _, .cons r q => by
    rw [List.reverse_cons, List.reverse_cons]
    exact (Reps.reverse q).append (.cons r .nil)
theorem Reps.rep {vs : List V} {ts : List T} (r : Reps G F ι vs ts) : ∀ k : Nat, Reps G F ι (List.replicate k vs).flatten (List.replicate k ts).flatten
  | 0 => .nil
  | k + 1 => by
    rw [List.replicate_succ, List.replicate_succ, List.flatten_cons, List.flatten_cons]
    exact r.append (r.rep k)
end

/-! ### the store, the heap -/
def MOk (G : Gd) (F : Hp) (ι : List Addr) (H : Hp) (a : Addr) : MO → Prop
  | .dK kvs => ∃ kv : List (Key × V), H a = some (.dK kv) ∧ kv.map (·.1) = kvs.map (·.1) ∧ Reps G F ι (kv.map (·.2)) (kvs.map (·.2))

structure HRel (G : Gd) (F : Hp) (ι : List Addr) (M : Sto) (H : Hp) : Prop where
  sub : Same F H
  len : ι.length = M.length
  nd : ι.Nodup
  out : ∀ a ∈ ι, F a = none
  mo : ∀ (i : Nat) (a : Addr) (o : MO), ι[i]? = some a → M[i]? = some o → MOk G F ι H a o

theorem MOk.there {G : Gd} {F : Hp} {ι : List Addr} {H : Hp} {a : Addr} {o : MO} (h : MOk G F ι H a o) : ∃ u, H a = some u := by
  cases o with
  | dK kvs =>
    obtain ⟨kv, e, _⟩ := h
    exact ⟨_, e⟩
theorem HRel.there {G : Gd} {F : Hp} {ι : List Addr} {M : Sto} {H : Hp} (h : HRel G F ι M H) {a : Addr} (m : a ∈ ι) : ∃ u, H a = some u := by
  obtain ⟨i, e⟩ := List.mem_iff_getElem?.mp m
  have hi := (List.getElem?_eq_some_iff.mp e).1
  rw [h.len] at hi
  exact (h.mo i a _ e (List.getElem?_eq_getElem hi)).there

/-- what an expression does to the heap: all stays but the store's things, what is new is new -/
structure Ext (F : Hp) (ι : List Addr) (H : Hp) (F' : Hp) (ι' : List Addr) (H' : Hp) : Prop where
  mono : Same F F'
  pre : ι <+: ι'
  keep : ∀ a o, a ∉ ι → H a = some o → H' a = some o
  dom : ∀ a o, H a = some o → ∃ o', H' a = some o'
  newF : ∀ a, F a = none → F' a ≠ none → H a = none
  newI : ∀ a ∈ ι', a ∈ ι ∨ H a = none

theorem Ext.refl {F : Hp} {ι : List Addr} {H : Hp} : Ext F ι H F ι H :=
  ⟨Same.refl F, List.prefix_rfl, fun _ _ _ h => h, fun _ o h => ⟨o, h⟩, fun _ h n => absurd h n, fun _ h => .inl h⟩
theorem Ext.trans {F F1 F2 H H1 H2 : Hp} {ι ι1 ι2 : List Addr} (a : Ext F ι H F1 ι1 H1) (b : Ext F1 ι1 H1 F2 ι2 H2) : Ext F ι H F2 ι2 H2 where
  mono := a.mono.trans b.mono
  pre := a.pre.trans b.pre
  keep := fun c o n h => b.keep c o (fun m => (a.newI c m).elim n fun z => (by rw [h] at z; cases z)) (a.keep c o n h)
  dom := fun c o h => by
    obtain ⟨o', h'⟩ := a.dom c o h
    exact b.dom c o' h'
  newF := fun c h n => by
    cases q : F1 c with
    | none =>
      have z := b.newF c q n
      cases r : H c with
      | none => rfl
      | some o =>
        obtain ⟨o', h'⟩ := a.dom c o r
        rw [z] at h'
        cases h'
    | some o => exact a.newF c h (by rw [q]; exact fun z => nomatch z)
  newI := fun c m => by
    rcases b.newI c m with m1 | z
    · exact a.newI c m1
    · refine .inr ?_
      cases r : H c with
      | none => rfl
      | some o =>
        obtain ⟨o', h'⟩ := a.dom c o r
        rw [z] at h'
        cases h'

/-! ### slots -/
inductive Slot where
  /-- nothing is known -/
  | un
  | val (t : T)
  /-- a list that this name alone holds -/
  | own (ts : List T)
  /-- a caught exception -/
  | ex (e : Exc)
  deriving Inhabited

structure SRel (G : Gd) (H0 : Hp) (F : Hp) (ι : List Addr) (ρ : List Slot) (σ : St) (H : Hp) : Prop where
  len : ρ.length = σ.length
  val : ∀ (i : Nat) (t : T), ρ[i]? = some (.val t) → ∃ v, σ[i]? = some (some v) ∧ Rep G F ι v t
  own : ∀ (i : Nat) (ts : List T), ρ[i]? = some (.own ts) → ∃ a vs, σ[i]? = some (some (.ref a)) ∧ H a = some (.lst vs) ∧ F a = none ∧ a ∉ ι ∧ H0 a = none ∧ Reps G F ι vs ts
  sep : ∀ (i j : Nat) (t u : List T) (a : Addr), ρ[i]? = some (.own t) → ρ[j]? = some (.own u) → σ[i]? = some (some (.ref a)) → σ[j]? = some (some (.ref a)) → i = j

theorem SRel.ext {G : Gd} {H0 F F' H H' : Hp} {ι ι' : List Addr} {ρ : List Slot} {σ : St} (s : SRel G H0 F ι ρ σ H) (e : Ext F ι H F' ι' H') : SRel G H0 F' ι' ρ σ H' where
  len := s.len
  val := fun i t h => by
    obtain ⟨v, h1, h2⟩ := s.val i t h
    exact ⟨v, h1, h2.mono e.mono e.pre⟩
  own := fun i ts h => by
    obtain ⟨a, vs, h1, h2, h3, h4, h5, h6⟩ := s.own i ts h
    refine ⟨a, vs, h1, e.keep a _ h4 h2, ?_, (fun m => (e.newI a m).elim h4 fun z => (by rw [h2] at z; cases z)), h5, h6.mono e.mono e.pre⟩
    cases q : F' a with
    | none => rfl
    | some o =>
      have z := e.newF a h3 (by rw [q]; exact fun z => nomatch z)
      rw [h2] at z
      cases z
  sep := s.sep

/-! ### outcomes -/
inductive R (α : Type) where
  | stuck
  | ok (t : α) (M : Sto)
  | exc (e : Exc) (M : Sto)
abbrev EM (α : Type) := List Slot → Sto → R α
def R.bind {α β : Type} (r : R α) (k : α → Sto → R β) : R β := match r with
  | .stuck => .stuck
  | .ok t M => k t M
  | .exc e M => .exc e M

/-- an exception as it lies -/
def ERep (G : Gd) (F : Hp) (ι : List Addr) (H : Hp) (cls : Value) (d : Option Addr) (e : Exc) : Prop :=
  ∃ C dd fs, G.mg e.c = some (.ref C) ∧ cls = .ref C ∧ d = some dd ∧ H dd = some (.xd fs) ∧ dd ∉ ι ∧ fs.map (·.1) = e.ks ∧ Reps G F ι (fs.map (·.2)) e.ts

def Post {α : Type} (G : Gd) (F : Hp) (ι : List Addr) (H : Hp) (r : R α) (ok : α → Sto → Hp → List Addr → Hp → Prop) (W : Value → Option Addr → Exc → Sto → Hp → List Addr → Hp → Prop) : Prop := match r with
  | .stuck => False
  | .ok t M' => ∀ F' ι' H', Ext F ι H F' ι' H' → HRel G F' ι' M' H' → ok t M' F' ι' H'
  | .exc e M' => ∀ cls d F' ι' H', Ext F ι H F' ι' H' → HRel G F' ι' M' H' → ERep G F' ι' H' cls d e → W cls d e M' F' ι' H'
section
variable {α β : Type} {G : Gd} {F F1 H H1 : Hp} {ι ι1 : List Addr} {r : R α} {ok ok' : α → Sto → Hp → List Addr → Hp → Prop} {W W' : Value → Option Addr → Exc → Sto → Hp → List Addr → Hp → Prop}
theorem Post.imp (p : Post G F ι H r ok W) (h : ∀ t M' F' ι' H', Ext F ι H F' ι' H' → HRel G F' ι' M' H' → ok t M' F' ι' H' → ok' t M' F' ι' H')
    (h' : ∀ cls d e M' F' ι' H', Ext F ι H F' ι' H' → HRel G F' ι' M' H' → ERep G F' ι' H' cls d e → W cls d e M' F' ι' H' → W' cls d e M' F' ι' H') : Post G F ι H r ok' W' := by
  cases r with
  | stuck => exact p
  | ok t M' => exact fun F' ι' H' e hr => h _ _ _ _ _ e hr (p F' ι' H' e hr)
  | exc x M' => exact fun cls d F' ι' H' e hr er => h' _ _ _ _ _ _ _ e hr er (p cls d F' ι' H' e hr er)
theorem Post.shift (e : Ext F ι H F1 ι1 H1) (p : Post G F ι H r ok W) : Post G F1 ι1 H1 r ok W := by
  cases r with
  | stuck => exact p
  | ok t M' => exact fun F' ι' H' e' hr => p F' ι' H' (e.trans e') hr
  | exc x M' => exact fun cls d F' ι' H' e' hr er => p cls d F' ι' H' (e.trans e') hr er
theorem Post.bind {k : α → Sto → R β} {okb : β → Sto → Hp → List Addr → Hp → Prop} (p : Post G F ι H (r.bind k) okb W) :
    Post G F ι H r (fun t M1 F1 ι1 H1 => Post G F1 ι1 H1 (k t M1) okb W) W := by
  cases r with
  | stuck => exact p
  | ok t M' => exact fun F' ι' H' e hr => p.shift e
  | exc x M' => exact p
end

/-! ### judgements -/
abbrev gd (X : Cx) : Gd := ⟨X.K, X.mg⟩
/-- what is wanted of an exception at the slots ρ -/
abbrev WT := Value → Option Addr → St → Hp → Prop
def rdE (G : Gd) (W : WT) (m : EM T) : TE := fun σ H Q => ∃ H0 F ι ρ M, HRel G F ι M H ∧ SRel G H0 F ι ρ σ H ∧
  Post G F ι H (m ρ M) (fun t M' F' ι' H' => ∀ v, Rep G F' ι' v t → Q v H') (fun cls d e M' F' ι' H' => W cls d σ H')
def rdT (G : Gd) (W : WT) (m : EM Bool) : TT := fun σ H Q => ∃ H0 F ι ρ M, HRel G F ι M H ∧ SRel G H0 F ι ρ σ H ∧
  Post G F ι H (m ρ M) (fun b M' F' ι' H' => Q b H') (fun cls d e M' F' ι' H' => W cls d σ H')
def rdA (G : Gd) (W : WT) (m : EM (List T)) : TA := fun σ H Q => ∃ H0 F ι ρ M, HRel G F ι M H ∧ SRel G H0 F ι ρ σ H ∧
  Post G F ι H (m ρ M) (fun ts M' F' ι' H' => ∀ vs, Reps G F' ι' vs ts → Q vs H') (fun cls d e M' F' ι' H' => W cls d σ H')
def JE (X : Cx) (e : Expr) (m : EM T) : Prop := ∀ W : WX, Takes X W → PE X e (rdE (gd X) W m)
def JT (X : Cx) (e : Expr) (m : EM Bool) : Prop := ∀ W : WX, Takes X W → PT X e (rdT (gd X) W m)
def JA (X : Cx) (es : List Expr) (m : EM (List T)) : Prop := ∀ W : WX, Takes X W → PA X es (rdA (gd X) W m)

theorem PE_imp {X : Cx} {e : Expr} {t t' : TE} (h : PE X e t) (i : ∀ σ H Q, t' σ H Q → t σ H Q) : PE X e t' := ⟨fun pins s σ H Q I q => h.run pins s σ H Q I (i σ H Q q)⟩
theorem PT_imp {X : Cx} {e : Expr} {t t' : TT} (h : PT X e t) (i : ∀ σ H Q, t' σ H Q → t σ H Q) : PT X e t' := ⟨fun pins s σ H Q I q => h.run pins s σ H Q I (i σ H Q q)⟩
theorem PA_imp {X : Cx} {e : List Expr} {t t' : TA} (h : PA X e t) (i : ∀ σ H Q, t' σ H Q → t σ H Q) : PA X e t' := ⟨fun pos pins s σ H Q I q => h.run pos pins s σ H Q I (i σ H Q q)⟩
theorem PS_imp {X : Cx} {e : Stmt} {t t' : TS} (h : PS X e t) (i : ∀ D σ H, t' D σ H → t D σ H) : PS X e t' := ⟨fun pins s σ H Q I q => h.run pins s σ H Q I (i Q σ H q)⟩
theorem PSs_imp {X : Cx} {e : List Stmt} {t t' : TS} (h : PSs X e t) (i : ∀ D σ H, t' D σ H → t D σ H) : PSs X e t' := ⟨fun pins s σ H Q I q => h.run pins s σ H Q I (i Q σ H q)⟩
end TL
end
section
set_option Elab.async false
set_option linter.all false
set_option maxRecDepth 100000
namespace TL
open PySem PySem.Spec PyProof.Rows L2

/-! ### meanings -/
def pureE {α : Type} (t : α) : EM α := fun _ M => .ok t M
def bindE {α β : Type} (m : EM α) (k : α → EM β) : EM β := fun ρ M => (m ρ M).bind fun t M1 => k t ρ M1
def optE {α : Type} (o : Option α) : EM α := fun _ M => match o with
  | some t => .ok t M
  | none => .stuck
def stuckE {α : Type} : EM α := fun _ _ => .stuck
def varE (i : Nat) : EM T := fun ρ M => match ρ[i]? with
  | some (.val t) => .ok t M
  | _ => .stuck
/-- two parts, then what is made of them -/
def op2 (ma mb : EM T) (f : T → T → Option T) : EM T := bindE ma fun x => bindE mb fun y => optE (f x y)
def op1 (ma : EM T) (f : T → Option T) : EM T := bindE ma fun x => optE (f x)
def opA (ma : EM (List T)) (f : List T → Option T) : EM T := bindE ma fun xs => optE (f xs)

section
variable {X : Cx}
theorem rdE.mk {G : Gd} {W : WT} {m : EM T} {σ : St} {H : Hp} {Q : VK} {H0 F : Hp} {ι : List Addr} {ρ : List Slot} {M : Sto} (hr : HRel G F ι M H) (sr : SRel G H0 F ι ρ σ H)
    (p : Post G F ι H (m ρ M) (fun t M' F' ι' H' => ∀ v, Rep G F' ι' v t → Q v H') (fun cls d e M' F' ι' H' => W cls d σ H')) : rdE G W m σ H Q := ⟨H0, F, ι, ρ, M, hr, sr, p⟩
theorem je_var (i : Nat) {x : Str} {pos : Pos} (hN : X.N[i]? = some x := by rfl) (hv : Vis X.env.scope x := by first | exact Or.inl rfl | exact Or.inr (Or.inl rfl) | exact Or.inr (Or.inr rfl)) (hd : (x == ("__debug__" : Str)) = false := by decide)
    (hcd : (x == ("__classdict__" : Str)) = false := by decide) : JE X (.Name x pos) (varE i) := fun W tk => PE_imp (pe_var hN hv hd hcd) fun σ H Q h => by
  obtain ⟨H0, F, ι, ρ, M, hr, sr, p⟩ := h
  unfold varE at p
  split at p
  · rename_i t e
    obtain ⟨v, e1, r⟩ := sr.val i t e
    exact ⟨v, e1, p _ _ _ .refl hr v r⟩
  · exact p.elim
/-- a value that is written -/
theorem je_const {e : Expr} {v : V} {t : T} (h : PE X e (tC v)) (r : ∀ F ι, Rep (gd X) F ι v t) (inj : True := trivial) : JE X e (pureE t) := fun W tk => PE_imp h fun σ H Q q => by
  obtain ⟨H0, F, ι, ρ, M, hr, sr, p⟩ := q
  exact p _ _ _ .refl hr v (r F ι)
theorem je_int {i j pos} : JE X (.Constant (.int i) j pos) (pureE (.int i)) := je_const pe_int fun _ _ => .int i
theorem je_bl {b j pos} : JE X (.Constant (.bool b) j pos) (pureE (.bl b)) := je_const pe_bl fun _ _ => .bl b
theorem je_non {j pos} : JE X (.Constant .none j pos) (pureE .non) := je_const pe_non fun _ _ => .non
theorem je_str {x j pos} : JE X (.Constant (.str x) j pos) (pureE (.str x)) := je_const pe_str fun _ _ => .str x
/-- a module's whole number -/
theorem je_globI {x : Str} {i : Int} {u : Tok} {pos : Pos} (hg : Gl X x) (hm : X.mg x = some (.int i u)) (hd : (x == ("__debug__" : Str)) = false := by decide) : JE X (.Name x pos) (pureE (.int i)) :=
  je_const (pe_glob (v := .int i) hg hm ⟨u, rfl⟩ hd) fun _ _ => .int i
theorem je_globS {x : Str} {z : Str} {u : Tok} {pos : Pos} (hg : Gl X x) (hm : X.mg x = some (.str z u)) (hd : (x == ("__debug__" : Str)) = false := by decide) : JE X (.Name x pos) (pureE (.str z)) :=
  je_const (pe_glob (v := .str z) hg hm ⟨u, rfl⟩ hd) fun _ _ => .str z
/-- a def, a class as a value -/
theorem je_fn {x : Str} {a : Addr} {pos : Pos} (hg : Gl X x) (hm : X.mg x = some (.ref a)) (hd : (x == ("__debug__" : Str)) = false := by decide) : JE X (.Name x pos) (pureE (.fn x)) :=
  je_const (pe_glob (v := .ref a) hg hm rfl hd) fun _ _ => .fn hm
theorem je_ty {x : Str} {n : String} {pos : Pos} (hg : Gl X x) (hm : X.mg x = none) (hv : bootBuiltins x = some (.type n)) (hn : x ≠ "__name__" := by decide) (hd : (x == ("__debug__" : Str)) = false := by decide) : JE X (.Name x pos) (pureE (.ty n)) :=
  je_const (pe_bltn (v := .ty n) hg hm hv rfl hn hd) fun _ _ => .ty n

/-! ### operators -/
def WS (W : WT) (σ : St) : Value → Option Addr → Exc → Sto → Hp → List Addr → Hp → Prop := fun cls d _ _ _ _ H' => W cls d σ H'

/-- an operator by values means f on trees -/
def OpT (G : Gd) (r : R2) (f : T → T → Option T) : Prop := ∀ (F : Hp) (ι : List Addr) (M : Sto) (H : Hp) (x y : V) (tx ty t : T) (Q : VK), HRel G F ι M H → Rep G F ι x tx → Rep G F ι y ty → f tx ty = some t →
  (∀ v F' H', Ext F ι H F' ι H' → HRel G F' ι M H' → Rep G F' ι v t → Q v H') → r x y H Q
def UnT (G : Gd) (r : V → Hp → VK → Prop) (f : T → Option T) : Prop := ∀ (F : Hp) (ι : List Addr) (M : Sto) (H : Hp) (x : V) (tx t : T) (Q : VK), HRel G F ι M H → Rep G F ι x tx → f tx = some t →
  (∀ v F' H', Ext F ι H F' ι H' → HRel G F' ι M H' → Rep G F' ι v t → Q v H') → r x H Q
def CalT (G : Gd) (r : List V → Hp → VK → Prop) (f : List T → Option T) : Prop := ∀ (F : Hp) (ι : List Addr) (M : Sto) (H : Hp) (xs : List V) (ts : List T) (t : T) (Q : VK), HRel G F ι M H → Reps G F ι xs ts → f ts = some t →
  (∀ v F' H', Ext F ι H F' ι H' → HRel G F' ι M H' → Rep G F' ι v t → Q v H') → r xs H Q

theorem post_opt {G : Gd} {F H : Hp} {ι : List Addr} {M : Sto} {ρ : List Slot} {o : Option T} {ok : T → Sto → Hp → List Addr → Hp → Prop} {W} (p : Post G F ι H (optE o ρ M) ok W) :
    ∃ t, o = some t ∧ ∀ F' ι' H', Ext F ι H F' ι' H' → HRel G F' ι' M H' → ok t M F' ι' H' := by
  cases o with
  | none => exact p.elim
  | some t => exact ⟨t, rfl, p⟩

theorem rd_bin {ma mb : EM T} {f : T → T → Option T} {r : R2} (hf : OpT (gd X) r f) {W : WT} {σ : St} {H : Hp} {Q : VK} (h : rdE (gd X) W (op2 ma mb f) σ H Q) :
    tOp r (rdE (gd X) W ma) (rdE (gd X) W mb) σ H Q := by
  obtain ⟨H0, F, ι, ρ, M, hr, sr, p⟩ := h
  refine ⟨H0, F, ι, ρ, M, hr, sr, (Post.bind p).imp (fun tx M1 F1 ι1 H1 e1 hr1 p1 v1 r1 => ?_) fun _ _ _ _ _ _ _ _ _ _ w => w⟩
  refine ⟨H0, F1, ι1, ρ, M1, hr1, sr.ext e1, (Post.bind p1).imp (fun ty M2 F2 ι2 H2 e2 hr2 p2 v2 r2 => ?_) fun _ _ _ _ _ _ _ _ _ _ w => w⟩
  obtain ⟨t, e, p3⟩ := post_opt p2
  exact hf F2 ι2 M2 H2 v1 v2 tx ty t Q hr2 (r1.mono e2.mono e2.pre) r2 e fun v F' H' e3 hr3 r3 => p3 F' ι2 H' e3 hr3 v r3
theorem rd_un {ma : EM T} {f : T → Option T} {r : V → Hp → VK → Prop} (hf : UnT (gd X) r f) {W : WT} {σ : St} {H : Hp} {Q : VK} (h : rdE (gd X) W (op1 ma f) σ H Q) :
    tUn r (rdE (gd X) W ma) σ H Q := by
  obtain ⟨H0, F, ι, ρ, M, hr, sr, p⟩ := h
  refine ⟨H0, F, ι, ρ, M, hr, sr, (Post.bind p).imp (fun tx M1 F1 ι1 H1 e1 hr1 p1 v1 r1 => ?_) fun _ _ _ _ _ _ _ _ _ _ w => w⟩
  obtain ⟨t, e, p3⟩ := post_opt p1
  exact hf F1 ι1 M1 H1 v1 tx t Q hr1 r1 e fun v F' H' e3 hr3 r3 => p3 F' ι1 H' e3 hr3 v r3
variable {a b e : Expr} {es : List Expr} {ma mb m : EM T} {mA : EM (List T)} {pos : Pos}
theorem je_op {op : Operator} {r : R2} {f : T → T → Option T} (ho : OpR X (binaryOp op) r) (hf : OpT (gd X) r f) (ha : JE X a ma) (hb : JE X b mb) : JE X (.BinOp a op b pos) (op2 ma mb f) :=
  fun W tk => PE_imp (pe_op ho (ha W tk) (hb W tk)) fun _ _ _ h => rd_bin hf h
theorem je_un {op : UnaryOp} {r : V → Hp → VK → Prop} {f : T → Option T} (ho : UnR X (unaryOp op) r) (hf : UnT (gd X) r f) (ha : JE X a ma) : JE X (.UnaryOp op a pos) (op1 ma f) :=
  fun W tk => PE_imp (pe_un ho (ha W tk)) fun _ _ _ h => rd_un hf h
theorem je_cmp {op : CmpOp} {r : R2} {f : T → T → Option T} (ho : OpR X (compareOp op) r) (hf : OpT (gd X) r f) (ha : JE X a ma) (hb : JE X b mb) (hm : behindInMarks op b = false) : JE X (.Compare a [op] [b] pos) (op2 ma mb f) :=
  fun W tk => PE_imp (pe_cmpR ho (ha W tk) (hb W tk) hm) fun _ _ _ h => rd_bin hf h

/-! ### arguments, displays -/
def nilA : EM (List T) := pureE []
def consA (m : EM T) (ms : EM (List T)) : EM (List T) := bindE m fun t => bindE ms fun ts => pureE (t :: ts)
theorem ja_nil : JA X [] nilA := fun W tk => PA_imp pa_nil fun σ H Q h => by
  obtain ⟨H0, F, ι, ρ, M, hr, sr, p⟩ := h
  exact p _ _ _ .refl hr [] .nil
theorem ja_cons (ha : JE X e m) (hr : JA X es mA) (hs : starEach (e :: es) X.env = (false, eval e X.env) :: starEach es X.env := by rfl) : JA X (e :: es) (consA m mA) :=
  fun W tk => PA_imp (pa_cons (ha W tk) (hr W tk) hs) fun σ H Q h => by
    obtain ⟨H0, F, ι, ρ, M, hr, sr, p⟩ := h
    refine ⟨H0, F, ι, ρ, M, hr, sr, (Post.bind p).imp (fun tx M1 F1 ι1 H1 e1 hr1 p1 v1 r1 => ?_) fun _ _ _ _ _ _ _ _ _ _ w => w⟩
    refine ⟨H0, F1, ι1, ρ, M1, hr1, sr.ext e1, (Post.bind p1).imp (fun ty M2 F2 ι2 H2 e2 hr2 p2 v2 r2 => ?_) fun _ _ _ _ _ _ _ _ _ _ w => w⟩
    exact p2 F2 ι2 H2 .refl hr2 _ (.cons (r1.mono e2.mono e2.pre) r2)

/-- a new thing that will not change -/
theorem ext_new {F H : Hp} {ι : List Addr} {p : Addr} {o : HO} (hn : H p = none) (hf : F p = none) : Ext F ι H (upd F p o) ι (upd H p o) where
  mono := fun a u h => by rw [upd_ne (fun z => by rw [z, hf] at h; cases h)]; exact h
  pre := List.prefix_rfl
  keep := fun a u _ h => by rw [upd_ne (fun z => by rw [z, hn] at h; cases h)]; exact h
  dom := fun a u h => ⟨u, by rw [upd_ne (fun z => by rw [z, hn] at h; cases h)]; exact h⟩
  newF := fun a h n => by
    by_cases z : a = p
    · rw [z]; exact hn
    · rw [upd_ne z] at n
      exact absurd h n
  newI := fun a h => .inl h
theorem HRel.noF {G : Gd} {F H : Hp} {ι : List Addr} {M : Sto} {p : Addr} (hr : HRel G F ι M H) (hn : H p = none) : F p = none := hr.sub.free hn
theorem HRel.noI {G : Gd} {F H : Hp} {ι : List Addr} {M : Sto} {p : Addr} (hr : HRel G F ι M H) (hn : H p = none) : p ∉ ι := fun m => by
  obtain ⟨u, e⟩ := hr.there m
  rw [hn] at e
  cases e
theorem MOk.ext {G : Gd} {F F' H H' : Hp} {ι ι' : List Addr} {a : Addr} {o : MO} (h : MOk G F ι H a o) (m : Same F F') (p : ι <+: ι') (k : ∀ u, H a = some u → H' a = some u) : MOk G F' ι' H' a o := by
  cases o with
  | dK kvs =>
    obtain ⟨kv, e, e2, r⟩ := h
    exact ⟨kv, k _ e, e2, r.mono m p⟩
theorem HRel.new {G : Gd} {F H : Hp} {ι : List Addr} {M : Sto} {p : Addr} {o : HO} (hr : HRel G F ι M H) (hn : H p = none) : HRel G (upd F p o) ι M (upd H p o) where
  sub := fun a u h => by
    by_cases z : a = p
    · rw [z, upd_same] at h ⊢
      exact h
    · rw [upd_ne z] at h ⊢
      exact hr.sub a u h
  len := hr.len
  nd := hr.nd
  out := fun a m => by
    rw [upd_ne (fun z => hr.noI hn (by rw [← z]; exact m))]
    exact hr.out a m
  mo := fun i a o' e1 e2 => (hr.mo i a o' e1 e2).ext (ext_new (ι := ι) hn (hr.noF hn)).mono List.prefix_rfl fun u h => by
    rw [upd_ne (fun z => by rw [z, hn] at h; cases h)]
    exact h

def tupT (ts : List T) : Option T := if ts.length ≤ sizeLine then some (.tup ts) else none
def lstT (ts : List T) : Option T := if ts.length ≤ sizeLine then some (.lst ts) else none
theorem je_tup {x1} (h : JA X es mA) : JE X (.Tuple es x1 pos) (opA mA tupT) := fun W tk => PE_imp (pe_tup (h W tk)) fun σ H Q h => by
  obtain ⟨H0, F, ι, ρ, M, hr, sr, p⟩ := h
  refine ⟨H0, F, ι, ρ, M, hr, sr, (Post.bind p).imp (fun ts M1 F1 ι1 H1 e1 hr1 p1 vs rs => ?_) fun _ _ _ _ _ _ _ _ _ _ w => w⟩
  obtain ⟨t, e, p3⟩ := post_opt p1
  unfold tupT at e
  split at e
  · rename_i hl
    cases e
    exact ⟨by rw [rs.length]; exact hl, fun q hq => p3 _ ι1 _ (ext_new hq (hr1.noF hq)) (hr1.new hq) _ (.tup (.of upd_same) (rs.mono (ext_new (ι := ι1) hq (hr1.noF hq)).mono List.prefix_rfl))⟩
  · cases e
theorem je_lst (h : JA X es mA) : JE X (.List es pos) (opA mA lstT) := fun W tk => PE_imp (pe_lst (h W tk)) fun σ H Q h => by
  obtain ⟨H0, F, ι, ρ, M, hr, sr, p⟩ := h
  refine ⟨H0, F, ι, ρ, M, hr, sr, (Post.bind p).imp (fun ts M1 F1 ι1 H1 e1 hr1 p1 vs rs => ?_) fun _ _ _ _ _ _ _ _ _ _ w => w⟩
  obtain ⟨t, e, p3⟩ := post_opt p1
  unfold lstT at e
  split at e
  · rename_i hl
    cases e
    exact ⟨by rw [rs.length]; exact hl, fun q hq => p3 _ ι1 _ (ext_new hq (hr1.noF hq)) (hr1.new hq) _ (.lst (.of upd_same) (rs.mono (ext_new (ι := ι1) hq (hr1.noF hq)).mono List.prefix_rfl))⟩
  · cases e
end
end TL
end
section
set_option Elab.async false
set_option linter.all false
set_option maxRecDepth 100000
set_option maxHeartbeats 1000000
namespace TL
open PySem PySem.Spec PyProof.Rows L2

section
variable {X : Cx}
/-! ### list + list, whatever they stand on -/
def rCatL (K : PySem.W.Frag) : R2 := fun x y H Q => ∃ a b xs ys, x = .ref a ∧ y = .ref b ∧ SqL K H a xs ∧ SqL K H b ys ∧ xs.length + ys.length ≤ sizeLine ∧ ∀ p, H p = none → Q (.ref p) (upd H p (.lst (xs ++ ys)))
theorem op_catL : OpR X (binaryOp .Add) (rCatL X.K) := by
  intro pins s σ H x y v u Q I rx ry h
  obtain ⟨a, b, xs, ys, rfl, rfl, ha, hb, hz, q⟩ := h
  cases rx
  cases ry
  obtain ⟨its, r1, p1, _⟩ := I.list ha
  obtain ⟨its2, r2, p2, _⟩ := I.list hb
  obtain ⟨⟨cls, dd, data, sl⟩, ho, hc, n, hd⟩ := id p1.isList
  obtain ⟨⟨cls2, dd2, data2, sl2⟩, ho2, hc2, n2, hd2⟩ := id p2.isList
  simp only at hc hd hc2 hd2
  subst hc hd hc2 hd2
  have e : its.toArray ++ its2.toArray = (its ++ its2).toArray := by simp
  refine concat_meets ⟨_, ho, rfl⟩ ⟨_, ho2, rfl⟩ noFill_list_add seq_list_add PySem.F.slot_list_add PySem.F.entry_list_add (PySem.F.args_list_add_2 _ _) (list_addW a b its.toArray its2.toArray n n2 dd dd2 sl sl2 (by
    rw [List.size_toArray, List.size_toArray, ← r1.length, ← r2.length]; exact hz)) ⟨ho, ho2, ?_⟩
  rw [e]
  exact ⟨.ref _, _, I.lnew (t' := s.toks) (r1.append r2) (by rw [List.length_append]; exact hz), rfl, q _ I.fresh⟩

/-! ### arithmetic -/
def addT : T → T → Option T
  | .int i, .int j => some (.int (i + j))
  | .tup a, .tup b => if a.length + b.length ≤ sizeLine then some (.tup (a ++ b)) else none
  | .lst a, .lst b => if a.length + b.length ≤ sizeLine then some (.lst (a ++ b)) else none
  | .str a, .str b => if a.length + b.length ≤ sizeLine then some (.str (a ++ b)) else none
  | _, _ => none
def rAddA (K : PySem.W.Frag) : R2 := fun x y H Q => rI0 (fun i j => .int (i + j)) x y H Q ∨ rCatA K x y H Q ∨ rCatL K x y H Q ∨ (∃ i j, x = .str i ∧ y = .str j ∧ i.length + j.length ≤ sizeLine ∧ Q (.str (i ++ j)) H)
theorem op_addA : OpR X (binaryOp .Add) (rAddA X.K) := op_add.or (op_catA.or (op_catL.or op_add_str))
theorem addT_ok {G : Gd} : OpT G (rAddA G.K) addT := by
  intro F ι M H x y tx ty t Q hr rx ry e q
  unfold addT at e
  split at e
  · cases e; cases rx; cases ry
    exact .inl ⟨_, _, rfl, rfl, q _ F H .refl hr (.int _)⟩
  · split at e
    · rename_i a b hl
      cases e
      cases rx with
      | tup ha ra =>
        cases ry with
        | tup hb rb =>
          have la := ra.length
          have lb := rb.length
          refine .inr (.inl ⟨_, _, _, _, rfl, rfl, sqT_mono hr.sub ha, sqT_mono hr.sub hb, by rw [la, lb]; exact hl, fun z => ?_, fun _ z => ?_, fun _ _ p hp => ?_⟩)
          · subst z
            cases ra
            exact q _ F H .refl hr (.tup hb rb)
          · subst z
            cases rb
            rw [List.append_nil] at q
            exact q _ F H .refl hr (.tup ha ra)
          · exact q _ _ _ (ext_new hp (hr.noF hp)) (hr.new hp) (.tup (.of upd_same) ((ra.append rb).mono (ext_new (ι := ι) hp (hr.noF hp)).mono List.prefix_rfl))
    · cases e
  · split at e
    · rename_i a b hl
      cases e
      cases rx with
      | lst ha ra =>
        cases ry with
        | lst hb rb =>
          have la := ra.length
          have lb := rb.length
          exact .inr (.inr (.inl ⟨_, _, _, _, rfl, rfl, hr.sub.seq ha, hr.sub.seq hb, by rw [la, lb]; exact hl, fun p hp =>
            q _ _ _ (ext_new hp (hr.noF hp)) (hr.new hp) (.lst (.of upd_same) ((ra.append rb).mono (ext_new (ι := ι) hp (hr.noF hp)).mono List.prefix_rfl))⟩))
    · cases e
  · split at e
    · rename_i a b hl
      cases e; cases rx; cases ry
      exact .inr (.inr (.inr ⟨_, _, rfl, rfl, hl, q _ F H .refl hr (.str _)⟩))
    · cases e
  · cases e

/-- two ints under a condition -/
def intT (C : Int → Int → Bool) (g : Int → Int → T) : T → T → Option T
  | .int i, .int j => if C i j = true then some (g i j) else none
  | _, _ => none
theorem intT_ok {G : Gd} {C : Int → Int → Bool} {C' : Int → Int → Prop} {g : Int → Int → T} {g' : Int → Int → V} (hc : ∀ i j, C i j = true → C' i j) (hg : ∀ F ι i j, Rep G F ι (g' i j) (g i j)) : OpT G (rI C' g') (intT C g) := by
  intro F ι M H x y tx ty t Q hr rx ry e q
  unfold intT at e
  split at e
  · split at e
    · rename_i h
      cases e; cases rx; cases ry
      exact ⟨_, _, rfl, rfl, hc _ _ h, q _ F H .refl hr (hg F ι _ _)⟩
    · cases e
  · cases e
theorem intT_ok0 {G : Gd} {g : Int → Int → T} {g' : Int → Int → V} (hg : ∀ F ι i j, Rep G F ι (g' i j) (g i j)) : OpT G (rI0 g') (intT (fun _ _ => true) g) := by
  intro F ι M H x y tx ty t Q hr rx ry e q
  unfold intT at e
  split at e
  · rw [if_pos rfl] at e
    cases e; cases rx; cases ry
    exact ⟨_, _, rfl, rfl, q _ F H .refl hr (hg F ι _ _)⟩
  · cases e
def subT : T → T → Option T := intT (fun _ _ => true) fun i j => .int (i - j)
theorem subT_ok {G : Gd} : OpT G (rI0 fun i j => .int (i - j)) subT := intT_ok0 fun _ _ _ _ => .int _
/-- a factor below 2^64, or both together below a million bits -/
def mulOk (i j : Int) : Bool := (decide (-(2 ^ 64) < i) && decide (i < 2 ^ 64)) || (decide (-(2 ^ 64) < j) && decide (j < 2 ^ 64)) || decide (i.natAbs.log2 + j.natAbs.log2 < 1000000)
def modT : T → T → Option T := intT (fun _ j => decide (0 < j)) fun i j => .int (i % j)
theorem modT_ok {G : Gd} : OpT G (rI (fun _ j => 0 < j) fun i j => .int (i % j)) modT := intT_ok (fun _ _ h => of_decide_eq_true h) fun _ _ _ _ => .int _
def fdivT : T → T → Option T := intT (fun _ j => decide (0 < j) && decide (j.natAbs.log2 < 9000)) fun i j => .int (i / j)
theorem fdivT_ok {G : Gd} : OpT G (rI CDivW fun i j => .int (i / j)) fdivT := intT_ok (fun _ _ h => by
  rw [Bool.and_eq_true] at h
  exact ⟨of_decide_eq_true h.1, of_decide_eq_true h.2⟩) fun _ _ _ _ => .int _
def powT : T → T → Option T := intT (fun i j => decide (0 ≤ j) && (decide (j ≤ 1000000) && decide (i.natAbs < 2 ^ 64))) fun i j => .int (i ^ j.toNat)
theorem powT_ok {G : Gd} : OpT G (rI CPow fun i j => .int (i ^ j.toNat)) powT := intT_ok (fun _ _ h => by
  rw [Bool.and_eq_true, Bool.and_eq_true] at h
  exact ⟨of_decide_eq_true h.1, of_decide_eq_true h.2.1, of_decide_eq_true h.2.2⟩) fun _ _ _ _ => .int _
def negT : T → Option T
  | .int i => some (.int (-i))
  | _ => none
theorem negT_ok {G : Gd} : UnT G (rU fun i => .int (-i)) negT := by
  intro F ι M H x tx t Q hr rx e q
  unfold negT at e
  split at e
  · cases e; cases rx
    exact ⟨_, rfl, q _ F H .refl hr (.int _)⟩
  · cases e

end
end TL
end
section
set_option Elab.async false
set_option linter.all false
set_option maxRecDepth 100000
set_option maxHeartbeats 2000000
namespace TL
open PySem PySem.Spec PyProof.Rows L2
theorem tuple_mulZ (l : Addr) (items : Array Value) (n : Nat) (dd : Option Addr) (sl : Array (Option Value)) (x : Int) (u : Tok) (c0 : (decide (x < -(2 ^ 63)) || decide (x ≥ 2 ^ 63)) = false) (c1 : (items.isEmpty || x == 1) = false) (c2 : (decide (x ≤ 0) || items.isEmpty) = true) :
    Meets (Builtin.«tuple.__mul__» ⟨[.ref l, .int x u], []⟩) (fun _ R s => s.heap.get? l = some { cls := .type "tuple", dict := dd, data := .seq items n, slots := sl } ∧
      R (.ok (.ret (Value.ref s.heap.objs.size))) { s with heap := s.heap.push { cls := Value.type "tuple", data := Data.seq #[] }, toks := s.toks }) :=
  .of_wp fun prog w A R s h => by
    obtain ⟨hp, g, d, tk, os⟩ := s
    obtain ⟨hl, h⟩ := h
    have f1 := AutoSeq1.idx_int
    wp_walk using wpAny_loadPart' hl
    repeat (first
      | (refine wpAny_ite_false (decide_eq_false (by rw [c0]; exact Bool.false_ne_true)) ?_; wp_walk using wpAny_loadPart' hl)
      | (refine wpAny_ite_false (decide_eq_false (by rw [c1]; exact Bool.false_ne_true)) ?_; wp_walk using wpAny_loadPart' hl)
      | (refine wpAny_ite_true (decide_eq_true c2) ?_; wp_walk using wpAny_loadPart' hl))
    exact ⟨_, rfl, h⟩
theorem tuple_mulS (l : Addr) (items : Array Value) (n : Nat) (dd : Option Addr) (sl : Array (Option Value)) (x : Int) (u : Tok) (c0 : (decide (x < -(2 ^ 63)) || decide (x ≥ 2 ^ 63)) = false) (c1 : (items.isEmpty || x == 1) = true) :
    Meets (Builtin.«tuple.__mul__» ⟨[.ref l, .int x u], []⟩) (fun _ R s => s.heap.get? l = some { cls := .type "tuple", dict := dd, data := .seq items n, slots := sl } ∧
      R (.ok (.ret (Value.ref l))) s) :=
  .of_wp fun prog w A R s h => by
    obtain ⟨hp, g, d, tk, os⟩ := s
    obtain ⟨hl, h⟩ := h
    have f1 := AutoSeq1.idx_int
    wp_walk using wpAny_loadPart' hl
    repeat (first
      | (refine wpAny_ite_false (decide_eq_false (by rw [c0]; exact Bool.false_ne_true)) ?_; wp_walk using wpAny_loadPart' hl)
      | (refine wpAny_ite_true (decide_eq_true c1) ?_; wp_walk using wpAny_loadPart' hl))
    exact ⟨_, rfl, h⟩
section
variable {X : Cx}
/-- tuple * int -/
def rRepA (K : PySem.W.Frag) : R2 := fun x y H Q => ∃ l k xs, x = .ref l ∧ y = .int k ∧ SqT K H l xs ∧ -(2 ^ 63) ≤ k ∧ k < 2 ^ 63 ∧ xs.length * k.toNat ≤ sizeLine ∧
  (xs = [] ∨ k = 1 → Q (.ref l) H) ∧ (xs ≠ [] → k ≠ 1 → ∀ p, H p = none → Q (.ref p) (upd H p (.tup (List.replicate k.toNat xs).flatten)))
theorem op_repA : OpR X (binaryOp .Mult) (rRepA X.K) := by
  intro pins s σ H x y v u Q I rx ry h
  obtain ⟨l, k, xs, rfl, rfl, hT, h1, h2, hz, q1, q2⟩ := h
  cases rx
  obtain ⟨t, rfl⟩ := ry
  obtain ⟨its, r, ⟨⟨cls, dd, data, sl⟩, ho, hc, n, hd⟩, hs⟩ := I.tuple hT
  simp only at hc hd
  subst hc hd
  have hle : its.length = xs.length := r.length.symm
  have c0 : (decide (k < -(2 ^ 63)) || decide (k ≥ 2 ^ 63)) = false := by
    rw [decide_eq_false (by omega), decide_eq_false (by omega)] <;> rfl
  have hsz0 : its.toArray.size = xs.length := by rw [List.size_toArray, hle]
  have road : ∀ {R : Value → Shared → Prop}, codeAny (model X.prog X.w) X.A (.call (.builtin "tuple.__mul__") ⟨[.ref l, .int k t], []⟩) (fun r s' => match r with | .ok (.ret v) => R v s' | _ => False) s → True := fun _ => trivial
  refine wpAny_binaryOp_repeat_ref (T := "tuple") (U := "int") (by decide) ⟨_, ho, rfl⟩ (fun s' => typeIs_int s' k t) noFill_tuple_mul F.fills_int_mul F.slot_int_rmul repeat_tuple F.slot_int_index.lookup
    (call_meets F.slot_int_rmul (typeIs_int s k t) F.entry_int_rmul (F.args_int_rmul_2 _ _) (int_rmul_tuple k t l its.toArray n dd sl)
      ⟨ho, rfl, ⟨_, ho, rfl⟩, ?_⟩)
  by_cases c1 : (its.toArray.isEmpty || k == 1) = true
  · refine call_meets F.slot_tuple_mul ⟨_, ho, rfl⟩ F.entry_tuple_mul (F.args_tuple_mul_2 _ _) (tuple_mulS l its.toArray n dd sl k t c0 c1) ⟨ho, ?_⟩
    refine ⟨.ref l, H, I, rfl, q1 ?_⟩
    rcases Bool.or_eq_true_iff.mp c1 with z | z
    · refine .inl (List.eq_nil_of_length_eq_zero ?_)
      rw [← hle]
      have := Array.isEmpty_iff_size_eq_zero.mp z
      rw [List.size_toArray] at this
      exact this
    · exact .inr (eq_of_beq z)
  · have c1 : (its.toArray.isEmpty || k == 1) = false := by simpa using c1
    have hi : its.toArray.isEmpty = false := (Bool.or_eq_false_iff.mp c1).1
    have hk : k ≠ 1 := fun z => by
      have := (Bool.or_eq_false_iff.mp c1).2
      rw [z] at this
      exact absurd this (by decide)
    have hne : xs ≠ [] := fun z => by
      subst z
      have : its = [] := List.eq_nil_of_length_eq_zero hle
      subst this
      exact absurd hi (by decide)
    by_cases c2 : (decide (k ≤ 0) || its.toArray.isEmpty) = true
    · have k0 : k ≤ 0 := by
        rw [hi, Bool.or_false] at c2
        exact of_decide_eq_true c2
      refine call_meets F.slot_tuple_mul ⟨_, ho, rfl⟩ F.entry_tuple_mul (F.args_tuple_mul_2 _ _) (tuple_mulZ l its.toArray n dd sl k t c0 c1 c2) ⟨ho, ?_⟩
      have q := q2 hne hk _ (I.hok.fresh (Nat.le_refl _))
      rw [show k.toNat = 0 by omega] at q
      refine ⟨.ref s.heap.objs.size, _, I.laid (t' := s.toks) (o := .tup []) (fun b ob q => Heap.get?_push_of_some _ q) (Nat.le_refl _) ?_, rfl, q⟩
      exact ⟨Nat.zero_le _, [], .nil, IsTup.new _ _⟩
    · have c2 : (decide (k ≤ 0) || its.toArray.isEmpty) = false := by simpa using c2
      have k0 : 0 < k := by
        have := (Bool.or_eq_false_iff.mp c2).1
        have := of_decide_eq_false this
        omega
      have hm : ((its.toArray.size : Nat) : Int) * k ≤ sizeLine := by
        rw [hsz0]
        have e : ((xs.length : Nat) : Int) * k = ((xs.length * k.toNat : Nat) : Int) := by
          rw [Int.natCast_mul, Int.toNat_of_nonneg (by omega)]
        rw [e]
        omega
      have flen : (List.replicate k.toNat its).flatten.length ≤ sizeLine := by
        rw [PyProof.Rows.lm_len_rep_flat, hle, Nat.mul_comm]
        exact hz
      have sl0 : (sizeLine : Int) = 16777216 := by rw [sizeLine_eq]; rfl
      have c4 : Builtin.Tuple.tupleTooMany (((its.toArray.size : Nat) : Int) * k) = false := by
        unfold Builtin.Tuple.tupleTooMany
        exact decide_eq_false (by omega)
      refine call_meets F.slot_tuple_mul ⟨_, ho, rfl⟩ F.entry_tuple_mul (F.args_tuple_mul_2 _ _) (tuple_mulW l its.toArray n dd sl k t c0 c1 c2 (by omega) c4 (by rw [size_rep, List.size_toArray]; exact flen)) ⟨ho, ?_⟩
      rw [size_rep]
      refine ⟨.ref s.heap.objs.size, _, I.laid (t' := s.toks) (o := .tup (List.replicate k.toNat xs).flatten) (fun b ob q => Heap.get?_push_of_some _ q) (Nat.le_refl _) ?_, rfl, q2 hne hk _ (I.hok.fresh (Nat.le_refl _))⟩
      exact ⟨by rw [PyProof.Rows.lm_len_rep_flat, Nat.mul_comm]; exact hz, _, r.rep k.toNat, IsTup.new _ _⟩
/-- list * int -/
def rRepL (K : PySem.W.Frag) : R2 := fun x y H Q => ∃ l k xs, x = .ref l ∧ y = .int k ∧ SqL K H l xs ∧ -(2 ^ 63) ≤ k ∧ k < 2 ^ 63 ∧ xs.length * k.toNat ≤ sizeLine ∧
  ∀ p, H p = none → Q (.ref p) (upd H p (.lst (List.replicate k.toNat xs).flatten))
theorem op_repL : OpR X (binaryOp .Mult) (rRepL X.K) := by
  intro pins s σ H x y v u Q I rx ry h
  obtain ⟨l, k, xs, rfl, rfl, hH, h1, h2, hz, q⟩ := h
  cases rx
  obtain ⟨t, rfl⟩ := ry
  obtain ⟨its, r, p1, _⟩ := I.list hH
  obtain ⟨⟨cls, dd, data, sl⟩, ho, hc, n, hd⟩ := id p1.isList
  simp only at hc hd
  subst hc hd
  have hl : xs.length = its.length := r.length
  have hlen : its.toArray.size * k.toNat ≤ sizeLine := by rw [List.size_toArray, ← hl]; exact hz
  have hcap : ¬ its.toArray.size * k.toNat > (2 ^ 63 - 1) / 8 := by
    have : (sizeLine : Nat) ≤ (2 ^ 63 - 1) / 8 := by decide
    omega
  have hfit : ¬ (!Builtin.List.listFitsIndex k) = true := by
    rw [fitsIndex_both h1 h2]
    exact Bool.false_ne_true
  have hlong : ¬ Builtin.List.listTooLong (its.toArray.size * k.toNat) = true := by
    rw [notLongL hlen]
    exact Bool.false_ne_true
  have hnew : List.foldl (fun x1 x2 => x1 ++ x2) #[] (List.replicate (if its.toArray.isEmpty = true then 0 else k.toNat) its.toArray) = (List.replicate k.toNat its).flatten.toArray := by
    rw [size_rep]
    cases its with
    | nil => simp
    | cons a r' => rw [if_neg (by simp)]
  refine wpAny_binaryOp_repeat_ref (T := "list") (U := "int") (by decide) ⟨_, ho, rfl⟩ (fun s' => typeIs_int s' k t) noFill_list_mul F.fills_int_mul F.slot_int_rmul repeat_list F.slot_int_index.lookup
    (call_meets F.slot_int_rmul (typeIs_int s k t) F.entry_int_rmul (F.args_int_rmul_2 _ _) (lm_int_rmul_list_any k t l its.toArray n dd sl)
      ⟨ho, rfl, ⟨_, ho, rfl⟩, call_meets F.slot_list_mul ⟨_, ho, rfl⟩ F.entry_list_mul (F.args_list_mul_2 _ _) (lm_list_mul_any l its.toArray n dd sl k t hfit hcap hlong) ⟨ho, ?_⟩⟩)
  rw [hnew]
  exact ⟨.ref _, _, I.lnew (t' := s.toks) (r.rep k.toNat) (by rw [PyProof.Rows.lm_len_rep_flat, Nat.mul_comm]; exact hz), rfl, q _ I.fresh⟩
def rMulA (K : PySem.W.Frag) : R2 := fun x y H Q => rI CMul (fun i j => .int (i * j)) x y H Q ∨ rI CMulW (fun i j => .int (i * j)) x y H Q ∨ rRepA K x y H Q ∨ rRepL K x y H Q
theorem op_mulA : OpR X (binaryOp .Mult) (rMulA X.K) := op_mul.or (op_mulW.or (op_repA.or op_repL))
def mulT : T → T → Option T
  | .int i, .int j => if mulOk i j = true then some (.int (i * j)) else none
  | .tup a, .int k => if -(2 ^ 63) ≤ k ∧ k < 2 ^ 63 ∧ a.length * k.toNat ≤ sizeLine then some (.tup (List.replicate k.toNat a).flatten) else none
  | .lst a, .int k => if -(2 ^ 63) ≤ k ∧ k < 2 ^ 63 ∧ a.length * k.toNat ≤ sizeLine then some (.lst (List.replicate k.toNat a).flatten) else none
  | _, _ => none
theorem mulOk_or {i j : Int} (h : mulOk i j = true) : CMul i j ∨ CMulW i j := by
  unfold mulOk at h
  rw [Bool.or_eq_true, Bool.or_eq_true, Bool.and_eq_true, Bool.and_eq_true] at h
  rcases h with (h | h) | h
  · exact .inl (.inl ⟨of_decide_eq_true h.1, of_decide_eq_true h.2⟩)
  · exact .inl (.inr ⟨of_decide_eq_true h.1, of_decide_eq_true h.2⟩)
  · have h' : i.natAbs.log2 + j.natAbs.log2 < 1000000 := of_decide_eq_true h
    exact .inr h'
theorem mulT_ok {G : Gd} : OpT G (rMulA G.K) mulT := by
  intro F ι M H x y tx ty t Q hr rx ry e q
  unfold mulT at e
  split at e
  · split at e
    · rename_i h
      cases e; cases rx; cases ry
      rcases mulOk_or h with h | h
      · exact .inl ⟨_, _, rfl, rfl, h, q _ F H .refl hr (.int _)⟩
      · exact .inr (.inl ⟨_, _, rfl, rfl, h, q _ F H .refl hr (.int _)⟩)
    · cases e
  · split at e
    · rename_i a k hl
      obtain ⟨k1, k2, k3⟩ := hl
      cases e
      cases ry
      cases rx with
      | tup ha ra =>
        refine .inr (.inr (.inl ⟨_, _, _, rfl, rfl, sqT_mono hr.sub ha, k1, k2, by rw [ra.length]; exact k3, fun z => ?_, fun _ _ p hp => ?_⟩))
        · have e2 : (List.replicate k.toNat a).flatten = a := by
            rcases z with z | z
            · subst z
              cases ra
              simp
            · subst z
              simp
          rw [e2] at q
          exact q _ F H .refl hr (.tup ha ra)
        · exact q _ _ _ (ext_new hp (hr.noF hp)) (hr.new hp) (.tup (.of upd_same) ((ra.rep k.toNat).mono (ext_new (ι := ι) hp (hr.noF hp)).mono List.prefix_rfl))
    · cases e
  · split at e
    · rename_i a k hl
      obtain ⟨k1, k2, k3⟩ := hl
      cases e
      cases ry
      cases rx with
      | lst ha ra =>
        exact .inr (.inr (.inr ⟨_, _, _, rfl, rfl, hr.sub.seq ha, k1, k2, by rw [ra.length]; exact k3, fun p hp =>
          q _ _ _ (ext_new hp (hr.noF hp)) (hr.new hp) (.lst (.of upd_same) ((ra.rep k.toNat).mono (ext_new (ι := ι) hp (hr.noF hp)).mono List.prefix_rfl))⟩))
    · cases e
  · cases e
end
end TL
end
section
set_option Elab.async false
set_option linter.all false
set_option maxRecDepth 100000
set_option maxHeartbeats 1000000
namespace TL
open PySem PySem.Spec PyProof.Rows L2

/-! ### data -/
mutual
def toD : T → PyData
  | .non => .none
  | .bl b => .bool b
  | .int i => .int i
  | .str x => .str x
  | .tup ts => .tuple (toDs ts)
  | .lst ts => .list (toDs ts)
  | .fn _ => .none
  | .ty _ => .none
  | .ptr _ => .none
  | .ins _ _ _ => .none
def toDs : List T → List PyData
  | [] => []
  | t :: ts => toD t :: toDs ts
end
mutual
def isD : T → Bool
  | .non => true
  | .bl _ => true
  | .int _ => true
  | .str _ => true
  | .tup ts => isDs ts
  | .lst ts => isDs ts
  | .fn _ => false
  | .ty _ => false
  | .ptr _ => false
  | .ins _ _ _ => false
def isDs : List T → Bool
  | [] => true
  | t :: ts => isD t && isDs ts
end
/-- data that may be compared -/
def shp (t : T) : Bool := isD t && SeqAt.shaped (toD t)
section
variable {K : PySem.W.Frag} {mg : Str → Option Value} {F H : Hp} {ι : List Addr}
mutual
theorem dp_of (s : Same F H) : ∀ {v : V} {t : T}, isD t = true → Rep ⟨K, mg⟩ F ι v t → Dp K H v (toD t)
  | _, _, _, .non => by rw [toD]; exact .non
  | _, _, _, .bl b => by rw [toD]; exact .bl b
  | _, _, _, .int i => by rw [toD]; exact .int i
  | _, _, _, .str x => by rw [toD]; exact .str x
  | _, _, h, .tup e r => by
    rw [toD]
    rw [isD] at h
    exact .tup (sqT_mono s e) (dps_of s h r)
  | _, _, h, .lst e r => by
    rw [toD]
    rw [isD] at h
    exact .lst (s.seq e) (dps_of s h r)
  | _, _, h, .fn _ => by rw [isD] at h; cases h
  | _, _, h, .ty _ => by rw [isD] at h; cases h
  | _, _, h, .ptr _ => by rw [isD] at h; cases h
  | _, _, h, .ins _ _ _ _ => by rw [isD] at h; cases h
theorem dps_of (s : Same F H) : ∀ {vs : List V} {ts : List T}, isDs ts = true → Reps ⟨K, mg⟩ F ι vs ts → DpAll K H vs (toDs ts)
  | _, _, _, .nil => by rw [toDs]; exact .nil
  | _, _, h, .cons r rs => by
    rw [toDs]
    rw [isDs, Bool.and_eq_true] at h
    exact .cons (dp_of s h.1 r) (dps_of s h.2 rs)
end
end
def eqT (x y : T) : Option T := if (shp x && shp y) = true then some (.bl (PyData.eqv (toD x) (toD y))) else none
def neT (x y : T) : Option T := if (shp x && shp y) = true then some (.bl (!PyData.eqv (toD x) (toD y))) else none
theorem eqT_ok {G : Gd} : OpT G (rEqD G.K) eqT := by
  intro F ι M H x y tx ty t Q hr rx ry e q
  unfold eqT at e
  split at e
  · rename_i h
    cases e
    rw [Bool.and_eq_true] at h
    obtain ⟨h1, h2⟩ := h
    unfold shp at h1 h2
    rw [Bool.and_eq_true] at h1 h2
    exact ⟨_, _, dp_of hr.sub h1.1 rx, dp_of hr.sub h2.1 ry, h1.2, h2.2, q _ F H .refl hr (.bl _)⟩
  · cases e
theorem neT_ok {G : Gd} : OpT G (rNeD G.K) neT := by
  intro F ι M H x y tx ty t Q hr rx ry e q
  unfold neT at e
  split at e
  · rename_i h
    cases e
    rw [Bool.and_eq_true] at h
    obtain ⟨h1, h2⟩ := h
    unfold shp at h1 h2
    rw [Bool.and_eq_true] at h1 h2
    exact ⟨_, _, dp_of hr.sub h1.1 rx, dp_of hr.sub h2.1 ry, h1.2, h2.2, q _ F H .refl hr (.bl _)⟩
  · cases e
def ltT : T → T → Option T := intT (fun _ _ => true) fun i j => .bl (decide (i < j))
def leT : T → T → Option T := intT (fun _ _ => true) fun i j => .bl (decide (i ≤ j))
def gtT : T → T → Option T := intT (fun _ _ => true) fun i j => .bl (decide (j < i))
def geT : T → T → Option T := intT (fun _ _ => true) fun i j => .bl (decide (j ≤ i))
section
variable {G : Gd}
theorem ltT_ok : OpT G (rI0 fun i j => .bl (decide (i < j))) ltT := intT_ok0 fun _ _ _ _ => .bl _
theorem leT_ok : OpT G (rI0 fun i j => .bl (decide (i ≤ j))) leT := intT_ok0 fun _ _ _ _ => .bl _
theorem gtT_ok : OpT G (rI0 fun i j => .bl (decide (j < i))) gtT := intT_ok0 fun _ _ _ _ => .bl _
theorem geT_ok : OpT G (rI0 fun i j => .bl (decide (j ≤ i))) geT := intT_ok0 fun _ _ _ _ => .bl _
end
/-! ### in -/
def toV : T → V
  | .non => .non
  | .bl b => .bl b
  | .int i => .int i
  | .str x => .str x
  | _ => .non
def flatT : T → Bool
  | .non => true
  | .bl _ => true
  | .int _ => true
  | .str _ => true
  | _ => false
theorem flat_of {G : Gd} {F : Hp} {ι : List Addr} {v : V} {t : T} (r : Rep G F ι v t) (h : flatT t = true) : v = toV t ∧ flatV v = true := by
  cases r <;> first | exact ⟨rfl, rfl⟩ | cases h
theorem flats_of {G : Gd} {F : Hp} {ι : List Addr} : ∀ {vs : List V} {ts : List T}, Reps G F ι vs ts → ts.all flatT = true → vs = ts.map toV ∧ vs.all flatV = true
  | _, _, .nil, _ => ⟨rfl, rfl⟩
  | _, _, .cons r rs, h => by
    rw [List.all_cons, Bool.and_eq_true] at h
    obtain ⟨e1, f1⟩ := flat_of r h.1
    obtain ⟨e2, f2⟩ := flats_of rs h.2
    exact ⟨by rw [List.map_cons, ← e1, ← e2], by rw [List.all_cons, f1, f2]; rfl⟩
def inT (neg : Bool) : T → T → Option T := fun x y => match y with
  | .lst ts => if (flatT x && ts.all flatT) = true then some (.bl (if neg then !inV (toV x) (ts.map toV) else inV (toV x) (ts.map toV))) else none
  | .tup ts => if (flatT x && ts.all flatT) = true then some (.bl (if neg then !inV (toV x) (ts.map toV) else inV (toV x) (ts.map toV))) else none
  | _ => none
theorem inT_ok {G : Gd} {neg : Bool} : OpT G (rIn G.K neg) (inT neg) := by
  intro F ι M H x y tx ty t Q hr rx ry e q
  unfold inT at e
  split at e
  · split at e
    · rename_i ts h
      cases e
      rw [Bool.and_eq_true] at h
      obtain ⟨e1, f1⟩ := flat_of rx h.1
      cases ry with
      | lst ha ra =>
        obtain ⟨e2, f2⟩ := flats_of ra h.2
        rw [← e1, ← e2] at q
        exact ⟨_, _, rfl, .inl (hr.sub.seq ha), f1, f2, q _ F H .refl hr (.bl _)⟩
    · cases e
  · split at e
    · rename_i ts h
      cases e
      rw [Bool.and_eq_true] at h
      obtain ⟨e1, f1⟩ := flat_of rx h.1
      cases ry with
      | tup ha ra =>
        obtain ⟨e2, f2⟩ := flats_of ra h.2
        rw [← e1, ← e2] at q
        exact ⟨_, _, rfl, .inr (sqT_mono hr.sub ha), f1, f2, q _ F H .refl hr (.bl _)⟩
    · cases e
  · cases e
/-- is: bools, None -/
def isBT : T → T → Option T
  | .bl a, .bl b => some (.bl (decide (a = b)))
  | _, _ => none
def isntBT : T → T → Option T
  | .bl a, .bl b => some (.bl (!decide (a = b)))
  | _, _ => none
def isNT : T → T → Option T
  | .non, .non => some (.bl true)
  | _, .non => some (.bl false)
  | _, _ => none
def isntNT : T → T → Option T
  | .non, .non => some (.bl false)
  | _, .non => some (.bl true)
  | _, _ => none
theorem isNT_ok {G : Gd} : OpT G (fun x y H Q => y = .non ∧ Q (.bl (decide (x = .non))) H) isNT := by
  intro F ι M H x y tx ty t Q hr rx ry e q
  unfold isNT at e
  split at e
  · cases e; cases rx; cases ry
    exact ⟨rfl, q _ F H .refl hr (.bl _)⟩
  · rename_i h
    cases e; cases ry
    refine ⟨rfl, ?_⟩
    rw [decide_eq_false (fun z => by
      subst z
      cases rx
      exact h rfl)]
    exact q _ F H .refl hr (.bl _)
  · cases e
theorem isntNT_ok {G : Gd} : OpT G (fun x y H Q => y = .non ∧ Q (.bl (!decide (x = .non))) H) isntNT := by
  intro F ι M H x y tx ty t Q hr rx ry e q
  unfold isntNT at e
  split at e
  · cases e; cases rx; cases ry
    exact ⟨rfl, q _ F H .refl hr (.bl _)⟩
  · rename_i h
    cases e; cases ry
    refine ⟨rfl, ?_⟩
    rw [decide_eq_false (fun z => by
      subst z
      cases rx
      exact h rfl)]
    exact q _ F H .refl hr (.bl _)
  · cases e

/-! ### tests -/
def truT : T → Option Bool
  | .non => some false
  | .bl b => some b
  | .int i => some (i != 0)
  | .str x => if x.length ≤ sizeLine then some ((x.length : Int) != 0) else none
  | .tup ts => some (!ts.isEmpty)
  | .lst ts => some (!ts.isEmpty)
  | _ => none
def blT : T → Option Bool
  | .bl b => some b
  | _ => none
def testE (f : T → Option Bool) (m : EM T) : EM Bool := bindE m fun t => optE (f t)
def andB (a b : EM Bool) : EM Bool := bindE a fun c => if c = true then b else pureE false
def orB (a b : EM Bool) : EM Bool := bindE a fun c => if c = true then pureE true else b
def notB (a : EM Bool) : EM Bool := bindE a fun c => pureE (!c)
def andV (a b : EM T) : EM T := bindE a fun t => match t with
  | .bl true => b
  | .bl false => pureE (.bl false)
  | _ => stuckE
def orV (a b : EM T) : EM T := bindE a fun t => match t with
  | .bl true => pureE (.bl true)
  | .bl false => b
  | _ => stuckE
def ifV (c : EM Bool) (a b : EM T) : EM T := bindE c fun k => if k = true then a else b
def chainE (f g : T → T → Option T) (ma mb mc : EM T) : EM T := bindE ma fun x => bindE mb fun y => bindE (optE (f x y)) fun k => match k with
  | .bl true => bindE mc fun z => optE (g y z)
  | .bl false => pureE (.bl false)
  | _ => stuckE
theorem post_optB {α : Type} {G : Gd} {F H : Hp} {ι : List Addr} {M : Sto} {ρ : List Slot} {o : Option α} {ok : α → Sto → Hp → List Addr → Hp → Prop} {W} (p : Post G F ι H (optE o ρ M) ok W) :
    ∃ t, o = some t ∧ ∀ F' ι' H', Ext F ι H F' ι' H' → HRel G F' ι' M H' → ok t M F' ι' H' := by
  cases o with
  | none => exact p.elim
  | some t => exact ⟨t, rfl, p⟩
theorem tru_of {G : Gd} {F H : Hp} {ι : List Addr} {v : V} {t : T} {k : Bool} (s : Same F H) (r : Rep G F ι v t) (e : truT t = some k) : TruV G.K v H k := by
  cases r with
  | non => cases e; rfl
  | bl b => cases e; rfl
  | int i => cases e; rfl
  | str x =>
    have e : (if x.length ≤ sizeLine then some ((x.length : Int) != 0) else none) = some k := e
    split at e
    · rename_i h
      cases e
      exact ⟨h, rfl⟩
    · cases e
  | tup h r =>
    cases e
    refine .inr (.inl ⟨_, sqT_mono s h, ?_⟩)
    cases r <;> rfl
  | lst h r =>
    cases e
    refine .inl ⟨_, s.seq h, ?_⟩
    cases r <;> rfl
  | fn _ => cases e
  | ty _ => cases e
  | ptr _ => cases e
  | ins _ _ _ _ => cases e
section
variable {X : Cx} {a b c e : Expr} {rest : List Expr} {pos : Pos} {m ma mb mc : EM T} {ta tb tc : EM Bool} {op op' : CmpOp} {r r' : R2} {f g : T → T → Option T}
theorem jt_truth (ha : JE X a m) (he : ∀ whole, isTrue a X.env whole = (do let v ← whole; standAt a.pos; holding [v] (truthy v)) := by intro _; rfl) : JT X a (testE truT m) := fun W tk => PT_imp (pt_truth (ha W tk) he) fun σ H Q h => by
  obtain ⟨H0, F, ι, ρ, M, hr, sr, p⟩ := h
  refine ⟨H0, F, ι, ρ, M, hr, sr, (Post.bind p).imp (fun tx M1 F1 ι1 H1 e1 hr1 p1 v1 r1 => ?_) fun _ _ _ _ _ _ _ _ _ _ w => w⟩
  obtain ⟨k, e, p3⟩ := post_optB p1
  exact ⟨k, tru_of hr1.sub r1 e, p3 _ _ _ .refl hr1⟩
theorem jt_cmp (ho : OpR X (compareOp op) r) (hf : OpT (gd X) r f) (ha : JE X a ma) (hb : JE X b mb) (hm : behindInMarks op b = false) : JT X (.Compare a [op] [b] pos) (testE blT (op2 ma mb f)) :=
  fun W tk => PT_imp (pt_cmpR ho (ha W tk) (hb W tk) hm) fun σ H Q h => by
    obtain ⟨H0, F, ι, ρ, M, hr, sr, p⟩ := h
    refine rd_bin hf ⟨H0, F, ι, ρ, M, hr, sr, (Post.bind p).imp (fun tx M1 F1 ι1 H1 e1 hr1 p1 v1 r1 => ?_) fun _ _ _ _ _ _ _ _ _ _ w => w⟩
    obtain ⟨k, e, p3⟩ := post_optB p1
    unfold blT at e
    split at e
    · cases e; cases r1
      exact ⟨k, rfl, p3 _ _ _ .refl hr1⟩
    · cases e
theorem jt_not (ha : JT X a ta) : JT X (.UnaryOp .Not a pos) (notB ta) := fun W tk => PT_imp (pt_not (ha W tk)) fun σ H Q h => by
  obtain ⟨H0, F, ι, ρ, M, hr, sr, p⟩ := h
  exact ⟨H0, F, ι, ρ, M, hr, sr, (Post.bind p).imp (fun k M1 F1 ι1 H1 e1 hr1 p1 => p1 _ _ _ .refl hr1) fun _ _ _ _ _ _ _ _ _ _ w => w⟩
def JW (X : Cx) (e : Expr) (m : EM Bool) : Prop := ∀ W : WX, Takes X W → PW X e (rdT (gd X) W m)
theorem PW_imp {t t' : TT} (h : PW X e t) (i : ∀ σ H Q, t' σ H Q → t σ H Q) : PW X e t' := ⟨fun wh pins s σ H Q I q => h.run wh pins s σ H Q I (i σ H Q q)⟩
theorem jw_jt (h : JW X e ta) : JT X e ta := fun W tk => (h W tk).pt
theorem jw_and1 (ha : JT X a ta) : JW X (.BoolOp .And [a] pos) ta := fun W tk => pw_and1 (ha W tk)
theorem jw_or1 (ha : JT X a ta) : JW X (.BoolOp .Or [a] pos) ta := fun W tk => pw_or1 (ha W tk)
theorem jw_and (ha : JT X a ta) (hb : JW X (.BoolOp .And (b :: rest) pos) tb) : JW X (.BoolOp .And (a :: b :: rest) pos) (andB ta tb) := fun W tk => PW_imp (pw_and (ha W tk) (hb W tk)) fun σ H Q h => by
  obtain ⟨H0, F, ι, ρ, M, hr, sr, p⟩ := h
  refine ⟨H0, F, ι, ρ, M, hr, sr, (Post.bind p).imp (fun k M1 F1 ι1 H1 e1 hr1 p1 => ?_) fun _ _ _ _ _ _ _ _ _ _ w => w⟩
  cases k with
  | true => exact ⟨H0, F1, ι1, ρ, M1, hr1, sr.ext e1, p1⟩
  | false => exact p1 _ _ _ .refl hr1
theorem jw_or (ha : JT X a ta) (hb : JW X (.BoolOp .Or (b :: rest) pos) tb) : JW X (.BoolOp .Or (a :: b :: rest) pos) (orB ta tb) := fun W tk => PW_imp (pw_or (ha W tk) (hb W tk)) fun σ H Q h => by
  obtain ⟨H0, F, ι, ρ, M, hr, sr, p⟩ := h
  refine ⟨H0, F, ι, ρ, M, hr, sr, (Post.bind p).imp (fun k M1 F1 ι1 H1 e1 hr1 p1 => ?_) fun _ _ _ _ _ _ _ _ _ _ w => w⟩
  cases k with
  | false => exact ⟨H0, F1, ι1, ρ, M1, hr1, sr.ext e1, p1⟩
  | true => exact p1 _ _ _ .refl hr1
theorem je_one {o} (h : JE X a m) : JE X (.BoolOp o [a] pos) m := fun W tk => pe_one (h W tk)
theorem je_and (ha : JE X a ma) (hb : JE X (.BoolOp .And (b :: rest) pos) mb) : JE X (.BoolOp .And (a :: b :: rest) pos) (andV ma mb) := fun W tk => PE_imp (pe_and (ha W tk) (hb W tk)) fun σ H Q h => by
  obtain ⟨H0, F, ι, ρ, M, hr, sr, p⟩ := h
  refine ⟨H0, F, ι, ρ, M, hr, sr, (Post.bind p).imp (fun t M1 F1 ι1 H1 e1 hr1 p1 v1 r1 => ?_) fun _ _ _ _ _ _ _ _ _ _ w => w⟩
  dsimp only at p1
  split at p1
  · cases r1
    exact ⟨true, rfl, ⟨H0, F1, ι1, ρ, M1, hr1, sr.ext e1, p1⟩⟩
  · cases r1
    exact ⟨false, rfl, p1 _ _ _ .refl hr1 _ (.bl _)⟩
  · exact p1.elim
theorem je_or (ha : JE X a ma) (hb : JE X (.BoolOp .Or (b :: rest) pos) mb) : JE X (.BoolOp .Or (a :: b :: rest) pos) (orV ma mb) := fun W tk => PE_imp (pe_or (ha W tk) (hb W tk)) fun σ H Q h => by
  obtain ⟨H0, F, ι, ρ, M, hr, sr, p⟩ := h
  refine ⟨H0, F, ι, ρ, M, hr, sr, (Post.bind p).imp (fun t M1 F1 ι1 H1 e1 hr1 p1 v1 r1 => ?_) fun _ _ _ _ _ _ _ _ _ _ w => w⟩
  dsimp only at p1
  split at p1
  · cases r1
    exact ⟨true, rfl, p1 _ _ _ .refl hr1 _ (.bl _)⟩
  · cases r1
    exact ⟨false, rfl, ⟨H0, F1, ι1, ρ, M1, hr1, sr.ext e1, p1⟩⟩
  · exact p1.elim
def notT : T → Option T
  | .bl b => some (.bl (!b))
  | _ => none
theorem je_not (ha : JE X a ma) : JE X (.UnaryOp .Not a pos) (op1 ma notT) := fun W tk => PE_imp (pe_not (ha W tk)) fun σ H Q h => by
  obtain ⟨H0, F, ι, ρ, M, hr, sr, p⟩ := h
  refine ⟨H0, F, ι, ρ, M, hr, sr, (Post.bind p).imp (fun t M1 F1 ι1 H1 e1 hr1 p1 v1 r1 => ?_) fun _ _ _ _ _ _ _ _ _ _ w => w⟩
  obtain ⟨k, e, p3⟩ := post_opt p1
  unfold notT at e
  split at e
  · cases e; cases r1
    exact ⟨_, rfl, p3 _ _ _ .refl hr1 _ (.bl _)⟩
  · cases e
theorem je_ifExp (hc : JT X c tc) (ha : JE X a ma) (hb : JE X b mb) : JE X (.IfExp c a b pos) (ifV tc ma mb) := fun W tk => PE_imp (pe_ifExp (hc W tk) (ha W tk) (hb W tk)) fun σ H Q h => by
  obtain ⟨H0, F, ι, ρ, M, hr, sr, p⟩ := h
  refine ⟨H0, F, ι, ρ, M, hr, sr, (Post.bind p).imp (fun k M1 F1 ι1 H1 e1 hr1 p1 => ?_) fun _ _ _ _ _ _ _ _ _ _ w => w⟩
  cases k with
  | true => exact ⟨H0, F1, ι1, ρ, M1, hr1, sr.ext e1, p1⟩
  | false => exact ⟨H0, F1, ι1, ρ, M1, hr1, sr.ext e1, p1⟩
theorem rd_chain (hf : OpT (gd X) r f) (hg : OpT (gd X) r' g) {W : WT} {σ : St} {H : Hp} {Q : VK} (h : rdE (gd X) W (chainE f g ma mb mc) σ H Q) :
    tChain r r' (rdE (gd X) W ma) (rdE (gd X) W mb) (rdE (gd X) W mc) σ H Q := by
  obtain ⟨H0, F, ι, ρ, M, hr, sr, p⟩ := h
  refine ⟨H0, F, ι, ρ, M, hr, sr, (Post.bind p).imp (fun tx M1 F1 ι1 H1 e1 hr1 p1 v1 r1 => ?_) fun _ _ _ _ _ _ _ _ _ _ w => w⟩
  refine ⟨H0, F1, ι1, ρ, M1, hr1, sr.ext e1, (Post.bind p1).imp (fun ty M2 F2 ι2 H2 e2 hr2 p2 v2 r2 => ?_) fun _ _ _ _ _ _ _ _ _ _ w => w⟩
  obtain ⟨t, e, p3⟩ := post_opt (Post.bind p2)
  refine hf F2 ι2 M2 H2 v1 v2 tx ty t _ hr2 (r1.mono e2.mono e2.pre) r2 e fun v F3 H3 e3 hr3 r3 => ?_
  have p4 := p3 F3 ι2 H3 e3 hr3
  dsimp only at p4
  split at p4
  · cases r3
    refine ⟨true, rfl, ?_⟩
    rw [if_pos rfl]
    refine ⟨H0, F3, ι2, ρ, M2, hr3, (sr.ext e1).ext (e2.trans e3), (Post.bind p4).imp (fun tz M4 F4 ι4 H4 e4 hr4 p5 v4 r4 => ?_) fun _ _ _ _ _ _ _ _ _ _ w => w⟩
    obtain ⟨t', e', p6⟩ := post_opt p5
    exact hg F4 ι4 M4 H4 v2 v4 ty tz t' _ hr4 ((r2.mono e3.mono e3.pre).mono e4.mono e4.pre) r4 e' fun v F' H' e5 hr5 r5 => p6 F' ι4 H' e5 hr5 v r5
  · cases r3
    exact ⟨false, rfl, by rw [if_neg Bool.false_ne_true]; exact p4 _ _ _ .refl hr3 _ (.bl _)⟩
  · exact p4.elim
theorem je_chain (ho : OpR X (compareOp op) r) (ho' : OpR X (compareOp op') r') (hf : OpT (gd X) r f) (hg : OpT (gd X) r' g) (ha : JE X a ma) (hb : JE X b mb) (hc : JE X c mc)
    (hm : lastMarks [op, op'] [b, c] = false := by with_unfolding_all rfl) : JE X (.Compare a [op, op'] [b, c] pos) (chainE f g ma mb mc) :=
  fun W tk => PE_imp (pe_chain ho ho' (ha W tk) (hb W tk) (hc W tk) hm) fun _ _ _ h => rd_chain hf hg h
theorem jt_chain (ho : OpR X (compareOp op) r) (ho' : OpR X (compareOp op') r') (hf : OpT (gd X) r f) (hg : OpT (gd X) r' g) (ha : JE X a ma) (hb : JE X b mb) (hc : JE X c mc)
    (hm : lastMarks [op, op'] [b, c] = false := by with_unfolding_all rfl) : JT X (.Compare a [op, op'] [b, c] pos) (testE blT (chainE f g ma mb mc)) :=
  fun W tk => PT_imp (pt_chain ho ho' (ha W tk) (hb W tk) (hc W tk) hm) fun σ H Q h => by
    obtain ⟨H0, F, ι, ρ, M, hr, sr, p⟩ := h
    refine rd_chain hf hg ⟨H0, F, ι, ρ, M, hr, sr, (Post.bind p).imp (fun tx M1 F1 ι1 H1 e1 hr1 p1 v1 r1 => ?_) fun _ _ _ _ _ _ _ _ _ _ w => w⟩
    obtain ⟨k, e, p3⟩ := post_optB p1
    unfold blT at e
    split at e
    · cases e; cases r1
      exact ⟨k, rfl, p3 _ _ _ .refl hr1⟩
    · cases e
end
end TL
end
section
set_option Elab.async false
set_option linter.all false
set_option maxRecDepth 100000
set_option maxHeartbeats 1000000
namespace TL
open PySem PySem.Spec PyProof.Rows L2

/-! ### built-in calls -/
theorem rd_call {X : Cx} {mA : EM (List T)} {f : List T → Option T} {r : List V → Hp → VK → Prop} (hf : CalT (gd X) r f) {W : WT} {σ : St} {H : Hp} {Q : VK} (h : rdE (gd X) W (opA mA f) σ H Q) :
    tCB r (rdA (gd X) W mA) σ H Q := by
  obtain ⟨H0, F, ι, ρ, M, hr, sr, p⟩ := h
  refine ⟨H0, F, ι, ρ, M, hr, sr, (Post.bind p).imp (fun ts M1 F1 ι1 H1 e1 hr1 p1 vs rs => ?_) fun _ _ _ _ _ _ _ _ _ _ w => w⟩
  obtain ⟨t, e, p3⟩ := post_opt p1
  exact hf F1 ι1 M1 H1 vs ts t Q hr1 rs e fun v F' H' e3 hr3 r3 => p3 F' ι1 H' e3 hr3 v r3
section
variable {X : Cx} {x : Str} {p pos : Pos} {e : Expr} {es : List Expr} {mA : EM (List T)} {id Tn : String} {r : List V → Hp → VK → Prop} {f : List T → Option T}
theorem je_callB (hc : CallR X (.builtin id) r) (hf : CalT (gd X) r f) (hg : Gl X x) (hm : X.mg x = none) (hv : bootBuiltins x = some (.builtin id)) (ha : JA X (e :: es) mA) (hn : x ≠ "__name__" := by decide) (hdb : (x == ("__debug__" : Str)) = false := by decide)
    (he : starEach (e :: es) X.env = (false, eval e X.env) :: starEach es X.env := by rfl) (hpl : (backTo pos (starEach es X.env)).any (·.1) = false := by rfl) : JE X (.Call (.Name x p) (e :: es) [] pos) (opA mA f) :=
  fun W tk => PE_imp (pe_callB hc hg hm hv (ha W tk) hn hdb he hpl) fun _ _ _ h => rd_call hf h
theorem je_callTy (hc : CallR X (.type Tn) r) (hf : CalT (gd X) r f) (hg : Gl X x) (hm : X.mg x = none) (hv : bootBuiltins x = some (.type Tn)) (ha : JA X (e :: es) mA) (hn : x ≠ "__name__" := by decide) (hdb : (x == ("__debug__" : Str)) = false := by decide)
    (he : starEach (e :: es) X.env = (false, eval e X.env) :: starEach es X.env := by rfl) (hpl : (backTo pos (starEach es X.env)).any (·.1) = false := by rfl) : JE X (.Call (.Name x p) (e :: es) [] pos) (opA mA f) :=
  fun W tk => PE_imp (pe_callTy hc hg hm hv (ha W tk) hn hdb he hpl) fun _ _ _ h => rd_call hf h
end
theorem Reps.one {G : Gd} {F : Hp} {ι : List Addr} {vs : List V} {t : T} (r : Reps G F ι vs [t]) : ∃ v, vs = [v] ∧ Rep G F ι v t := by
  cases r with
  | cons a b => cases b; exact ⟨_, rfl, a⟩
theorem Reps.two {G : Gd} {F : Hp} {ι : List Addr} {vs : List V} {t u : T} (r : Reps G F ι vs [t, u]) : ∃ v w, vs = [v, w] ∧ Rep G F ι v t ∧ Rep G F ι w u := by
  cases r with
  | cons a b =>
    obtain ⟨w, rfl, c⟩ := b.one
    exact ⟨_, _, rfl, a, c⟩
def lenT : List T → Option T
  | [.tup ts] => some (.int ts.length)
  | [.lst ts] => some (.int ts.length)
  | [.str x] => if x.length ≤ sizeLine then some (.int x.length) else none
  | _ => none
theorem lenT_ok {G : Gd} : CalT G (fun xs H Q => ∃ x n, xs = [x] ∧ LenV G.K x H n ∧ Q (.int n) H) lenT := by
  intro F ι M H xs ts t Q hr rs e q
  unfold lenT at e
  split at e
  · cases e
    obtain ⟨v, rfl, r⟩ := rs.one
    cases r with
    | tup h r => exact ⟨_, _, rfl, .inr ⟨_, sqT_mono hr.sub h, r.length.symm⟩, q _ F H .refl hr (.int _)⟩
  · cases e
    obtain ⟨v, rfl, r⟩ := rs.one
    cases r with
    | lst h r => exact ⟨_, _, rfl, .inl ⟨_, hr.sub.seq h, r.length.symm⟩, q _ F H .refl hr (.int _)⟩
  · split at e
    · rename_i x hl
      cases e
      obtain ⟨v, rfl, r⟩ := rs.one
      cases r
      exact ⟨_, _, rfl, ⟨hl, rfl⟩, q _ F H .refl hr (.int _)⟩
    · cases e
  · cases e
def tupleT : List T → Option T
  | [.lst ts] => some (.tup ts)
  | [.tup ts] => some (.tup ts)
  | _ => none
theorem tupleT_ok {G : Gd} : CalT G (fun xs H Q => ∃ p ys, xs = [.ref p] ∧ ((SqL G.K H p ys ∧ ∀ l, H l = none → Q (.ref l) (upd H l (.tup ys))) ∨ (SqT G.K H p ys ∧ Q (.ref p) H))) tupleT := by
  intro F ι M H xs ts t Q hr rs e q
  unfold tupleT at e
  split at e
  · cases e
    obtain ⟨v, rfl, r⟩ := rs.one
    cases r with
    | lst h r => exact ⟨_, _, rfl, .inl ⟨hr.sub.seq h, fun p hp => q _ _ _ (ext_new hp (hr.noF hp)) (hr.new hp) (.tup (.of upd_same) (r.mono (ext_new (ι := ι) hp (hr.noF hp)).mono List.prefix_rfl))⟩⟩
  · cases e
    obtain ⟨v, rfl, r⟩ := rs.one
    cases r with
    | tup h r => exact ⟨_, _, rfl, .inr ⟨sqT_mono hr.sub h, q _ F H .refl hr (.tup h r)⟩⟩
  · cases e
def listT : List T → Option T
  | [.lst ts] => some (.lst ts)
  | [.tup ts] => some (.lst ts)
  | _ => none
theorem listT_ok {G : Gd} : CalT G (fun xs H Q => ∃ p ys, xs = [.ref p] ∧ (SqL G.K H p ys ∨ SqT G.K H p ys) ∧ ∀ l, H l = none → Q (.ref l) (upd H l (.lst ys))) listT := by
  intro F ι M H xs ts t Q hr rs e q
  unfold listT at e
  split at e
  · cases e
    obtain ⟨v, rfl, r⟩ := rs.one
    cases r with
    | lst h r => exact ⟨_, _, rfl, .inl (hr.sub.seq h), fun p hp => q _ _ _ (ext_new hp (hr.noF hp)) (hr.new hp) (.lst (.of upd_same) (r.mono (ext_new (ι := ι) hp (hr.noF hp)).mono List.prefix_rfl))⟩
  · cases e
    obtain ⟨v, rfl, r⟩ := rs.one
    cases r with
    | tup h r => exact ⟨_, _, rfl, .inr (sqT_mono hr.sub h), fun p hp => q _ _ _ (ext_new hp (hr.noF hp)) (hr.new hp) (.lst (.of upd_same) (r.mono (ext_new (ι := ι) hp (hr.noF hp)).mono List.prefix_rfl))⟩
  · cases e
/-- the whole numbers of a list, the truth values -/
def intsT : List T → Option (List Int)
  | [] => some []
  | .int i :: ts => (intsT ts).map (i :: ·)
  | _ => none
def blsT : List T → Option (List Bool)
  | [] => some []
  | .bl i :: ts => (blsT ts).map (i :: ·)
  | _ => none
theorem intsT_of {G : Gd} {F : Hp} {ι : List Addr} : ∀ {vs : List V} {ts : List T} {ns : List Int}, Reps G F ι vs ts → intsT ts = some ns → vs = ns.map V.int
  | _, _, ns, .nil, h => by cases h; rfl
  | _, _, ns, .cons (t := t) (ts := ts) r rs, h => by
    cases r <;> try cases h
    rename_i i
    unfold intsT at h
    obtain ⟨ms, e1, e2⟩ := Option.map_eq_some_iff.mp h
    subst e2
    rw [intsT_of rs e1]
    rfl
theorem blsT_of {G : Gd} {F : Hp} {ι : List Addr} : ∀ {vs : List V} {ts : List T} {ns : List Bool}, Reps G F ι vs ts → blsT ts = some ns → vs = ns.map V.bl
  | _, _, ns, .nil, h => by cases h; rfl
  | _, _, ns, .cons (t := t) (ts := ts) r rs, h => by
    cases r <;> try cases h
    rename_i i
    unfold blsT at h
    obtain ⟨ms, e1, e2⟩ := Option.map_eq_some_iff.mp h
    subst e2
    rw [blsT_of rs e1]
    rfl
def sumT : List T → Option T
  | [.lst ts] => (intsT ts).map fun ns => .int ns.sum
  | [.tup ts] => (intsT ts).map fun ns => .int ns.sum
  | _ => none
/-- sum of a tuple of whole numbers -/
def rSumU (K : PySem.W.Frag) : List V → Hp → VK → Prop := fun vs H Q => ∃ (a : Addr) (ns : List Int), vs = [V.ref a] ∧ SqT K H a (ns.map V.int) ∧ Q (.int ns.sum) H
theorem cr_sumU {X : Cx} (hc : X.calm = true) : CallR X (.builtin "sum") (rSumU X.K) := by
  intro pins s σ H vs us Q I r h
  obtain ⟨a, ns, rfl, hs, q⟩ := h
  obtain ⟨its, rv, hl, _⟩ := I.tuple hs
  rw [Vals.ref1 r]
  have hi := rv.ints
  obtain ⟨xs, e⟩ := hi.allInts.items
  have hn : numsOf (intItems xs).toList = ns := by rw [← e]; exact hi.numsOf
  rw [nums_intItems] at hn
  have hl2 : s.heap.IsTuple a (intItems xs) := by rw [← e]; exact hl
  refine PySem.W.ktm_sumG (I.ok.hd hc) hl2 fun h' tk t' hk => ?_
  rw [preSum_eq, List.take_of_length_le (by simp), hn]
  exact ⟨.int _, H, I.kept hk, ⟨_, rfl⟩, q⟩
def rSumA (K : PySem.W.Frag) : List V → Hp → VK → Prop := fun vs H Q => rSum K vs H Q ∨ rSumU K vs H Q
theorem cr_sumA {X : Cx} (hc : X.calm = true) : CallR X (.builtin "sum") (rSumA X.K) := (cr_sum hc).or (cr_sumU hc)
def allT : List T → Option T
  | [.lst ts] => (blsT ts).map fun ns => .bl (ns.all id)
  | _ => none
def anyT : List T → Option T
  | [.lst ts] => (blsT ts).map fun ns => .bl (ns.any id)
  | _ => none
theorem sumT_ok {G : Gd} : CalT G (rSumA G.K) sumT := by
  intro F ι M H xs ts t Q hr rs e q
  unfold sumT at e
  split at e
  · obtain ⟨ns, e1, e2⟩ := Option.map_eq_some_iff.mp e
    subst e2
    obtain ⟨v, rfl, r⟩ := rs.one
    cases r with
    | lst h r =>
      have e3 := intsT_of r e1
      subst e3
      exact .inl ⟨_, _, rfl, hr.sub.seq h, q _ F H .refl hr (.int _)⟩
  · obtain ⟨ns, e1, e2⟩ := Option.map_eq_some_iff.mp e
    subst e2
    obtain ⟨v, rfl, r⟩ := rs.one
    cases r with
    | tup h r =>
      have e3 := intsT_of r e1
      subst e3
      exact .inr ⟨_, _, rfl, sqT_mono hr.sub h, q _ F H .refl hr (.int _)⟩
  · cases e
theorem allT_ok {G : Gd} : CalT G (rAll G.K) allT := by
  intro F ι M H xs ts t Q hr rs e q
  unfold allT at e
  split at e
  · obtain ⟨ns, e1, e2⟩ := Option.map_eq_some_iff.mp e
    subst e2
    obtain ⟨v, rfl, r⟩ := rs.one
    cases r with
    | lst h r =>
      have e3 := blsT_of r e1
      subst e3
      exact ⟨_, _, rfl, hr.sub.seq h, q _ F H .refl hr (.bl _)⟩
  · cases e
theorem anyT_ok {G : Gd} : CalT G (rAny G.K) anyT := by
  intro F ι M H xs ts t Q hr rs e q
  unfold anyT at e
  split at e
  · obtain ⟨ns, e1, e2⟩ := Option.map_eq_some_iff.mp e
    subst e2
    obtain ⟨v, rfl, r⟩ := rs.one
    cases r with
    | lst h r =>
      have e3 := blsT_of r e1
      subst e3
      exact ⟨_, _, rfl, hr.sub.seq h, q _ F H .refl hr (.bl _)⟩
  · cases e
def int1T : List T → Option T
  | [.int i] => some (.int i)
  | [.bl b] => some (.int (if b then 1 else 0))
  | _ => none
theorem int1T_ok {G : Gd} : CalT G (fun xs H Q => (∃ i, xs = [.int i] ∧ Q (.int i) H) ∨ ∃ k, xs = [.bl k] ∧ Q (.int (if k then 1 else 0)) H) int1T := by
  intro F ι M H xs ts t Q hr rs e q
  unfold int1T at e
  split at e
  · cases e
    obtain ⟨v, rfl, r⟩ := rs.one
    cases r
    exact .inl ⟨_, rfl, q _ F H .refl hr (.int _)⟩
  · cases e
    obtain ⟨v, rfl, r⟩ := rs.one
    cases r
    exact .inr ⟨_, rfl, q _ F H .refl hr (.int _)⟩
  · cases e
/-! ### isinstance -/
def tyT : T → Option String
  | .non => some "NoneType"
  | .bl _ => some "bool"
  | .int _ => some "int"
  | .str _ => some "str"
  | .tup _ => some "tuple"
  | .lst _ => some "list"
  | _ => none
theorem tyX_of {K : PySem.W.Frag} {mg : Str → Option Value} {F H : Hp} {ι : List Addr} {v : V} {t : T} {n : String} (s : Same F H) (r : Rep ⟨K, mg⟩ F ι v t) (e : tyT t = some n) : TyX K H v (.type n) := by
  cases r with
  | non => cases e; exact .base .non
  | bl b => cases e; exact .base (.bl b)
  | int i => cases e; exact .base (.int i)
  | str x => cases e; exact .base (.str x)
  | tup h r =>
    cases e
    rcases h with (h | ⟨o, h⟩) | ⟨o, its, n, h, c, _⟩
    · exact .base (.tup (s _ _ h))
    · exact .fTuple (s _ _ h)
    · exact .kTuple h c
  | lst h r =>
    cases e
    rcases h with (h | ⟨o, h⟩) | ⟨o, its, n, h, c, _⟩
    · exact .base (.lst (s _ _ h))
    · exact .base (.frz (s _ _ h))
    · exact .kList h c
  | fn _ => cases e
  | ty _ => cases e
  | ptr _ => cases e
  | ins _ _ _ _ => cases e
/-- which of these types is which -/
def subTy (a b : String) : Option Bool :=
  if ["NoneType", "bool", "int", "str", "tuple", "list"].contains a && ["bool", "int", "str", "tuple", "list", "dict"].contains b then some (a == b || (a == "bool" && b == "int")) else none
theorem subTy_ok : ∀ a ∈ ["NoneType", "bool", "int", "str", "tuple", "list"], ∀ b ∈ ["bool", "int", "str", "tuple", "list", "dict"], kitB a b = some (a == b || (a == "bool" && b == "int")) := by decide +kernel
def isiT : List T → Option T
  | [x, .ty b] => match tyT x with
    | some a => (subTy a b).map T.bl
    | none => none
  | _ => none
theorem isiT_ok {G : Gd} : CalT G (rIsi G.K) isiT := by
  intro F ι M H xs ts t Q hr rs e q
  unfold isiT at e
  split at e
  · split at e
    · rename_i x b _ a ea
      obtain ⟨k, e1, e2⟩ := Option.map_eq_some_iff.mp e
      subst e2
      obtain ⟨v, w, rfl, r1, r2⟩ := rs.two
      cases r2
      unfold subTy at e1
      split at e1
      · rename_i hc
        cases e1
        rw [Bool.and_eq_true] at hc
        exact ⟨v, .ty b, .type a, .type b, _, rfl, .ty b, tyX_of hr.sub r1 ea, kit_ty (subTy_ok a (List.contains_iff_mem.mp hc.1) b (List.contains_iff_mem.mp hc.2)), q _ F H .refl hr (.bl _)⟩
      · cases e1
    · cases e
  · cases e
/-! ### x[i], x[a:b] -/
def ixT : T → T → Option T
  | .tup ts, .int i => atI ts i
  | .lst ts, .int i => atI ts i
  | .str x, .int i => if x.length ≤ sizeLine then (atI x.cps.toList i).map fun c => .str ⟨#[c]⟩ else none
  | _, _ => none
theorem reps_at {G : Gd} {F : Hp} {ι : List Addr} {vs : List V} {ts : List T} {i : Int} {t : T} (r : Reps G F ι vs ts) (e : atI ts i = some t) : ∃ v, atI vs i = some v ∧ Rep G F ι v t := by
  unfold atI at e ⊢
  rw [r.length]
  cases q : ixN ts.length i with
  | none => rw [q] at e; cases e
  | some j =>
    rw [q] at e
    exact r.get e
theorem ixT_ok {G : Gd} : OpT G (rIx G.K) ixT := by
  intro F ι M H x y tx ty t Q hr rx ry e q
  unfold ixT at e
  split at e
  · cases ry
    cases rx with
    | tup h r =>
      obtain ⟨v, e1, r1⟩ := reps_at r e
      exact .inr (.inl ⟨_, _, _, v, rfl, rfl, sqT_mono hr.sub h, e1, q _ F H .refl hr r1⟩)
  · cases ry
    cases rx with
    | lst h r =>
      obtain ⟨v, e1, r1⟩ := reps_at r e
      exact .inl ⟨_, _, _, v, rfl, rfl, hr.sub.seq h, e1, q _ F H .refl hr r1⟩
  · split at e
    · rename_i hl
      obtain ⟨c, e1, e2⟩ := Option.map_eq_some_iff.mp e
      subst e2
      cases ry; cases rx
      exact .inr (.inr ⟨_, _, c, rfl, rfl, hl, e1, q _ F H .refl hr (.str _)⟩)
    · cases e
  · cases e
section
variable {X : Cx} {a b : Expr} {ma mb : EM T} {pos : Pos}
theorem je_ix (ha : JE X a ma) (hb : JE X b mb) (hs : PlainIx b := by exact fun _ _ => rfl) : JE X (.Subscript a b pos) (op2 ma mb ixT) :=
  fun W tk => PE_imp (pe_ix ix_seq (ha W tk) (hb W tk) hs) fun _ _ _ h => rd_bin ixT_ok h
end
/-- a part of a slice -/
def partE (m : Option (EM T)) : EM (Option Int) := match m with
  | none => pureE none
  | some m => bindE m fun t => match t with
    | .int i => pureE (some i)
    | _ => stuckE
def rdO (G : Gd) (W : WT) (m : EM (Option Int)) : TO := fun σ H Q => ∃ H0 F ι ρ M, HRel G F ι M H ∧ SRel G H0 F ι ρ σ H ∧
  Post G F ι H (m ρ M) (fun b M' F' ι' H' => Q b H') (fun cls d e M' F' ι' H' => W cls d σ H')
def JO (X : Cx) (e : Option Expr) (m : EM (Option Int)) : Prop := ∀ W : WX, Takes X W → PO X e (rdO (gd X) W m)
theorem PO_imp {X : Cx} {e : Option Expr} {t t' : TO} (h : PO X e t) (i : ∀ σ H Q, t' σ H Q → t σ H Q) : PO X e t' := ⟨fun pins s σ H Q I q => h.run pins s σ H Q I (i σ H Q q)⟩
def cutT (lo hi : Option Int) (ts : List T) : List T := (ts.drop (HT.sIx ts.length 0 lo)).take (HT.sIx ts.length ts.length hi - HT.sIx ts.length 0 lo)
def sliceT (x : T) (lo hi : Option Int) : Option T := match x with
  | .tup ts => some (.tup (cutT lo hi ts))
  | .lst ts => some (.lst (cutT lo hi ts))
  | _ => none
theorem Reps.cut {G : Gd} {F : Hp} {ι : List Addr} {vs : List V} {ts : List T} (r : Reps G F ι vs ts) (lo hi : Option Int) : Reps G F ι (cutV vs lo hi) (cutT lo hi ts) := by
  unfold cutV cutT
  rw [r.length]
  exact (r.drop _).take _
section
variable {X : Cx} {e : Expr} {m : EM T} {lo hi : Option Expr} {mo mh : EM (Option Int)} {pos p2 : Pos}
theorem jo_none : JO X none (partE none) := fun W tk => PO_imp po_none fun σ H Q h => by
  obtain ⟨H0, F, ι, ρ, M, hr, sr, p⟩ := h
  exact p _ _ _ .refl hr
theorem jo_some (h : JE X e m) : JO X (some e) (partE (some m)) := fun W tk => PO_imp (po_some (h W tk)) fun σ H Q h => by
  obtain ⟨H0, F, ι, ρ, M, hr, sr, p⟩ := h
  refine ⟨H0, F, ι, ρ, M, hr, sr, (Post.bind p).imp (fun tx M1 F1 ι1 H1 e1 hr1 p1 v1 r1 => ?_) fun _ _ _ _ _ _ _ _ _ _ w => w⟩
  dsimp only at p1
  split at p1
  · cases r1
    exact ⟨_, rfl, p1 _ _ _ .refl hr1⟩
  · exact p1.elim
def sliceE (m : EM T) (mo mh : EM (Option Int)) : EM T := bindE m fun x => bindE mo fun l => bindE mh fun u => optE (sliceT x l u)
theorem je_slice (he : JE X e m) (hl : JO X lo mo) (hu : JO X hi mh) : JE X (.Subscript e (.Slice lo hi none p2) pos) (sliceE m mo mh) :=
  fun W tk => PE_imp (pe_slice (SlR.or sl_tupA sl_list) (he W tk) (hl W tk) (hu W tk)) fun σ H Q h => by
    obtain ⟨H0, F, ι, ρ, M, hr, sr, p⟩ := h
    refine ⟨H0, F, ι, ρ, M, hr, sr, (Post.bind p).imp (fun tx M1 F1 ι1 H1 e1 hr1 p1 v1 r1 => ?_) fun _ _ _ _ _ _ _ _ _ _ w => w⟩
    refine ⟨H0, F1, ι1, ρ, M1, hr1, sr.ext e1, (Post.bind p1).imp (fun l M2 F2 ι2 H2 e2 hr2 p2 => ?_) fun _ _ _ _ _ _ _ _ _ _ w => w⟩
    refine ⟨H0, F2, ι2, ρ, M2, hr2, (sr.ext e1).ext e2, (Post.bind p2).imp (fun u M3 F3 ι3 H3 e3 hr3 p3 => ?_) fun _ _ _ _ _ _ _ _ _ _ w => w⟩
    obtain ⟨t, e, p4⟩ := post_opt p3
    have r3 := (r1.mono e2.mono e2.pre).mono e3.mono e3.pre
    unfold sliceT at e
    split at e
    · rename_i ts
      cases e
      cases r3 with
      | @tup a vs _ h r =>
        refine .inl ⟨_, _, rfl, sqT_mono hr3.sub h, fun z => ?_, fun _ q hq => ?_⟩
        · have e5 : cutT l u ts = ts := by
            unfold cutT
            rw [r.length] at z
            rw [z.1, z.2, List.drop_zero, Nat.sub_zero, List.take_length]
          rw [e5] at p4
          exact p4 _ _ _ .refl hr3 _ (.tup h r)
        · exact p4 _ _ _ (ext_new hq (hr3.noF hq)) (hr3.new hq) _ (.tup (.of upd_same) ((r.cut l u).mono (ext_new (ι := ι3) hq (hr3.noF hq)).mono List.prefix_rfl))
    · rename_i ts
      cases e
      cases r3 with
      | @lst a vs _ h r =>
        exact .inr ⟨_, _, rfl, hr3.sub.seq h, fun q hq => p4 _ _ _ (ext_new hq (hr3.noF hq)) (hr3.new hq) _ (.lst (.of upd_same) ((r.cut l u).mono (ext_new (ι := ι3) hq (hr3.noF hq)).mono List.prefix_rfl))⟩
    · cases e
end
end TL
end
section
set_option Elab.async false
set_option linter.all false
set_option maxRecDepth 100000
set_option maxHeartbeats 1000000
namespace TL
open PySem PySem.Spec PyProof.Rows L2

/-! ### statements -/
inductive RS where
  | stuck
  | nx (ρ : List Slot) (M : Sto)
  | ret (t : T) (M : Sto)
  | brk (ρ : List Slot) (M : Sto)
  | ct (ρ : List Slot) (M : Sto)
  | exc (e : Exc) (ρ : List Slot) (M : Sto)
abbrev SM := List Slot → Sto → RS

/-- behind a statement: F0 ι0 H0 the def's entry, F ι what is known to stay -/
def PostS (G : Gd) (W : WT) (F0 : Hp) (ι0 : List Addr) (H0 F : Hp) (ι : List Addr) (D : Ends) : RS → Prop
  | .stuck => False
  | .nx ρ' M' => ∀ F' ι' σ' H', Ext F0 ι0 H0 F' ι' H' → Same F F' → ι <+: ι' → HRel G F' ι' M' H' → SRel G H0 F' ι' ρ' σ' H' → D.nx σ' H'
  | .ret t M' => ∀ v F' ι' H', Ext F0 ι0 H0 F' ι' H' → HRel G F' ι' M' H' → Rep G F' ι' v t → D.rt v H'
  | .brk ρ' M' => ∀ F' ι' σ' H', Ext F0 ι0 H0 F' ι' H' → Same F F' → ι <+: ι' → HRel G F' ι' M' H' → SRel G H0 F' ι' ρ' σ' H' → D.bk σ' H'
  | .ct ρ' M' => ∀ F' ι' σ' H', Ext F0 ι0 H0 F' ι' H' → Same F F' → ι <+: ι' → HRel G F' ι' M' H' → SRel G H0 F' ι' ρ' σ' H' → D.ct σ' H'
  | .exc e ρ' M' => ∀ cls d F' ι' σ' H', Ext F0 ι0 H0 F' ι' H' → Same F F' → ι <+: ι' → HRel G F' ι' M' H' → SRel G H0 F' ι' ρ' σ' H' → ERep G F' ι' H' cls d e → W cls d σ' H'
def rdS (G : Gd) (W : WT) (m : SM) : TS := fun D σ H => ∃ F0 ι0 H0 F ι ρ M, Ext F0 ι0 H0 F ι H ∧ HRel G F ι M H ∧ SRel G H0 F ι ρ σ H ∧ PostS G W F0 ι0 H0 F ι D (m ρ M)
def JS (X : Cx) (st : Stmt) (m : SM) : Prop := ∀ W : WX, Takes X W → PS X st (rdS (gd X) W m)
def JSs (X : Cx) (st : List Stmt) (m : SM) : Prop := ∀ W : WX, Takes X W → PSs X st (rdS (gd X) W m)

/-- an expression, then a statement's end -/
def R.toS {α : Type} (ρ : List Slot) (r : R α) (k : α → Sto → RS) : RS := match r with
  | .stuck => .stuck
  | .ok t M => k t M
  | .exc e M => .exc e ρ M
section
variable {G : Gd} {W : WT} {F0 H0 F H : Hp} {ι0 ι : List Addr} {ρ : List Slot} {σ : St} {D : Ends} {α : Type} {r : R α} {k : α → Sto → RS}
theorem PostS.shift {F1 : Hp} {ι1 : List Addr} {r : RS} (s : Same F F1) (i : ι <+: ι1) (p : PostS G W F0 ι0 H0 F ι D r) : PostS G W F0 ι0 H0 F1 ι1 D r := by
  cases r with
  | stuck => exact p
  | nx ρ' M' => exact fun F' ι' σ' H' e s' i' => p F' ι' σ' H' e (s.trans s') (i.trans i')
  | ret t M' => exact p
  | brk ρ' M' => exact fun F' ι' σ' H' e s' i' => p F' ι' σ' H' e (s.trans s') (i.trans i')
  | ct ρ' M' => exact fun F' ι' σ' H' e s' i' => p F' ι' σ' H' e (s.trans s') (i.trans i')
  | exc x ρ' M' => exact fun cls d F' ι' σ' H' e s' i' => p cls d F' ι' σ' H' e (s.trans s') (i.trans i')
theorem PostS.bind (p : PostS G W F0 ι0 H0 F ι D (r.toS ρ k)) (e0 : Ext F0 ι0 H0 F ι H) (sr : SRel G H0 F ι ρ σ H) :
    Post G F ι H r (fun t M1 F1 ι1 H1 => PostS G W F0 ι0 H0 F1 ι1 D (k t M1)) (fun cls d e M' F' ι' H' => W cls d σ H') := by
  cases r with
  | stuck => exact p
  | ok t M => exact fun F1 ι1 H1 e1 _ => p.shift e1.mono e1.pre
  | exc e M => exact fun cls d F' ι' H' e1 hr er => p cls d F' ι' σ H' (e0.trans e1) e1.mono e1.pre hr (sr.ext e1) er
/-- as the state stands -/
theorem PostS.nxt {M : Sto} (p : PostS G W F0 ι0 H0 F ι D (.nx ρ M)) (e0 : Ext F0 ι0 H0 F ι H) (hr : HRel G F ι M H) (sr : SRel G H0 F ι ρ σ H) : D.nx σ H := p F ι σ H e0 (Same.refl F) List.prefix_rfl hr sr
end
def nextS : SM := .nx
def seqS (a b : SM) : SM := fun ρ M => match a ρ M with
  | .nx ρ' M' => b ρ' M'
  | r => r
def exprS (m : EM T) : SM := fun ρ M => (m ρ M).toS ρ fun _ M1 => .nx ρ M1
def retS (m : EM T) : SM := fun ρ M => (m ρ M).toS ρ fun t M1 => .ret t M1
def retNS : SM := fun _ M => .ret .non M
def setS (i : Nat) (m : EM T) : SM := fun ρ M => (m ρ M).toS ρ fun t M1 => .nx (ρ.set i (.val t)) M1
def ifS (c : EM Bool) (a b : SM) : SM := fun ρ M => (c ρ M).toS ρ fun k M1 => if k = true then a ρ M1 else b ρ M1
def stuckS : SM := fun _ _ => .stuck
def brkS : SM := .brk
def ctS : SM := .ct
/-- name op= e -/
def augS (i : Nat) (m : EM T) (f : T → T → Option T) : SM := fun ρ M => match ρ[i]? with
  | some (.val x) => (m ρ M).toS ρ fun y M2 => match f x y with
    | some t => .nx (ρ.set i (.val t)) M2
    | none => .stuck
  | _ => .stuck

theorem SRel.set {G : Gd} {H0 F H : Hp} {ι : List Addr} {ρ : List Slot} {σ : St} {v : V} {t : T} (s : SRel G H0 F ι ρ σ H) (i : Nat) (r : Rep G F ι v t) : SRel G H0 F ι (ρ.set i (.val t)) (σ.set i (some v)) H where
  len := by rw [List.length_set, List.length_set]; exact s.len
  val := fun j u h => by
    by_cases e : i = j
    · subst e
      by_cases hi : i < ρ.length
      · rw [List.getElem?_set_self hi] at h
        cases h
        exact ⟨v, List.getElem?_set_self (by rw [← s.len]; exact hi), r⟩
      · rw [List.getElem?_eq_none (by rw [List.length_set]; omega)] at h
        cases h
    · rw [List.getElem?_set_ne e] at h
      rw [List.getElem?_set_ne e]
      exact s.val j u h
  own := fun j u h => by
    by_cases e : i = j
    · subst e
      by_cases hi : i < ρ.length
      · rw [List.getElem?_set_self hi] at h
        cases h
      · rw [List.getElem?_eq_none (by rw [List.length_set]; omega)] at h
        cases h
    · rw [List.getElem?_set_ne e] at h
      rw [List.getElem?_set_ne e]
      exact s.own j u h
  sep := fun j l t u a h1 h2 h3 h4 => by
    by_cases e : i = j
    · subst e
      by_cases hi : i < ρ.length
      · rw [List.getElem?_set_self hi] at h1
        cases h1
      · rw [List.getElem?_eq_none (by rw [List.length_set]; omega)] at h1
        cases h1
    · by_cases e2 : i = l
      · subst e2
        by_cases hi : i < ρ.length
        · rw [List.getElem?_set_self hi] at h2
          cases h2
        · rw [List.getElem?_eq_none (by rw [List.length_set]; omega)] at h2
          cases h2
      · rw [List.getElem?_set_ne e] at h1 h3
        rw [List.getElem?_set_ne e2] at h2 h4
        exact s.sep j l t u a h1 h2 h3 h4
section
variable {X : Cx} {st : Stmt} {rest : List Stmt} {m n : SM} {e c : Expr} {me : EM T} {mc : EM Bool} {pos : Pos} {a b : List Stmt} {ma mb : SM}
theorem jss_nil : JSs X [] nextS := fun W tk => PSs_imp pss_nil fun D σ H h => by
  obtain ⟨F0, ι0, H0, F, ι, ρ, M, e0, hr, sr, p⟩ := h
  exact p _ _ _ _ e0 (Same.refl _) List.prefix_rfl hr sr
theorem jss_cons (h1 : JS X st m) (h2 : JSs X rest n) : JSs X (st :: rest) (seqS m n) := fun W tk => PSs_imp (pss_cons (h1 W tk) (h2 W tk)) fun D σ H h => by
  obtain ⟨F0, ι0, H0, F, ι, ρ, M, e0, hr, sr, p⟩ := h
  refine ⟨F0, ι0, H0, F, ι, ρ, M, e0, hr, sr, ?_⟩
  unfold seqS at p
  cases q : m ρ M with
  | nx ρ' M' =>
    rw [q] at p
    exact fun F' ι' σ' H' e1 s1 i1 hr1 sr1 => ⟨F0, ι0, H0, F', ι', ρ', M', e1, hr1, sr1, p.shift s1 i1⟩
  | stuck => rw [q] at p; exact p
  | ret t M' => rw [q] at p; exact p
  | brk ρ' M' => rw [q] at p; exact p
  | ct ρ' M' => rw [q] at p; exact p
  | exc x ρ' M' => rw [q] at p; exact p
theorem jss_one (h1 : JS X st m) : JSs X [st] m := fun W tk => pss_one (h1 W tk)
theorem js_pass : JS X (.Pass pos) nextS := fun W tk => PS_imp ps_pass fun D σ H h => by
  obtain ⟨F0, ι0, H0, F, ι, ρ, M, e0, hr, sr, p⟩ := h
  exact p _ _ _ _ e0 (Same.refl _) List.prefix_rfl hr sr
theorem js_never : JS X st stuckS := fun W tk => PS_imp ps_never fun D σ H h => by
  obtain ⟨F0, ι0, H0, F, ι, ρ, M, e0, hr, sr, p⟩ := h
  exact p
theorem js_break : JS X (.Break pos) brkS := fun W tk => PS_imp ps_break fun D σ H h => by
  obtain ⟨F0, ι0, H0, F, ι, ρ, M, e0, hr, sr, p⟩ := h
  exact p _ _ _ _ e0 (Same.refl _) List.prefix_rfl hr sr
theorem js_continue : JS X (.Continue pos) ctS := fun W tk => PS_imp ps_continue fun D σ H h => by
  obtain ⟨F0, ι0, H0, F, ι, ρ, M, e0, hr, sr, p⟩ := h
  exact p _ _ _ _ e0 (Same.refl _) List.prefix_rfl hr sr
theorem js_expr (he : JE X e me) (hs : swapsWith e none pos.line X.env = pure false := by rfl) : JS X (.Expr e pos) (exprS me) := fun W tk => PS_imp (ps_expr (he W tk) hs) fun D σ H h => by
  obtain ⟨F0, ι0, H0, F, ι, ρ, M, e0, hr, sr, p⟩ := h
  exact ⟨H0, F, ι, ρ, M, hr, sr, (p.bind e0 sr).imp (fun t M1 F1 ι1 H1 e1 hr1 p1 v1 r1 => p1.nxt (e0.trans e1) hr1 (sr.ext e1)) fun _ _ _ _ _ _ _ _ _ _ w => w⟩
theorem js_ret (he : JE X e me) : JS X (.Return (some e) pos) (retS me) := fun W tk => PS_imp (ps_ret (he W tk)) fun D σ H h => by
  obtain ⟨F0, ι0, H0, F, ι, ρ, M, e0, hr, sr, p⟩ := h
  exact ⟨H0, F, ι, ρ, M, hr, sr, (p.bind e0 sr).imp (fun t M1 F1 ι1 H1 e1 hr1 p1 v1 r1 => p1 _ _ _ _ (e0.trans e1) hr1 r1) fun _ _ _ _ _ _ _ _ _ _ w => w⟩
theorem js_retN : JS X (.Return none pos) retNS := fun W tk => PS_imp ps_retN fun D σ H h => by
  obtain ⟨F0, ι0, H0, F, ι, ρ, M, e0, hr, sr, p⟩ := h
  exact p _ _ _ _ e0 hr .non
theorem js_if (hc : JT X c mc) (ha : JSs X a ma) (hb : JSs X b mb) : JS X (.If c a b pos) (ifS mc ma mb) := fun W tk => PS_imp (ps_if (hc W tk) (ha W tk) (hb W tk)) fun D σ H h => by
  obtain ⟨F0, ι0, H0, F, ι, ρ, M, e0, hr, sr, p⟩ := h
  refine ⟨H0, F, ι, ρ, M, hr, sr, (p.bind e0 sr).imp (fun k M1 F1 ι1 H1 e1 hr1 p1 => ?_) fun _ _ _ _ _ _ _ _ _ _ w => w⟩
  cases k with
  | true => exact ⟨F0, ι0, H0, F1, ι1, ρ, M1, e0.trans e1, hr1, sr.ext e1, p1⟩
  | false => exact ⟨F0, ι0, H0, F1, ι1, ρ, M1, e0.trans e1, hr1, sr.ext e1, p1⟩
theorem js_set {i : Nat} {x : Str} {pos' : Pos} (hN : X.N.Nodup) (hi : X.N[i]? = some x) (hx : Loc X.env.scope x) (he : JE X e me) (hs : swapsWith e (some (.Name x pos')) pos.line X.env = pure false := by rfl)
    (hf : X.fn x = true ∨ X.env.scope.names.lookup x = some .local := by first | exact .inl rfl | exact .inr rfl | assumption) : JS X (.Assign [.Name x pos'] e pos) (setS i me) := fun W tk => PS_imp (ps_set hN hi hx (he W tk) hs hf) fun D σ H h => by
  obtain ⟨F0, ι0, H0, F, ι, ρ, M, e0, hr, sr, p⟩ := h
  exact ⟨H0, F, ι, ρ, M, hr, sr, (p.bind e0 sr).imp (fun t M1 F1 ι1 H1 e1 hr1 p1 v1 r1 => p1.nxt (e0.trans e1) hr1 ((sr.ext e1).set i r1)) fun _ _ _ _ _ _ _ _ _ _ w => w⟩
theorem js_aug {i : Nat} {x : Str} {op : Operator} {r : R2} {f : T → T → Option T} {pos' : Pos} (hN : X.N.Nodup) (hi : X.N[i]? = some x) (hx : Loc X.env.scope x) (he : JE X e me) (ho : OpR X (inplaceOp op) r) (hf' : OpT (gd X) r f)
    (hf : X.fn x = true ∨ X.env.scope.names.lookup x = some .local := by first | exact .inl rfl | exact .inr rfl | assumption) : JS X (.AugAssign (.Name x pos') op e pos) (augS i me f) := fun W tk => PS_imp (ps_aug hN hi hx (he W tk) (ti := r) ho hf) fun D σ H h => by
  obtain ⟨F0, ι0, H0, F, ι, ρ, M, e0, hr, sr, p⟩ := h
  unfold augS at p
  split at p
  · rename_i t q
    obtain ⟨v, e1, r1⟩ := sr.val i t q
    refine ⟨v, e1, H0, F, ι, ρ, M, hr, sr, (PostS.bind p e0 sr).imp (fun u M1 F1 ι1 H1 e1 hr1 p1 v1 r2 => ?_) fun _ _ _ _ _ _ _ _ _ _ w => w⟩
    cases q2 : f t u with
    | none =>
      rw [q2] at p1
      exact p1.elim
    | some z =>
      rw [q2] at p1
      exact hf' F1 ι1 M1 H1 v v1 t u z _ hr1 (r1.mono e1.mono e1.pre) r2 q2 fun w F' H' e3 hr3 r3 => (p1.shift e3.mono e3.pre).nxt ((e0.trans e1).trans e3) hr3 (((sr.ext e1).ext e3).set i r3)
  · exact p.elim
end

/-! ### defs -/
def spT (G : Gd) (n : Nat) (f : List T → Sto → R T) : Sp := fun vs H Q E => vs.length = n ∧ ∃ F ι M ts, HRel G F ι M H ∧ Reps G F ι vs ts ∧
  Post G F ι H (f ts M) (fun t M' F' ι' H' => ∀ v, Rep G F' ι' v t → Q v H') (fun cls d e M' F' ι' H' => E cls d H')
def runF (n : Nat) (m : SM) (ts : List T) (M : Sto) : R T := match m (ts.map Slot.val ++ List.replicate (n - ts.length) .un) M with
  | .nx _ M' => .ok .non M'
  | .ret t M' => .ok t M'
  | .exc e _ M' => .exc e M'
  | _ => .stuck
theorem srel_start {G : Gd} {F H : Hp} {ι : List Addr} {N : List Str} {vs : List V} {ts : List T} (r : Reps G F ι vs ts) : SRel G H F ι (ts.map Slot.val ++ List.replicate (N.length - ts.length) .un) (L2.start N vs) H where
  len := by
    unfold L2.start
    rw [List.length_append, List.length_append, List.length_map, List.length_map, List.length_replicate, List.length_replicate, r.length]
  val := fun i t h => by
    unfold L2.start
    by_cases hi : i < ts.length
    · rw [List.getElem?_append_left (by rw [List.length_map]; exact hi), List.getElem?_map] at h
      obtain ⟨u, e1, e2⟩ := Option.map_eq_some_iff.mp h
      cases e2
      obtain ⟨v, e3, r3⟩ := r.get e1
      refine ⟨v, ?_, r3⟩
      rw [List.getElem?_append_left (by rw [List.length_map, r.length]; exact hi), List.getElem?_map, e3]
      rfl
    · rw [List.getElem?_append_right (by rw [List.length_map]; omega), List.getElem?_replicate] at h
      split at h <;> cases h
  own := fun i t h => by
    by_cases hi : i < ts.length
    · rw [List.getElem?_append_left (by rw [List.length_map]; exact hi), List.getElem?_map] at h
      obtain ⟨u, e1, e2⟩ := Option.map_eq_some_iff.mp h
      cases e2
    · rw [List.getElem?_append_right (by rw [List.length_map]; omega), List.getElem?_replicate] at h
      split at h <;> cases h
  sep := fun i j t u a h => by
    by_cases hi : i < ts.length
    · rw [List.getElem?_append_left (by rw [List.length_map]; exact hi), List.getElem?_map] at h
      obtain ⟨u, e1, e2⟩ := Option.map_eq_some_iff.mp h
      cases e2
    · rw [List.getElem?_append_right (by rw [List.length_map]; omega), List.getElem?_replicate] at h
      split at h <;> cases h
section
variable {P : Program} {w : World} {K : PySem.W.Frag} {mg : Str → Option Value} {base : Heap}
theorem fn_ok {x qual : Str} {st : Stmt} {f : Addr} {fd : FuncData} {N ps : List Str} {k : Nat} {m : SM} (F : Fun K x qual st f fd) (S : FnScope N ps (defScope st))
    (hb : ∀ (cdv : Value) (A : Around) (outer : List Env) (s : Shared) (H : Hp) (E : XK), Room k (A.deeper (envOfC qual (defScope st) s.heap.objs.size f cdv)) → JSs (cxOf (L2.CX P w) P w K mg base N qual (defScope st) f cdv A outer s H E) (defBody st) m) :
    FnOk P w K mg base (L2.CX P w) (k + 1) f fd ps (spT ⟨K, mg⟩ ps.length (runF N.length m)) := by
  refine F.okX S (fun vs H Q E h => h.1) fun cdv A outer s H vs Q E hr h => ⟨_, hb cdv A outer s H E hr (fun cls d _ H => E cls d H) (takes_of rfl rfl rfl rfl), ?_⟩
  obtain ⟨hl, F0, ι, M, ts, hr0, rs, p⟩ := h
  refine ⟨F0, ι, H, F0, ι, _, M, .refl, hr0, srel_start rs, ?_⟩
  unfold runF at p
  cases q : m (ts.map Slot.val ++ List.replicate (N.length - ts.length) .un) M with
  | stuck => rw [q] at p; exact p
  | nx ρ' M' => rw [q] at p; exact fun F' ι' σ' H' e1 _ _ hr1 sr1 => p F' ι' H' e1 hr1 .non .non
  | ret t M' => rw [q] at p; exact fun v F' ι' H' e1 hr1 r1 => p F' ι' H' e1 hr1 v r1
  | brk ρ' M' => rw [q] at p; exact p.elim
  | ct ρ' M' => rw [q] at p; exact p.elim
  | exc e ρ' M' => rw [q] at p; exact fun cls d F' ι' σ' H' e1 _ _ hr1 sr1 er => p cls d F' ι' H' e1 hr1 er
end
/-- a call -/
def callE (n : Nat) (f : List T → Sto → R T) (ma : EM (List T)) : EM T := fun ρ M => (ma ρ M).bind fun ts M1 => if ts.length = n then f ts M1 else .stuck
section
variable {X : Cx} {k n : Nat} {f : Addr} {fd : FuncData} {ps : List Str} {g : List T → Sto → R T} {x : Str} {p pos : Pos} {e : Expr} {es : List Expr} {ma : EM (List T)} {mg : Str → Option Value} {G : Gd}
theorem je_call (F : FnOk X.prog X.w X.K X.mg X.base (L2.CX X.prog X.w) k f fd ps (spT (gd X) n g)) (hr : Room k X.A) (hg : Gl X x) (hm : X.mg x = some (.ref f)) (hk : PySem.W.keepIn X.K (.ref f) = true) (hb : Binds X.K fd ps [])
    (ha : JA X (e :: es) ma) (hdb : (x == ("__debug__" : Str)) = false := by decide) (he : starEach (e :: es) X.env = (false, eval e X.env) :: starEach es X.env := by rfl)
    (hpl : (backTo pos (starEach es X.env)).any (·.1) = false := by rfl) : JE X (.Call (.Name x p) (e :: es) [] pos) (callE n g ma) := fun W tk =>
  PE_imp (pe_callS (E := fun σ => WE W σ) F hr hg hm hk hb (fun σ => passAt tk σ) (ha W tk) hdb he hpl) fun σ H Q h => by
    obtain ⟨H0, F1, ι, ρ, M, hr, sr, p⟩ := h
    refine ⟨H0, F1, ι, ρ, M, hr, sr, (Post.bind p).imp (fun ts M1 F' ι' H' e1 hr1 p1 vs rs => ?_) fun _ _ _ _ _ _ _ _ _ _ w => w⟩
    split at p1
    · rename_i hl
      exact ⟨by rw [rs.length]; exact hl, F', ι', M1, ts, hr1, rs, p1⟩
    · exact p1.elim
end
end TL
end
section
set_option Elab.async false
set_option linter.all false
set_option maxRecDepth 100000
set_option maxHeartbeats 1000000
namespace TL
open PySem PySem.Spec PyProof.Rows L2

/-! ### targets -/
abbrev GM := T → List Slot → Option (List Slot)
abbrev GMs := List T → List Slot → Option (List Slot)
/-- unlike at the places vs alone -/
def Off (vs : List Nat) (σ σ' : St) : Prop := σ'.length = σ.length ∧ ∀ i, i ∉ vs → σ'[i]? = σ[i]?
theorem Off.refl {vs : List Nat} {σ : St} : Off vs σ σ := ⟨rfl, fun _ _ => rfl⟩
theorem Off.trans {vs us : List Nat} {σ σ1 σ2 : St} (a : Off vs σ σ1) (b : Off us σ1 σ2) : Off (vs ++ us) σ σ2 :=
  ⟨b.1.trans a.1, fun i h => (b.2 i fun m => h (List.mem_append_right _ m)).trans (a.2 i fun m => h (List.mem_append_left _ m))⟩
theorem Off.mono {vs us : List Nat} {σ σ1 : St} (a : Off vs σ σ1) (h : ∀ i ∈ vs, i ∈ us) : Off us σ σ1 := ⟨a.1, fun i n => a.2 i fun m => n (h i m)⟩
theorem Off.set {σ : St} {i : Nat} {v : Option V} : Off [i] σ (σ.set i v) := ⟨List.length_set, fun j h => List.getElem?_set_ne (fun e => h (by rw [e]; exact List.mem_singleton_self _))⟩
def rdG (G : Gd) (g : GM) (vs : List Nat) : TG := fun v σ H Q => ∃ H0 F ι ρ M t ρ', HRel G F ι M H ∧ SRel G H0 F ι ρ σ H ∧ Rep G F ι v t ∧ g t ρ = some ρ' ∧ ∀ σ', SRel G H0 F ι ρ' σ' H → Off vs σ σ' → Q σ' H
def rdGs (G : Gd) (g : GMs) (us : List Nat) : TGs := fun vs σ H Q => ∃ H0 F ι ρ M ts ρ', HRel G F ι M H ∧ SRel G H0 F ι ρ σ H ∧ Reps G F ι vs ts ∧ g ts ρ = some ρ' ∧ ∀ σ', SRel G H0 F ι ρ' σ' H → Off us σ σ' → Q σ' H
def JG (X : Cx) (tg : Expr) (g : GM) (vs : List Nat) : Prop := PG X tg (rdG (gd X) g vs)
def JGs (X : Cx) (tg : List Expr) (g : GMs) (vs : List Nat) : Prop := PGs X tg (rdGs (gd X) g vs)
theorem PG_imp {X : Cx} {e : Expr} {t t' : TG} (h : PG X e t) (i : ∀ v σ H Q, t' v σ H Q → t v σ H Q) : PG X e t' := ⟨fun pins s σ H v u Q I r q => h.run pins s σ H v u Q I r (i v σ H Q q)⟩
theorem PGs_imp {X : Cx} {e : List Expr} {t t' : TGs} (h : PGs X e t) (i : ∀ v σ H Q, t' v σ H Q → t v σ H Q) : PGs X e t' := ⟨fun pins s σ H v u Q I r q => h.run pins s σ H v u Q I r (i v σ H Q q)⟩
def nameG (i : Nat) : GM := fun t ρ => some (ρ.set i (.val t))
def nilG : GMs := fun ts ρ => match ts with
  | [] => some ρ
  | _ => none
def consG (g : GM) (gs : GMs) : GMs := fun ts ρ => match ts with
  | t :: ts => (g t ρ).bind fun ρ1 => gs ts ρ1
  | [] => none
def tupG (n : Nat) (gs : GMs) : GM := fun t ρ => match t with
  | .tup ts => if ts.length = n then gs ts ρ else none
  | _ => none
section
variable {X : Cx} {pos : Pos}
theorem jg_name {i : Nat} {x : Str} (hN : X.N.Nodup) (hi : X.N[i]? = some x) (hx : Loc X.env.scope x) (hf : X.fn x = true ∨ X.env.scope.names.lookup x = some .local := by first | exact .inl rfl | exact .inr rfl | assumption) : JG X (.Name x pos) (nameG i) [i] :=
  PG_imp (pg_name hN hi hx hf) fun v σ H Q h => by
    obtain ⟨H0, F, ι, ρ, M, t, ρ', hr, sr, r, e, q⟩ := h
    cases e
    exact q _ (sr.set i r) .set
theorem jgs_nil : JGs X [] nilG [] := PGs_imp pgs_nil fun v σ H Q h => by
  obtain ⟨H0, F, ι, ρ, M, ts, ρ', hr, sr, r, e, q⟩ := h
  unfold nilG at e
  split at e
  · cases e; cases r
    exact ⟨rfl, q _ sr .refl⟩
  · cases e
theorem jgs_cons {e : Expr} {es : List Expr} {g : GM} {gs : GMs} {vs us : List Nat} (h1 : JG X e g vs) (h2 : JGs X es gs us)
    (hs : (assignEach (e :: es) X.env).map (·.2) = assign e X.env :: (assignEach es X.env).map (·.2) := by rfl) : JGs X (e :: es) (consG g gs) (vs ++ us) := PGs_imp (pgs_cons h1 h2 hs) fun v σ H Q h => by
  obtain ⟨H0, F, ι, ρ, M, ts, ρ', hr, sr, r, e, q⟩ := h
  unfold consG at e
  split at e
  · obtain ⟨ρ1, e1, e2⟩ := Option.bind_eq_some_iff.mp e
    cases r with
    | cons r rs => exact ⟨_, _, rfl, H0, F, ι, ρ, M, _, ρ1, hr, sr, r, e1, fun σ' s' o => ⟨H0, F, ι, ρ1, M, _, ρ', hr, s', rs, e2, fun σ2 s2 o2 => q σ2 s2 (o.trans o2)⟩⟩
  · cases e
theorem jg_tup {es : List Expr} {k : Nat} {gs : GMs} {vs : List Nat} {n : Nat} (hc : X.calm = true) (h : JGs X es gs vs)
    (hn : (assignEach es X.env).length = n := by rfl) (hst : (assignEach es X.env).findIdx? (·.1) = none := by rfl) : JG X (.Tuple es k pos) (tupG n gs) vs := PG_imp (pg_tup hc h hn hst) fun v σ H Q h => by
  obtain ⟨H0, F, ι, ρ, M, t, ρ', hr, sr, r, e, q⟩ := h
  unfold tupG at e
  split at e
  · split at e
    · rename_i ts hl
      cases r with
      | tup ha rs => exact ⟨_, _, rfl, sqT_mono hr.sub ha, by rw [rs.length]; exact hl, H0, F, ι, ρ, M, ts, ρ', hr, sr, rs, e, q⟩
    · cases e
  · cases e
/-- target = value -/
def asgS (m : EM T) (g : GM) : SM := fun ρ M => (m ρ M).toS ρ fun t M1 => match g t ρ with
  | some ρ' => .nx ρ' M1
  | none => .stuck
theorem js_asg {tg e : Expr} {m : EM T} {g : GM} {vs : List Nat} (he : JE X e m) (hg : JG X tg g vs) (hs : swapsWithSole [tg] e pos.line X.env = pure false := by rfl) (hw : swappedStores [tg] e X.env = pure none := by rfl)
    (h1 : (assignEach [tg] X.env).map (·.2) = [assign tg X.env] := by rfl) : JS X (.Assign [tg] e pos) (asgS m g) := fun W tk => PS_imp (ps_asg (he W tk) hg hs hw h1) fun D σ H h => by
  obtain ⟨F0, ι0, H0, F, ι, ρ, M, e0, hr, sr, p⟩ := h
  refine ⟨H0, F, ι, ρ, M, hr, sr, (p.bind e0 sr).imp (fun t M1 F1 ι1 H1 e1 hr1 p1 v1 r1 => ?_) fun _ _ _ _ _ _ _ _ _ _ w => w⟩
  cases q : g t ρ with
  | none => rw [q] at p1; exact p1.elim
  | some ρ' =>
    rw [q] at p1
    exact ⟨H0, F1, ι1, ρ, M1, t, ρ', hr1, sr.ext e1, r1, q, fun σ' s' _ => p1.nxt (e0.trans e1) hr1 s'⟩
/-- a, b = x, y -/
def parS (i j : Nat) (m : EM (List T)) : SM := fun ρ M => (m ρ M).toS ρ fun ts M1 => match ts with
  | [t, u] => .nx ((ρ.set i (.val t)).set j (.val u)) M1
  | _ => .stuck
theorem js_par {i j : Nat} {x y : Str} {a b : Expr} {m : EM (List T)} {px py pt : Pos} {kt k2 pt2} (hc : X.calm = true) (hN : X.N.Nodup) (hi : X.N[i]? = some x) (hj : X.N[j]? = some y) (hij : i ≠ j)
    (hx : X.env.scope.names.lookup x = some .local) (hy : X.env.scope.names.lookup y = some .local) (ha : JA X [a, b] m)
    (hw : swappedStores [.Tuple [.Name x px, .Name y py] kt pt] (.Tuple [a, b] k2 pt2) X.env = pure (some [x, y]))
    (hs : swapsWithSole [.Tuple [.Name x px, .Name y py] kt pt] (.Tuple [a, b] k2 pt2) pos.line X.env = pure false := by rfl) :
    JS X (.Assign [.Tuple [.Name x px, .Name y py] kt pt] (.Tuple [a, b] k2 pt2) pos) (parS i j m) := fun W tk => PS_imp (ps_par hc hN hi hj hij hx hy (ha W tk) hw hs) fun D σ H h => by
  obtain ⟨F0, ι0, H0, F, ι, ρ, M, e0, hr, sr, p⟩ := h
  refine ⟨H0, F, ι, ρ, M, hr, sr, (p.bind e0 sr).imp (fun ts M1 F1 ι1 H1 e1 hr1 p1 vs rs => ?_) fun _ _ _ _ _ _ _ _ _ _ w => w⟩
  split at p1
  · obtain ⟨v, w, rfl, r1, r2⟩ := rs.two
    exact ⟨v, w, rfl, p1.nxt (e0.trans e1) hr1 (((sr.ext e1).set i r1).set j r2)⟩
  · exact p1.elim
end

/-! ### what is walked -/
structure ItOk (G : Gd) (F0 : Hp) (ι0 : List Addr) (J : It) (ts : List T) : Prop where
  go : ∀ (i : Nat) (F : Hp) (ι : List Addr) (M : Sto) (H : Hp) (t : T), Same F0 F → ι0 <+: ι → HRel G F ι M H → ts[i]? = some t → J.go i H
  yld : ∀ (i : Nat) (F : Hp) (ι : List Addr) (M : Sto) (H : Hp) (t : T) (v : V) (H' : Hp), Same F0 F → ι0 <+: ι → HRel G F ι M H → ts[i]? = some t → J.yld i H v H' → ∃ F', Ext F ι H F' ι H' ∧ HRel G F' ι M H' ∧ Rep G F' ι v t
  stop : ∀ (F : Hp) (ι : List Addr) (M : Sto) (H : Hp), Same F0 F → ι0 <+: ι → HRel G F ι M H → J.stop ts.length H
def rdI (G : Gd) (W : WT) (m : EM (List T)) : TI := fun σ H R => ∃ H0 F ι ρ M, HRel G F ι M H ∧ SRel G H0 F ι ρ σ H ∧
  Post G F ι H (m ρ M) (fun ts M' F' ι' H' => ∀ J, ItOk G F' ι' J ts → R J H') (fun cls d e M' F' ι' H' => W cls d σ H')
def JI (X : Cx) (tg iter : Expr) (m : EM (List T)) : Prop := ∀ W : WX, Takes X W → PI X tg iter (rdI (gd X) W m)
theorem PI_imp {X : Cx} {tg e : Expr} {t t' : TI} (h : PI X tg e t) (i : ∀ σ H R, t' σ H R → t σ H R) : PI X tg e t' := ⟨fun pins s σ H R I q => h.run pins s σ H R I (i σ H R q)⟩
theorem PI_or {X : Cx} {tg e : Expr} {t t' : TI} (h : PI X tg e t) (h' : PI X tg e t') : PI X tg e (fun σ H R => t σ H R ∨ t' σ H R) := ⟨fun pins s σ H R I q => q.elim (h.run pins s σ H R I) (h'.run pins s σ H R I)⟩
section
variable {G : Gd} {F : Hp} {ι : List Addr} {a : Addr} {vs : List V} {ts : List T}
theorem itl_ok (h : SqL G.K F a vs) (r : Reps G F ι vs ts) : ItOk G F ι (Itl G.K a) ts where
  go := fun i F1 ι1 M H t s p hr e => by
    obtain ⟨v, e1, _⟩ := r.get e
    exact ⟨vs, v, (s.trans hr.sub).seq h, e1⟩
  yld := fun i F1 ι1 M H t v H' s p hr e y => by
    obtain ⟨rfl, y⟩ := y
    obtain ⟨w, e1, r1⟩ := r.get e
    have e2 := y vs ((s.trans hr.sub).seq h)
    rw [e1] at e2
    cases e2
    exact ⟨F1, .refl, hr, r1.mono s p⟩
  stop := fun F1 ι1 M H s p hr => ⟨vs, (s.trans hr.sub).seq h, Nat.le_of_eq r.length⟩
theorem itt_ok (h : SqT G.K F a vs) (r : Reps G F ι vs ts) : ItOk G F ι (Itt G.K a) ts where
  go := fun i F1 ι1 M H t s p hr e => by
    obtain ⟨v, e1, _⟩ := r.get e
    exact ⟨vs, v, sqT_mono (s.trans hr.sub) h, e1⟩
  yld := fun i F1 ι1 M H t v H' s p hr e y => by
    obtain ⟨rfl, y⟩ := y
    obtain ⟨w, e1, r1⟩ := r.get e
    have e2 := y vs (sqT_mono (s.trans hr.sub) h)
    rw [e1] at e2
    cases e2
    exact ⟨F1, .refl, hr, r1.mono s p⟩
  stop := fun F1 ι1 M H s p hr => ⟨vs, sqT_mono (s.trans hr.sub) h, Nat.le_of_eq r.length⟩
def rngL (lo : Int) (n : Nat) : List T := (List.range n).map fun (i : Nat) => T.int (lo + (i : Int))
theorem rngL_length (lo : Int) (n : Nat) : (rngL lo n).length = n := by unfold rngL; rw [List.length_map, List.length_range]
theorem rngL_get {lo : Int} {n i : Nat} {t : T} (h : (rngL lo n)[i]? = some t) : i < n ∧ t = .int (lo + (i : Int)) := by
  unfold rngL at h
  rw [List.getElem?_map] at h
  obtain ⟨j, e1, e2⟩ := Option.map_eq_some_iff.mp h
  obtain ⟨h1, h2⟩ := List.getElem?_eq_some_iff.mp e1
  rw [List.getElem_range] at h2
  subst h2
  exact ⟨by rw [List.length_range] at h1; exact h1, e2.symm⟩
theorem itr_ok (lo : Int) (n : Nat) : ItOk G F ι (Itr lo n) (rngL lo n) where
  go := fun i F1 ι1 M H t s p hr e => (rngL_get e).1
  yld := fun i F1 ι1 M H t v H' s p hr e y => by
    obtain ⟨rfl, rfl⟩ := y
    obtain ⟨_, rfl⟩ := rngL_get e
    exact ⟨F1, .refl, hr, .int _⟩
  stop := fun F1 ι1 M H s p hr => by
    rw [rngL_length]
    exact Nat.le_refl n
/-- lo, lo + c, .. -/
def rngC (lo c : Int) (n : Nat) : List T := (List.range n).map fun (i : Nat) => T.int (lo + (i : Int) * c)
theorem itc_ok (lo c : Int) (n : Nat) : ItOk G F ι (Itc lo c n) (rngC lo c n) where
  go := fun i F1 ι1 M H t s p hr e => by
    have := (List.getElem?_eq_some_iff.mp e).1
    unfold rngC at this
    rw [List.length_map, List.length_range] at this
    exact this
  yld := fun i F1 ι1 M H t v H' s p hr e y => by
    obtain ⟨rfl, rfl⟩ := y
    unfold rngC at e
    rw [List.getElem?_map] at e
    obtain ⟨j, e1, e2⟩ := Option.map_eq_some_iff.mp e
    obtain ⟨h1, h2⟩ := List.getElem?_eq_some_iff.mp e1
    rw [List.getElem_range] at h2
    subst h2
    subst e2
    exact ⟨F1, .refl, hr, .int _⟩
  stop := fun F1 ι1 M H s p hr => by
    unfold rngC
    rw [List.length_map, List.length_range]
    exact Nat.le_refl n
end
def seqItems : T → Option (List T)
  | .lst ts => some ts
  | .tup ts => some ts
  | _ => none
def bindO {α β : Type} (m : EM α) (f : α → Option β) : EM β := bindE m fun t => optE (f t)
def rng1 : List T → Option (List T)
  | [.int j] => if -(2 ^ 62) ≤ j ∧ j < 2 ^ 62 then some (rngL 0 j.toNat) else none
  | _ => none
def rng2 : List T → Option (List T)
  | [.int i, .int j] => if -(2 ^ 62) ≤ i ∧ i < 2 ^ 62 ∧ -(2 ^ 62) ≤ j ∧ j < 2 ^ 62 then some (rngL i (j - i).toNat) else none
  | _ => none
section
variable {X : Cx} {tg e a b c : Expr} {m : EM T} {mA : EM (List T)} {p pos : Pos}
theorem ji_seq (he : JE X e m) : JI X tg e (bindO m seqItems) := fun W tk => PI_imp (PI_or (pi_list (he W tk)) (pi_tup (he W tk))) fun σ H R h => by
  obtain ⟨H0, F, ι, ρ, M, hr, sr, p⟩ := h
  unfold bindO bindE at p
  cases q : m ρ M with
  | stuck => rw [q] at p; exact p.elim
  | exc x M' => rw [q] at p; exact .inl ⟨H0, F, ι, ρ, M, hr, sr, by rw [q]; exact p⟩
  | ok t M1 =>
    rw [q] at p
    obtain ⟨ts, e1, p1⟩ := post_optB (ρ := ρ) p
    unfold seqItems at e1
    split at e1
    · cases e1
      refine .inl ⟨H0, F, ι, ρ, M, hr, sr, ?_⟩
      rw [q]
      intro F' ι' H' e2 hr2 v r
      cases r with
      | lst h r => exact ⟨_, rfl, ⟨_, hr2.sub.seq h⟩, p1 F' ι' H' e2 hr2 _ (itl_ok h r)⟩
    · cases e1
      refine .inr ⟨H0, F, ι, ρ, M, hr, sr, ?_⟩
      rw [q]
      intro F' ι' H' e2 hr2 v r
      cases r with
      | tup h r => exact ⟨_, rfl, ⟨_, sqT_mono hr2.sub h⟩, p1 F' ι' H' e2 hr2 _ (itt_ok h r)⟩
    · cases e1
theorem ji_range1 (hg : Gl X "range") (hm : X.mg "range" = none) (ha : JA X [a] mA) (hs : starEach [a] X.env = [(false, eval a X.env)] := by rfl) : JI X tg (.Call (.Name "range" p) [a] [] pos) (bindO mA rng1) := fun W tk => PI_imp (pi_range1 hg hm (ha W tk) hs) fun σ H R h => by
  obtain ⟨H0, F, ι, ρ, M, hr, sr, p⟩ := h
  refine ⟨H0, F, ι, ρ, M, hr, sr, (Post.bind p).imp (fun ts M1 F1 ι1 H1 e1 hr1 p1 vs rs => ?_) fun _ _ _ _ _ _ _ _ _ _ w => w⟩
  obtain ⟨us, e, p3⟩ := post_optB p1
  unfold rng1 at e
  split at e
  · split at e
    · rename_i j hj
      cases e
      obtain ⟨v, rfl, r⟩ := rs.one
      cases r
      exact ⟨j, rfl, hj.1, hj.2, p3 _ _ _ .refl hr1 _ (itr_ok 0 _)⟩
    · cases e
  · cases e
theorem ji_range2 (hg : Gl X "range") (hm : X.mg "range" = none) (ha : JA X [a, b] mA) (hs : starEach [a, b] X.env = [(false, eval a X.env), (false, eval b X.env)] := by rfl) (hs2 : starEach [b] X.env = [(false, eval b X.env)] := by rfl) :
    JI X tg (.Call (.Name "range" p) [a, b] [] pos) (bindO mA rng2) := fun W tk => PI_imp (pi_range2 hg hm (ha W tk) hs hs2) fun σ H R h => by
  obtain ⟨H0, F, ι, ρ, M, hr, sr, p⟩ := h
  refine ⟨H0, F, ι, ρ, M, hr, sr, (Post.bind p).imp (fun ts M1 F1 ι1 H1 e1 hr1 p1 vs rs => ?_) fun _ _ _ _ _ _ _ _ _ _ w => w⟩
  obtain ⟨us, e, p3⟩ := post_optB p1
  unfold rng2 at e
  split at e
  · split at e
    · rename_i i j hj
      cases e
      obtain ⟨v, w, rfl, r, r2⟩ := rs.two
      cases r; cases r2
      exact ⟨i, j, rfl, hj, p3 _ _ _ .refl hr1 _ (itr_ok i _)⟩
    · cases e
  · cases e
end

/-! ### for -/
def forL (g : GM) (body : SM) : List T → SM
  | [] => .nx
  | t :: ts => fun ρ M => match g t ρ with
    | none => .stuck
    | some ρ1 => match body ρ1 M with
      | .nx ρ' M' => forL g body ts ρ' M'
      | .ct ρ' M' => forL g body ts ρ' M'
      | .brk ρ' M' => .nx ρ' M'
      | .ret t M' => .ret t M'
      | .exc e ρ' M' => .exc e ρ' M'
      | .stuck => .stuck
def forS (mi : EM (List T)) (g : GM) (body : SM) : SM := fun ρ M => (mi ρ M).toS ρ fun ts M1 => forL g body ts ρ M1
theorem js_for {X : Cx} {tg iter : Expr} {body : List Stmt} {mi : EM (List T)} {g : GM} {vs : List Nat} {mb : SM} {pos : Pos} (hp : PassesOwn (model X.prog X.w) X.A X.env X.xe) (hc : X.calm = true) (hi : JI X tg iter mi) (hg : JG X tg g vs) (hb : JSs X body mb)
    (hs : ∀ x, foldedSetIterable iter X.env x = pure x := by intro _; rfl) : JS X (.For tg iter body [] pos) (forS mi g mb) := fun W tk => PS_imp (ps_for hp hc (hi W tk) hg (hb W tk) hs) fun D σ H h => by
  obtain ⟨F0, ι0, H0, F, ι, ρ, M, e0, hr, sr, p⟩ := h
  refine ⟨H0, F, ι, ρ, M, hr, sr, (p.bind e0 sr).imp (fun ts M1 F1 ι1 H1 e1 hr1 p1 J ok => ?_) fun _ _ _ _ _ _ _ _ _ _ w => w⟩
  refine ⟨fun i m σ H => m = ts.length - i ∧ i ≤ ts.length ∧ ∃ F ι ρ M, Ext F0 ι0 H0 F ι H ∧ Same F1 F ∧ ι1 <+: ι ∧ HRel (gd X) F ι M H ∧ SRel (gd X) H0 F ι ρ σ H ∧ PostS (gd X) W F0 ι0 H0 F ι D (forL g mb (ts.drop i) ρ M),
    ⟨ts.length, by omega, Nat.zero_le _, F1, ι1, ρ, M1, e0.trans e1, Same.refl _, List.prefix_rfl, hr1, sr.ext e1, p1⟩, ?_⟩
  rintro i m σ2 H2 ⟨rfl, hi2, F2, ι2, ρ2, M2, e2, s2, i2, hr2, sr2, p2⟩
  by_cases hlt : i < ts.length
  · have eg : ts[i]? = some ts[i] := List.getElem?_eq_getElem hlt
    refine .inr ⟨ok.go i F2 ι2 M2 H2 _ s2 i2 hr2 eg, fun σ H => i + 1 ≤ ts.length ∧ ∃ F ι ρ M, Ext F0 ι0 H0 F ι H ∧ Same F1 F ∧ ι1 <+: ι ∧ HRel (gd X) F ι M H ∧ SRel (gd X) H0 F ι ρ σ H ∧ PostS (gd X) W F0 ι0 H0 F ι D (forL g mb (ts.drop (i + 1)) ρ M),
      fun σ' H' n => ⟨ts.length - (i + 1), by omega, rfl, n⟩, fun x H' y => ?_⟩
    obtain ⟨F3, e3, hr3, r3⟩ := ok.yld i F2 ι2 M2 H2 _ x H' s2 i2 hr2 eg y
    rw [List.drop_eq_getElem_cons hlt] at p2
    unfold forL at p2
    have p3 := p2.shift e3.mono e3.pre
    cases q : g ts[i] ρ2 with
    | none => rw [q] at p3; exact p3.elim
    | some ρ3 =>
      rw [q] at p3
      dsimp only at p3
      refine ⟨H0, F3, ι2, ρ2, M2, _, ρ3, hr3, sr2.ext e3, r3, q, fun σ' s' _ => ?_⟩
      refine ⟨F0, ι0, H0, F3, ι2, ρ3, M2, e2.trans e3, hr3, s', ?_⟩
      have again : ∀ {ρ' M'}, PostS (gd X) W F0 ι0 H0 F3 ι2 D (forL g mb (ts.drop (i + 1)) ρ' M') → ∀ F' ι' σ' H', Ext F0 ι0 H0 F' ι' H' → Same F3 F' → ι2 <+: ι' → HRel (gd X) F' ι' M' H' → SRel (gd X) H0 F' ι' ρ' σ' H' →
          i + 1 ≤ ts.length ∧ ∃ F ι ρ M, Ext F0 ι0 H0 F ι H' ∧ Same F1 F ∧ ι1 <+: ι ∧ HRel (gd X) F ι M H' ∧ SRel (gd X) H0 F ι ρ σ' H' ∧ PostS (gd X) W F0 ι0 H0 F ι D (forL g mb (ts.drop (i + 1)) ρ M) :=
        fun {ρ' M'} pp F' ι' σ' H' e4 s4 i4 hr4 sr4 => ⟨hlt, F', ι', ρ', M', e4, (s2.trans e3.mono).trans s4, i2.trans i4, hr4, sr4, pp.shift s4 i4⟩
      cases qb : mb ρ3 M2 with
      | stuck => rw [qb] at p3; exact p3
      | nx ρ' M' => rw [qb] at p3; exact again p3
      | ct ρ' M' => rw [qb] at p3; exact again p3
      | brk ρ' M' => rw [qb] at p3; exact p3
      | ret t M' => rw [qb] at p3; exact p3
      | exc x ρ' M' => rw [qb] at p3; exact p3
  · have e : i = ts.length := by omega
    subst e
    rw [List.drop_length] at p2
    exact .inl ⟨ok.stop F2 ι2 M2 H2 s2 i2 hr2, p2.nxt e2 hr2 sr2⟩

/-! ### while: at most n turns -/
def whL (c : EM Bool) (body : SM) : Nat → SM
  | 0 => stuckS
  | n + 1 => fun ρ M => (c ρ M).toS ρ fun k M1 => if k = true then
      match body ρ M1 with
      | .nx ρ' M' => whL c body n ρ' M'
      | .ct ρ' M' => whL c body n ρ' M'
      | .brk ρ' M' => .nx ρ' M'
      | .ret t M' => .ret t M'
      | .exc e ρ' M' => .exc e ρ' M'
      | .stuck => .stuck
    else .nx ρ M1
theorem js_while {X : Cx} {c : Expr} {body : List Stmt} {mc : EM Bool} {mb : SM} {pos : Pos} {n : Nat} (hp : PassesOwn (model X.prog X.w) X.A X.env X.xe) (hc : JT X c mc) (hb : JSs X body mb) : JS X (.While c body [] pos) (whL mc mb n) := fun W tk => PS_imp (ps_while hp (hc W tk) (hb W tk)) fun D σ H h => by
  obtain ⟨F0, ι0, H0, F, ι, ρ, M, e0, hr, sr, p⟩ := h
  refine ⟨fun m σ H => ∃ F ι ρ M, Ext F0 ι0 H0 F ι H ∧ HRel (gd X) F ι M H ∧ SRel (gd X) H0 F ι ρ σ H ∧ PostS (gd X) W F0 ι0 H0 F ι D (whL mc mb m ρ M), ⟨n, F, ι, ρ, M, e0, hr, sr, p⟩, ?_⟩
  rintro m σ2 H2 ⟨F2, ι2, ρ2, M2, e2, hr2, sr2, p2⟩
  cases m with
  | zero => exact p2.elim
  | succ m =>
    unfold whL at p2
    refine ⟨H0, F2, ι2, ρ2, M2, hr2, sr2, (PostS.bind p2 e2 sr2).imp (fun k M3 F3 ι3 H3 e3 hr3 p3 => ?_) fun _ _ _ _ _ _ _ _ _ _ w => w⟩
    cases k with
    | false => exact p3.nxt (e2.trans e3) hr3 (sr2.ext e3)
    | true =>
      rw [if_pos rfl] at p3 ⊢
      refine ⟨fun σ H => ∃ F ι ρ M, Ext F0 ι0 H0 F ι H ∧ HRel (gd X) F ι M H ∧ SRel (gd X) H0 F ι ρ σ H ∧ PostS (gd X) W F0 ι0 H0 F ι D (whL mc mb m ρ M), fun σ' H' n => ⟨m, by omega, n⟩, F0, ι0, H0, F3, ι3, ρ2, M3, e2.trans e3, hr3, sr2.ext e3, ?_⟩
      have again : ∀ {ρ' M'}, PostS (gd X) W F0 ι0 H0 F3 ι3 D (whL mc mb m ρ' M') → ∀ F' ι' σ' H', Ext F0 ι0 H0 F' ι' H' → Same F3 F' → ι3 <+: ι' → HRel (gd X) F' ι' M' H' → SRel (gd X) H0 F' ι' ρ' σ' H' →
          ∃ F ι ρ M, Ext F0 ι0 H0 F ι H' ∧ HRel (gd X) F ι M H' ∧ SRel (gd X) H0 F ι ρ σ' H' ∧ PostS (gd X) W F0 ι0 H0 F ι D (whL mc mb m ρ M) :=
        fun {ρ' M'} pp F' ι' σ' H' e4 s4 i4 hr4 sr4 => ⟨F', ι', ρ', M', e4, hr4, sr4, pp.shift s4 i4⟩
      cases qb : mb ρ2 M3 with
      | stuck => rw [qb] at p3; exact p3
      | nx ρ' M' => rw [qb] at p3; exact again p3
      | ct ρ' M' => rw [qb] at p3; exact again p3
      | brk ρ' M' => rw [qb] at p3; exact p3
      | ret t M' => rw [qb] at p3; exact p3
      | exc x ρ' M' => rw [qb] at p3; exact p3
end TL
end
section
set_option Elab.async false
set_option linter.all false
set_option maxRecDepth 100000
set_option maxHeartbeats 1000000
namespace TL
open PySem PySem.Spec PyProof.Rows L2

/-! ### lists that one name alone holds, new lists -/
theorem Ext.own {F0 H0 F H : Hp} {ι0 ι : List Addr} {D : Addr} {o : HO} (e : Ext F0 ι0 H0 F ι H) (n : H0 D = none) : Ext F0 ι0 H0 F ι (upd H D o) where
  mono := e.mono
  pre := e.pre
  keep := fun a u h1 h2 => by rw [upd_ne (fun z => by rw [z, n] at h2; cases h2)]; exact e.keep a u h1 h2
  dom := fun a u h => by rw [upd_ne (fun z => by rw [z, n] at h; cases h)]; exact e.dom a u h
  newF := e.newF
  newI := e.newI
theorem HRel.own {G : Gd} {F H : Hp} {ι : List Addr} {M : Sto} {D : Addr} {o : HO} (hr : HRel G F ι M H) (hf : F D = none) (hi : D ∉ ι) : HRel G F ι M (upd H D o) where
  sub := fun a u h => by rw [upd_ne (fun z => by rw [z, hf] at h; cases h)]; exact hr.sub a u h
  len := hr.len
  nd := hr.nd
  out := hr.out
  mo := fun i a o' e1 e2 => (hr.mo i a o' e1 e2).ext (Same.refl F) List.prefix_rfl fun u h => by
    rw [upd_ne (fun z => hi (by rw [← z]; exact List.mem_of_getElem? e1))]
    exact h
/-- a list that is new here is laid down for good -/
theorem HRel.freeze {G : Gd} {F H : Hp} {ι : List Addr} {M : Sto} {D : Addr} {o : HO} (hr : HRel G F ι M H) (hf : F D = none) (hi : D ∉ ι) (h : H D = some o) : HRel G (upd F D o) ι M H where
  sub := fun a u e => by
    by_cases z : a = D
    · subst z
      rw [upd_same] at e
      cases e
      exact h
    · rw [upd_ne z] at e
      exact hr.sub a u e
  len := hr.len
  nd := hr.nd
  out := fun a m => by
    rw [upd_ne (fun z => hi (by rw [← z]; exact m))]
    exact hr.out a m
  mo := fun i a o' e1 e2 => (hr.mo i a o' e1 e2).ext (fun b u e => by rw [upd_ne (fun z => by rw [z, hf] at e; cases e)]; exact e) List.prefix_rfl fun u e => e
theorem Ext.freeze {F0 H0 F H : Hp} {ι0 ι : List Addr} {D : Addr} {o : HO} (e : Ext F0 ι0 H0 F ι H) (hf : F D = none) (n : H0 D = none) : Ext F0 ι0 H0 (upd F D o) ι H where
  mono := fun a u h => by
    have := e.mono a u h
    rw [upd_ne (fun z => by rw [z, hf] at this; cases this)]
    exact this
  pre := e.pre
  keep := e.keep
  dom := e.dom
  newF := fun a h1 h2 => by
    by_cases z : a = D
    · rw [z]; exact n
    · rw [upd_ne z] at h2
      exact e.newF a h1 h2
  newI := e.newI
theorem same_freeze {F : Hp} {D : Addr} {o : HO} (hf : F D = none) : Same F (upd F D o) := fun a u h => by
  rw [upd_ne (fun z => by rw [z, hf] at h; cases h)]
  exact h

/-- a new list's meaning: its items -/
def rdF (G : Gd) (W : WT) (m : EM (List T)) : TE := fun σ H Q => ∃ H0 F ι ρ M, HRel G F ι M H ∧ SRel G H0 F ι ρ σ H ∧
  Post G F ι H (m ρ M) (fun ts M' F' ι' H' => ∀ p vs, H p = none → H' p = some (.lst vs) → F' p = none → p ∉ ι' → Reps G F' ι' vs ts → Q (.ref p) H') (fun cls d e M' F' ι' H' => W cls d σ H')
def JF (X : Cx) (e : Expr) (m : EM (List T)) : Prop := ∀ W : WX, Takes X W → PE X e (rdF (gd X) W m)
def lstE (m : EM (List T)) : EM T := bindE m fun ts => pureE (.lst ts)
theorem rd_frz {G : Gd} {W : WT} {m : EM (List T)} {σ : St} {H : Hp} {Q : VK} (h : rdE G W (lstE m) σ H Q) : rdF G W m σ H Q := by
  obtain ⟨H0, F, ι, ρ, M, hr, sr, p⟩ := h
  refine ⟨H0, F, ι, ρ, M, hr, sr, ?_⟩
  unfold lstE bindE at p
  cases q : m ρ M with
  | stuck => rw [q] at p; exact p
  | exc x M' => rw [q] at p; exact p
  | ok ts M1 =>
    rw [q] at p
    exact fun F1 ι1 H1 e1 hr1 D vs hn hl hf hi rs => p _ _ _ (e1.freeze hf hn) (hr1.freeze hf hi hl) _ (.lst (.of upd_same) (rs.mono (same_freeze hf) List.prefix_rfl))
section
variable {X : Cx} {e : Expr} {es : List Expr} {m : EM (List T)} {pos : Pos}
theorem je_jf (h : JF X e m) : JE X e (lstE m) := fun W tk => PE_imp (h W tk) fun _ _ _ q => rd_frz q
/-- [a, b] -/
def dispF (m : EM (List T)) : EM (List T) := bindE m fun ts => if ts.length ≤ sizeLine then pureE ts else stuckE
theorem jf_lst (h : JA X es m) : JF X (.List es pos) (dispF m) := fun W tk => PE_imp (pe_lst (h W tk)) fun σ H Q h => by
  obtain ⟨H0, F, ι, ρ, M, hr, sr, p⟩ := h
  refine ⟨H0, F, ι, ρ, M, hr, sr, ?_⟩
  unfold dispF bindE at p
  cases q : m ρ M with
  | stuck => rw [q] at p; exact p
  | exc x M' => rw [q] at p; exact p
  | ok ts M1 =>
    rw [q] at p
    dsimp only [R.bind] at p
    split at p
    · rename_i hl
      exact fun F1 ι1 H1 e1 hr1 vs rs => ⟨by rw [rs.length]; exact hl, fun D hD => by
        have hn : H D = none := by
          cases r : H D with
          | none => rfl
          | some o =>
            obtain ⟨o', e2⟩ := e1.dom D o r
            rw [hD] at e2
            cases e2
        exact p F1 ι1 _ (e1.own hn) (hr1.own (hr1.noF hD) (hr1.noI hD)) D vs hn upd_same (hr1.noF hD) (hr1.noI hD) rs⟩
    · exact p.elim
end

theorem SRel.setOwn {G : Gd} {H0 F H Hs : Hp} {ι : List Addr} {ρ : List Slot} {σ : St} {D : Addr} {vs : List V} {ts : List T} (s : SRel G H0 F ι ρ σ H) (i : Nat) (h : H D = some (.lst vs)) (hf : F D = none) (hi : D ∉ ι) (h0 : H0 D = none)
    (new : ∀ (j : Nat) (us : List T) (a : Addr), ρ[j]? = some (.own us) → σ[j]? = some (some (.ref a)) → j ≠ i → a ≠ D) (r : Reps G F ι vs ts) : SRel G H0 F ι (ρ.set i (.own ts)) (σ.set i (some (.ref D))) H where
  len := by rw [List.length_set, List.length_set]; exact s.len
  val := fun j u h => by
    by_cases e : i = j
    · subst e
      by_cases hi : i < ρ.length
      · rw [List.getElem?_set_self hi] at h
        cases h
      · rw [List.getElem?_eq_none (by rw [List.length_set]; omega)] at h
        cases h
    · rw [List.getElem?_set_ne e] at h
      rw [List.getElem?_set_ne e]
      exact s.val j u h
  own := fun j u q => by
    by_cases e : i = j
    · subst e
      by_cases hl : i < ρ.length
      · rw [List.getElem?_set_self hl] at q
        cases q
        exact ⟨D, vs, List.getElem?_set_self (by rw [← s.len]; exact hl), h, hf, hi, h0, r⟩
      · rw [List.getElem?_eq_none (by rw [List.length_set]; omega)] at q
        cases q
    · rw [List.getElem?_set_ne e] at q
      rw [List.getElem?_set_ne e]
      exact s.own j u q
  sep := fun j l t u a h1 h2 h3 h4 => by
    by_cases e : i = j
    · by_cases e2 : i = l
      · exact e.symm.trans e2
      · subst e
        by_cases hl : i < ρ.length
        · rw [List.getElem?_set_self (by rw [← s.len]; exact hl)] at h3
          cases h3
          rw [List.getElem?_set_ne e2] at h2 h4
          exact absurd rfl (new l u D h2 h4 (Ne.symm e2))
        · rw [List.getElem?_eq_none (by rw [List.length_set]; omega)] at h1
          cases h1
    · by_cases e2 : i = l
      · subst e2
        by_cases hl : i < ρ.length
        · rw [List.getElem?_set_self (by rw [← s.len]; exact hl)] at h4
          cases h4
          rw [List.getElem?_set_ne e] at h1 h3
          exact absurd rfl (new j t D h1 h3 (Ne.symm e))
        · rw [List.getElem?_eq_none (by rw [List.length_set]; omega)] at h2
          cases h2
      · rw [List.getElem?_set_ne e] at h1 h3
        rw [List.getElem?_set_ne e2] at h2 h4
        exact s.sep j l t u a h1 h2 h3 h4
/-- name = a new list that it alone holds -/
def ownS (i : Nat) (m : EM (List T)) : SM := fun ρ M => (m ρ M).toS ρ fun ts M1 => .nx (ρ.set i (.own ts)) M1
section
variable {X : Cx} {e : Expr} {m : EM (List T)} {me : EM T} {pos pos' : Pos} {i : Nat} {x : Str}
theorem rd_own {G : Gd} {W : WT} {D : Ends} {σ : St} {H : Hp} (h : rdS G W (ownS i m) D σ H) : rdF G W m σ H (fun y H1 => D.nx (σ.set i (some y)) H1) := by
  obtain ⟨F0, ι0, H0, F, ι, ρ, M, e0, hr, sr, p⟩ := h
  refine ⟨H0, F, ι, ρ, M, hr, sr, ?_⟩
  unfold ownS at p
  cases q : m ρ M with
  | stuck => rw [q] at p; exact p
  | exc y M' => rw [q] at p; exact fun cls d F' ι' H' e1 hr1 er => p cls d F' ι' σ H' (e0.trans e1) e1.mono e1.pre hr1 (sr.ext e1) er
  | ok ts M1 =>
    rw [q] at p
    intro F1 ι1 H1 e1 hr1 D1 vs hn hl hf hi rs
    have h0 : H0 D1 = none := by
      cases r : H0 D1 with
      | none => rfl
      | some o =>
        obtain ⟨o', e2⟩ := e0.dom D1 o r
        rw [hn] at e2
        cases e2
    refine p F1 ι1 _ H1 (e0.trans e1) e1.mono e1.pre hr1 ((sr.ext e1).setOwn (Hs := H) i hl hf hi h0 (fun j us a h1 h2 _ z => ?_) rs)
    subst z
    obtain ⟨b, ws, k1, k2, _⟩ := sr.own j us h1
    rw [h2] at k1
    cases k1
    rw [hn] at k2
    cases k2
theorem js_own (hN : X.N.Nodup) (hi : X.N[i]? = some x) (hx : Loc X.env.scope x) (he : JF X e m) (hs : swapsWith e (some (.Name x pos')) pos.line X.env = pure false := by rfl)
    (hf : X.fn x = true ∨ X.env.scope.names.lookup x = some .local := by first | exact .inl rfl | exact .inr rfl | assumption) : JS X (.Assign [.Name x pos'] e pos) (ownS i m) := fun W tk => PS_imp (ps_set hN hi hx (he W tk) hs hf) fun D σ H h => rd_own h
/-- what one name alone held may be read by all -/
def frzS (i : Nat) : SM := fun ρ M => match ρ[i]? with
  | some (.own ts) => .nx (ρ.set i (.val (.lst ts))) M
  | _ => .nx ρ M
theorem SRel.frz {G : Gd} {H0 F H : Hp} {ι : List Addr} {ρ : List Slot} {σ : St} {D : Addr} {vs : List V} {ts : List T} (s : SRel G H0 F ι ρ σ H) (hq : ρ[i]? = some (.own ts)) (hs : σ[i]? = some (some (.ref D))) (hf : F D = none) (rs : Reps G F ι vs ts) :
    SRel G H0 (upd F D (.lst vs)) ι (ρ.set i (.val (.lst ts))) σ H where
  len := by rw [List.length_set]; exact s.len
  val := fun j u h => by
    by_cases e : i = j
    · subst e
      rw [List.getElem?_set_self (List.getElem?_eq_some_iff.mp hq).1] at h
      cases h
      exact ⟨_, hs, .lst (.of upd_same) (rs.mono (same_freeze hf) List.prefix_rfl)⟩
    · rw [List.getElem?_set_ne e] at h
      obtain ⟨v, h1, h2⟩ := s.val j u h
      exact ⟨v, h1, h2.mono (same_freeze hf) List.prefix_rfl⟩
  own := fun j u h => by
    by_cases e : i = j
    · subst e
      rw [List.getElem?_set_self (List.getElem?_eq_some_iff.mp hq).1] at h
      cases h
    · rw [List.getElem?_set_ne e] at h
      obtain ⟨a, ws, h1, h2, h3, h4, h5, h6⟩ := s.own j u h
      refine ⟨a, ws, h1, h2, ?_, h4, h5, h6.mono (same_freeze hf) List.prefix_rfl⟩
      rw [upd_ne (fun z => e (s.sep i j ts u a hq h (by rw [z]; exact hs) h1))]
      exact h3
  sep := fun j l t u a h1 h2 h3 h4 => by
    by_cases e : i = j
    · subst e
      rw [List.getElem?_set_self (List.getElem?_eq_some_iff.mp hq).1] at h1
      cases h1
    · by_cases e2 : i = l
      · subst e2
        rw [List.getElem?_set_self (List.getElem?_eq_some_iff.mp hq).1] at h2
        cases h2
      · rw [List.getElem?_set_ne e] at h1
        rw [List.getElem?_set_ne e2] at h2
        exact s.sep j l t u a h1 h2 h3 h4
theorem jss_frz {sts : List Stmt} {n : SM} (h : JSs X sts n) : JSs X sts (seqS (frzS i) n) := fun W tk => PSs_imp (h W tk) fun D σ H q => by
  obtain ⟨F0, ι0, H0, F, ι, ρ, M, e0, hr, sr, p⟩ := q
  unfold seqS frzS at p
  cases q : ρ[i]? with
  | none => rw [q] at p; exact ⟨F0, ι0, H0, F, ι, ρ, M, e0, hr, sr, p⟩
  | some sl =>
    rw [q] at p
    cases sl with
    | un => exact ⟨F0, ι0, H0, F, ι, ρ, M, e0, hr, sr, p⟩
    | val t => exact ⟨F0, ι0, H0, F, ι, ρ, M, e0, hr, sr, p⟩
    | ex y => exact ⟨F0, ι0, H0, F, ι, ρ, M, e0, hr, sr, p⟩
    | own ts =>
      obtain ⟨a, vs, h1, h2, h3, h4, h5, h6⟩ := sr.own i ts q
      exact ⟨F0, ι0, H0, _, ι, _, M, e0.freeze h3 h5, hr.freeze h3 h4 h2, sr.frz q h1 h3 h6, p.shift (same_freeze h3) List.prefix_rfl⟩
/-- name.append(e) -/
def appS (i : Nat) (m : EM T) : SM := fun ρ M => match ρ[i]? with
  | some (.own ts) => (m ρ M).toS ρ fun t M1 => if ts.length < sizeLine then .nx (ρ.set i (.own (ts ++ [t]))) M1 else .stuck
  | _ => .stuck
theorem SRel.store {G : Gd} {H0 F H : Hp} {ι : List Addr} {ρ : List Slot} {σ : St} {D : Addr} {ws : List V} {ts us : List T} (s : SRel G H0 F ι ρ σ H) (hq : ρ[i]? = some (.own ts)) (hs : σ[i]? = some (some (.ref D))) (hf : F D = none) (hi : D ∉ ι) (h0 : H0 D = none) (rs : Reps G F ι ws us) :
    SRel G H0 F ι (ρ.set i (.own us)) σ (upd H D (.lst ws)) where
  len := by rw [List.length_set]; exact s.len
  val := fun j u h => by
    by_cases e : i = j
    · subst e
      rw [List.getElem?_set_self (List.getElem?_eq_some_iff.mp hq).1] at h
      cases h
    · rw [List.getElem?_set_ne e] at h
      exact s.val j u h
  own := fun j u h => by
    by_cases e : i = j
    · subst e
      rw [List.getElem?_set_self (List.getElem?_eq_some_iff.mp hq).1] at h
      cases h
      exact ⟨D, ws, hs, upd_same, hf, hi, h0, rs⟩
    · rw [List.getElem?_set_ne e] at h
      obtain ⟨a, vs, h1, h2, h3, h4, h5, h6⟩ := s.own j u h
      refine ⟨a, vs, h1, ?_, h3, h4, h5, h6⟩
      rw [upd_ne (fun z => e (s.sep i j ts u a hq h (by rw [z]; exact hs) h1))]
      exact h2
  sep := fun j l t u a h1 h2 h3 h4 => by
    have k1 : ∃ t', ρ[j]? = some (.own t') := by
      by_cases e : i = j
      · exact ⟨ts, e ▸ hq⟩
      · rw [List.getElem?_set_ne e] at h1
        exact ⟨t, h1⟩
    have k2 : ∃ t', ρ[l]? = some (.own t') := by
      by_cases e : i = l
      · exact ⟨ts, e ▸ hq⟩
      · rw [List.getElem?_set_ne e] at h2
        exact ⟨u, h2⟩
    obtain ⟨t', k1⟩ := k1
    obtain ⟨u', k2⟩ := k2
    exact s.sep j l t' u' a k1 k2 h3 h4
theorem js_append {ap cp : Pos} (hN : X.N[i]? = some x := by rfl) (hv : Vis X.env.scope x := by first | exact Or.inl rfl | exact Or.inr (Or.inl rfl) | exact Or.inr (Or.inr rfl)) (he : JE X e me)
    (h : PE X (.Name x pos') (tVar i) → ∀ te, PE X e te → PE X (.Call (.Attribute (.Name x pos') "append" ap) [e] [] cp) (tBM X.K "list" rAppend (tVar i) (tCons te tNil)) :=
      by exact fun h1 te h2 => pe_bm PySem.F.plainAttrs_list PySem.F.slot_list_append PySem.F.type_list_append mt_append h1 (pa_cons h2 pa_nil))
    (hd : (x == ("__debug__" : Str)) = false := by decide) (hcd : (x == ("__classdict__" : Str)) = false := by decide) (hs : swapsWith (.Call (.Attribute (.Name x pos') "append" ap) [e] [] cp) none pos.line X.env = pure false := by rfl) :
    JS X (.Expr (.Call (.Attribute (.Name x pos') "append" ap) [e] [] cp) pos) (appS i me) := fun W tk => PS_imp (ps_expr (h (pe_var hN hv hd hcd) _ (he W tk)) hs) fun D σ H q => by
  obtain ⟨F0, ι0, H0, F, ι, ρ, M, e0, hr, sr, p⟩ := q
  unfold appS at p
  split at p
  · rename_i ts q
    obtain ⟨a, vs, h1, h2, h3, h4, h5, h6⟩ := sr.own i ts q
    refine ⟨.ref a, h1, .inl ⟨rfl, _, .of h2⟩, H0, F, ι, ρ, M, hr, sr, (p.bind e0 sr).imp (fun t M1 F1 ι1 H1 e1 hr1 p1 v r => ?_) fun _ _ _ _ _ _ _ _ _ _ w => w⟩
    obtain ⟨a', vs', k1, k2, k3, k4, k5, k6⟩ := (sr.ext e1).own i ts q
    rw [h1] at k1
    cases k1
    split at p1
    · rename_i hl
      refine ⟨a, vs', v, rfl, rfl, k2, by rw [k6.length]; exact hl, ?_⟩
      exact p1.nxt ((e0.trans e1).own h5) (hr1.own k3 k4) ((sr.ext e1).store q h1 k3 k4 h5 (k6.append (.cons r .nil)))
    · exact p1.elim
  · exact p.elim
end
end TL
end
section
set_option Elab.async false
set_option linter.all false
set_option maxRecDepth 100000
set_option maxHeartbeats 1000000
namespace TL
open PySem PySem.Spec PyProof.Rows L2

/-! ### comprehensions -/
def wipeR (ρ : List Slot) : List Nat → List Slot
  | [] => ρ
  | v :: vs => (wipeR ρ vs).set v .un
theorem SRel.unset {G : Gd} {H0 F H : Hp} {ι : List Addr} {ρ : List Slot} {σ : St} (s : SRel G H0 F ι ρ σ H) (i : Nat) : SRel G H0 F ι (ρ.set i .un) (σ.set i none) H where
  len := by rw [List.length_set, List.length_set]; exact s.len
  val := fun j u h => by
    by_cases e : i = j
    · subst e
      by_cases hi : i < ρ.length
      · rw [List.getElem?_set_self hi] at h
        cases h
      · rw [List.getElem?_eq_none (by rw [List.length_set]; omega)] at h
        cases h
    · rw [List.getElem?_set_ne e] at h
      rw [List.getElem?_set_ne e]
      exact s.val j u h
  own := fun j u h => by
    by_cases e : i = j
    · subst e
      by_cases hi : i < ρ.length
      · rw [List.getElem?_set_self hi] at h
        cases h
      · rw [List.getElem?_eq_none (by rw [List.length_set]; omega)] at h
        cases h
    · rw [List.getElem?_set_ne e] at h
      rw [List.getElem?_set_ne e]
      exact s.own j u h
  sep := fun j l t u a h1 h2 h3 h4 => by
    by_cases e : i = j
    · subst e
      by_cases hi : i < ρ.length
      · rw [List.getElem?_set_self hi] at h1
        cases h1
      · rw [List.getElem?_eq_none (by rw [List.length_set]; omega)] at h1
        cases h1
    · by_cases e2 : i = l
      · subst e2
        by_cases hi : i < ρ.length
        · rw [List.getElem?_set_self hi] at h2
          cases h2
        · rw [List.getElem?_eq_none (by rw [List.length_set]; omega)] at h2
          cases h2
      · rw [List.getElem?_set_ne e] at h1 h3
        rw [List.getElem?_set_ne e2] at h2 h4
        exact s.sep j l t u a h1 h2 h3 h4
theorem SRel.wipe {G : Gd} {H0 F H : Hp} {ι : List Addr} {ρ : List Slot} {σ : St} (s : SRel G H0 F ι ρ σ H) : ∀ vs : List Nat, SRel G H0 F ι (wipeR ρ vs) (wipe σ vs) H
  | [] => s
  | v :: vs => (s.wipe vs).unset v
theorem wipe_get (σ : St) : ∀ (vs : List Nat) (i : Nat), (wipe σ vs)[i]? = if i ∈ vs then (if i < σ.length then some none else none) else σ[i]?
  | [], i => by rw [if_neg (by simp)]; rfl
  | v :: vs, i => by
    have ih := wipe_get σ vs i
    unfold wipe
    by_cases e : v = i
    · subst e
      rw [if_pos List.mem_cons_self]
      by_cases hl : v < σ.length
      · rw [if_pos hl, List.getElem?_set_self (by rw [wipe_length]; exact hl)]
      · rw [if_neg hl, List.getElem?_eq_none (by rw [List.length_set, wipe_length]; omega)]
    · rw [List.getElem?_set_ne e, ih]
      by_cases m : i ∈ vs
      · rw [if_pos m, if_pos (List.mem_cons_of_mem _ m)]
      · rw [if_neg m, if_neg (fun z => (List.mem_cons.mp z).elim (fun q => e q.symm) m)]
theorem Off.wiped {σ σ' : St} {us vs : List Nat} (o : Off us (wipe σ vs) σ') (h : ∀ i ∈ us, i ∈ vs) : wipe σ' vs = wipe σ vs := by
  have hl : σ'.length = σ.length := o.1.trans (wipe_length σ vs)
  refine List.ext_getElem? fun i => ?_
  rw [wipe_get, wipe_get]
  by_cases m : i ∈ vs
  · rw [if_pos m, if_pos m, hl]
  · rw [if_neg m, if_neg m, o.2 i fun z => m (h i z), wipe_get, if_neg m]

/-- the loop of a comprehension -/
def compL (g : GM) (tt : EM Bool) (te : EM T) (ρ : List Slot) : List T → List T → Sto → R (List T)
  | [], acc, M => .ok acc M
  | t :: ts, acc, M => match g t ρ with
    | none => .stuck
    | some ρ1 => match tt ρ1 M with
      | .ok true M1 => match te ρ1 M1 with
        | .ok y M2 => if acc.length < sizeLine then compL g tt te ρ ts (acc ++ [y]) M2 else .stuck
        | _ => .stuck
      | .ok false M1 => compL g tt te ρ ts acc M1
      | _ => .stuck
def compF (mi : EM (List T)) (g : GM) (tt : EM Bool) (te : EM T) (vs : List Nat) : EM (List T) := fun ρ M => (mi ρ M).bind fun ts M1 => compL g tt te (wipeR ρ vs) ts [] M1
def NoW : WT := fun _ _ _ _ => False
theorem takesNo {X : Cx} : Takes X NoW := takes0
theorem rd_comp {G : Gd} {W : WT} {mi : EM (List T)} {g : GM} {us : List Nat} {tt : EM Bool} {te : EM T} {vs : List Nat} (hv : ∀ i ∈ us, i ∈ vs) {σ : St} {H : Hp} {Q : VK} (h : rdF G W (compF mi g tt te vs) σ H Q) :
    tLc (rdI G W mi) (rdG G g us) (rdT G NoW tt) (rdE G NoW te) vs σ H Q := by
  obtain ⟨H0, F, ι, ρ, M, hr, sr, p⟩ := h
  refine ⟨H0, F, ι, ρ, M, hr, sr, ?_⟩
  unfold compF at p
  cases qm : mi ρ M with
  | stuck => rw [qm] at p; exact p
  | exc x M' => rw [qm] at p; exact p
  | ok ts M1 =>
    rw [qm] at p
    intro F1 ι1 H1 e1 hr1 J ok D hD
    have hn : H D = none := by
      cases r : H D with
      | none => rfl
      | some o =>
        obtain ⟨o', e2⟩ := e1.dom D o r
        rw [hD] at e2
        cases e2
    have p' : Post G F ι H (compL g tt te (wipeR ρ vs) ts [] M1) (fun ts M' F' ι' H' => ∀ p vs, H p = none → H' p = some (.lst vs) → F' p = none → p ∉ ι' → Reps G F' ι' vs ts → Q (.ref p) H') (fun cls d e M' F' ι' H' => W cls d σ H') := p
    refine ⟨fun i m H' => m = ts.length - i ∧ i ≤ ts.length ∧ ∃ F' ι' M' vsA acc, Ext F ι H F' ι' H' ∧ Same F1 F' ∧ ι1 <+: ι' ∧ HRel G F' ι' M' H' ∧ H' D = some (.lst vsA) ∧ F' D = none ∧ D ∉ ι' ∧ Reps G F' ι' vsA acc ∧
      Post G F ι H (compL g tt te (wipeR ρ vs) (ts.drop i) acc M') (fun ts M' F' ι' H' => ∀ p vs, H p = none → H' p = some (.lst vs) → F' p = none → p ∉ ι' → Reps G F' ι' vs ts → Q (.ref p) H') (fun cls d e M' F' ι' H' => W cls d σ H'),
      ⟨ts.length, by omega, Nat.zero_le _, F1, ι1, M1, [], [], e1.own hn, Same.refl _, List.prefix_rfl, hr1.own (hr1.noF hD) (hr1.noI hD), upd_same, hr1.noF hD, hr1.noI hD, .nil, p'⟩, ?_⟩
    rintro i m H2 ⟨rfl, hi2, F2, ι2, M2, vsA, acc, e2, s2, i2, hr2, hl2, hf2, hi2', ra, p2⟩
    by_cases hlt : i < ts.length
    · have eg : ts[i]? = some ts[i] := List.getElem?_eq_getElem hlt
      refine .inr ⟨ok.go i F2 ι2 M2 H2 _ s2 i2 hr2 eg, fun H' => i + 1 ≤ ts.length ∧ ∃ F' ι' M' vsA acc, Ext F ι H F' ι' H' ∧ Same F1 F' ∧ ι1 <+: ι' ∧ HRel G F' ι' M' H' ∧ H' D = some (.lst vsA) ∧ F' D = none ∧ D ∉ ι' ∧ Reps G F' ι' vsA acc ∧
        Post G F ι H (compL g tt te (wipeR ρ vs) (ts.drop (i + 1)) acc M') (fun ts M' F' ι' H' => ∀ p vs, H p = none → H' p = some (.lst vs) → F' p = none → p ∉ ι' → Reps G F' ι' vs ts → Q (.ref p) H') (fun cls d e M' F' ι' H' => W cls d σ H'),
        fun H' n => ⟨ts.length - (i + 1), by omega, rfl, n⟩, fun x H' y => ?_⟩
      obtain ⟨F3, e3, hr3, r3⟩ := ok.yld i F2 ι2 M2 H2 _ x H' s2 i2 hr2 eg y
      rw [List.drop_eq_getElem_cons hlt] at p2
      unfold compL at p2
      have sw := ((sr.ext e2).ext e3).wipe vs
      have keepD : ∀ {F' ι' H''}, Ext F3 ι2 H' F' ι' H'' → H'' D = some (.lst vsA) ∧ F' D = none ∧ D ∉ ι' := fun {F' ι' H''} e => by
        have hl3 : H' D = some (.lst vsA) := e3.keep D _ hi2' hl2
        have hf3 : F3 D = none := by
          cases q : F3 D with
          | none => rfl
          | some o =>
            have z := e3.newF D hf2 (by rw [q]; exact fun z => nomatch z)
            rw [hl2] at z
            cases z
        refine ⟨e.keep D _ hi2' hl3, ?_, fun m => (e.newI D m).elim hi2' fun z => by rw [hl3] at z; cases z⟩
        cases q : F' D with
        | none => rfl
        | some o =>
          have z := e.newF D hf3 (by rw [q]; exact fun z => nomatch z)
          rw [hl3] at z
          cases z
      cases q : g ts[i] (wipeR ρ vs) with
      | none => rw [q] at p2; exact p2.elim
      | some ρ3 =>
        rw [q] at p2
        dsimp only at p2
        refine ⟨H0, F3, ι2, wipeR ρ vs, M2, _, ρ3, hr3, sw, r3, q, fun σ' s' o => ⟨o.wiped hv, H0, F3, ι2, ρ3, M2, hr3, s', ?_⟩⟩
        cases qt : tt ρ3 M2 with
        | stuck => rw [qt] at p2; exact p2.elim
        | exc z M' => rw [qt] at p2; exact p2.elim
        | ok b M4 =>
          rw [qt] at p2
          intro F4 ι4 H4 e4 hr4
          cases b with
          | false =>
            rw [if_neg Bool.false_ne_true]
            obtain ⟨k1, k2, k3⟩ := keepD e4
            exact ⟨hlt, F4, ι4, M4, vsA, acc, (e2.trans e3).trans e4, (s2.trans e3.mono).trans e4.mono, i2.trans e4.pre, hr4, k1, k2, k3, (ra.mono e3.mono e3.pre).mono e4.mono e4.pre, p2⟩
          | true =>
            rw [if_pos rfl]
            dsimp only at p2
            refine ⟨H0, F4, ι4, ρ3, M4, hr4, s'.ext e4, ?_⟩
            cases qe : te ρ3 M4 with
            | stuck => rw [qe] at p2; exact p2.elim
            | exc z M' => rw [qe] at p2; exact p2.elim
            | ok y M5 =>
              rw [qe] at p2
              dsimp only at p2
              split at p2
              · rename_i hl
                intro F5 ι5 H5 e5 hr5 v5 r5
                obtain ⟨k1, k2, k3⟩ := keepD (e4.trans e5)
                have ra5 := ((ra.mono e3.mono e3.pre).mono e4.mono e4.pre).mono e5.mono e5.pre
                refine ⟨vsA, k1, by rw [ra.length]; exact hl, hlt, F5, ι5, M5, vsA ++ [v5], acc ++ [y], (((e2.trans e3).trans e4).trans e5).own hn, ((s2.trans e3.mono).trans e4.mono).trans e5.mono, (i2.trans e4.pre).trans e5.pre, hr5.own k2 k3, upd_same, k2, k3, ra5.append (.cons r5 .nil), p2⟩
              · exact p2.elim
    · have e : i = ts.length := by omega
      subst e
      rw [List.drop_length] at p2
      exact .inl ⟨ok.stop F2 ι2 M2 H2 s2 i2 hr2, p2 F2 ι2 H2 e2 hr2 D vsA hn hl2 hf2 hi2' ra⟩
section
variable {X : Cx} {elt tg iter : Expr} {ifs : List Expr} {scope : Scope} {own : List (Str × Nat)} {pos spos : Pos} {mi : EM (List T)} {g : GM} {us : List Nat} {tt : EM Bool} {te : EM T}
def JTs (X : Cx) (ifs : List Expr) (m : EM Bool) : Prop := ∀ W : WX, Takes X W → PTs X ifs (rdT (gd X) W m)
theorem PTs_imp {es : List Expr} {t t' : TT} (h : PTs X es t) (i : ∀ σ H Q, t' σ H Q → t σ H Q) : PTs X es t' := ⟨fun pins s σ H Q I q => h.run pins s σ H Q I (i σ H Q q)⟩
def yesB : EM Bool := pureE true
theorem jts_nil : JTs X [] yesB := fun W tk => PTs_imp pts_nil fun σ H Q h => by
  obtain ⟨H0, F, ι, ρ, M, hr, sr, p⟩ := h
  exact p _ _ _ .refl hr
theorem jts_one {c : Expr} {m : EM Bool} (h : JT X c m) : JTs X [c] m := fun W tk => pts_one (h W tk)
theorem jf_comp (hc : X.calm = true) (hN : X.N.Nodup) (hi : JI X tg iter mi) (ok : BlkOk X.N X.env.scope scope own) (hv : ∀ i ∈ us, i ∈ own.map (·.2))
    (hg : ∀ (s : Shared) (H : Hp) (C : Addr) (cl : List (Str × Addr)) (fp : List Addr), JG (X.blk s H scope (compEnvC scope cl C X.env) fp) tg g us) (ht : ∀ (s : Shared) (H : Hp) (C : Addr) (cl : List (Str × Addr)) (fp : List Addr), JTs (X.blk s H scope (compEnvC scope cl C X.env) fp) ifs tt)
    (he : ∀ (s : Shared) (H : Hp) (C : Addr) (cl : List (Str × Addr)) (fp : List Addr), JE (X.blk s H scope (compEnvC scope cl C X.env) fp) elt te) (hs : ∀ x, foldedSetIterable iter X.env x = pure x := by intro _; rfl) :
    JF X (.ListComp elt [⟨tg, iter, ifs, 0⟩] scope pos) (compF mi g tt te (own.map (·.2))) := fun W tk =>
  PE_imp (pe_lc (wi := rdI (gd X) W mi) (g := rdG (gd X) g us) (tt := rdT (gd X) NoW tt) (te := rdE (gd X) NoW te) hc hN (hi W tk) ok hg (fun s H C cl fp => ht s H C cl fp NoW takesNo) (fun s H C cl fp => he s H C cl fp NoW takesNo) hs) fun σ H Q h => rd_comp hv h
/-- name = [..] -/
theorem js_setLc {i : Nat} {y : Str} {py : Pos} (hc : X.calm = true) (hN : X.N.Nodup) (hy : X.N[i]? = some y) (hyl : X.env.scope.names.lookup y = some .local)
    (hsw : swapsWith (.ListComp elt [⟨tg, iter, ifs, 0⟩] scope pos) (some (.Name y py)) spos.line X.env = pure true) (hi : JI X tg iter mi) (ok : BlkOk X.N X.env.scope scope own) (hv : ∀ i ∈ us, i ∈ own.map (·.2))
    (hg : ∀ (s : Shared) (H : Hp) (C : Addr) (cl : List (Str × Addr)) (fp : List Addr), JG (X.blk s H scope (compEnvC scope cl C X.env) fp) tg g us) (ht : ∀ (s : Shared) (H : Hp) (C : Addr) (cl : List (Str × Addr)) (fp : List Addr), JTs (X.blk s H scope (compEnvC scope cl C X.env) fp) ifs tt)
    (he : ∀ (s : Shared) (H : Hp) (C : Addr) (cl : List (Str × Addr)) (fp : List Addr), JE (X.blk s H scope (compEnvC scope cl C X.env) fp) elt te) (hs : ∀ x, foldedSetIterable iter X.env x = pure x := by intro _; rfl) :
    JS X (.Assign [.Name y py] (.ListComp elt [⟨tg, iter, ifs, 0⟩] scope pos) spos) (setS i (lstE (compF mi g tt te (own.map (·.2))))) := fun W tk =>
  PS_imp (ps_setLc (wi := rdI (gd X) W mi) (g := rdG (gd X) g us) (tt := rdT (gd X) NoW tt) (te := rdE (gd X) NoW te) hc hN hy hyl hsw (hi W tk) ok hg (fun s H C cl fp => ht s H C cl fp NoW takesNo) (fun s H C cl fp => he s H C cl fp NoW takesNo) hs) fun D σ H h => by
    obtain ⟨F0, ι0, H0, F, ι, ρ, M, e0, hr, sr, p⟩ := h
    refine rd_comp hv (rd_frz ⟨H0, F, ι, ρ, M, hr, sr, (p.bind e0 sr).imp (fun t M1 F1 ι1 H1 e1 hr1 p1 v1 r1 => ?_) fun _ _ _ _ _ _ _ _ _ _ w => w⟩)
    exact p1.nxt (e0.trans e1) hr1 ((sr.ext e1).set i r1)
theorem js_ownLc {i : Nat} {y : Str} {py : Pos} (hc : X.calm = true) (hN : X.N.Nodup) (hy : X.N[i]? = some y) (hyl : X.env.scope.names.lookup y = some .local)
    (hsw : swapsWith (.ListComp elt [⟨tg, iter, ifs, 0⟩] scope pos) (some (.Name y py)) spos.line X.env = pure true) (hi : JI X tg iter mi) (ok : BlkOk X.N X.env.scope scope own) (hv : ∀ i ∈ us, i ∈ own.map (·.2))
    (hg : ∀ (s : Shared) (H : Hp) (C : Addr) (cl : List (Str × Addr)) (fp : List Addr), JG (X.blk s H scope (compEnvC scope cl C X.env) fp) tg g us) (ht : ∀ (s : Shared) (H : Hp) (C : Addr) (cl : List (Str × Addr)) (fp : List Addr), JTs (X.blk s H scope (compEnvC scope cl C X.env) fp) ifs tt)
    (he : ∀ (s : Shared) (H : Hp) (C : Addr) (cl : List (Str × Addr)) (fp : List Addr), JE (X.blk s H scope (compEnvC scope cl C X.env) fp) elt te) (hs : ∀ x, foldedSetIterable iter X.env x = pure x := by intro _; rfl) :
    JS X (.Assign [.Name y py] (.ListComp elt [⟨tg, iter, ifs, 0⟩] scope pos) spos) (ownS i (compF mi g tt te (own.map (·.2)))) := fun W tk =>
  PS_imp (ps_setLc (wi := rdI (gd X) W mi) (g := rdG (gd X) g us) (tt := rdT (gd X) NoW tt) (te := rdE (gd X) NoW te) hc hN hy hyl hsw (hi W tk) ok hg (fun s H C cl fp => ht s H C cl fp NoW takesNo) (fun s H C cl fp => he s H C cl fp NoW takesNo) hs) fun D σ H h => rd_comp hv (rd_own h)
end
end TL
end
section
set_option Elab.async false
set_option linter.all false
set_option maxRecDepth 100000
set_option maxHeartbeats 1000000
namespace TL
open PySem PySem.Spec PyProof.Rows L2

/-! ### dicts of the store -/
def valT (kvs : List (Key × T)) (k : Key) : Option T := match kvs with
  | [] => none
  | p :: r => if p.1 = k then some p.2 else valT r k
def hasT (kvs : List (Key × T)) (k : Key) : Bool := kvs.any fun kv => decide (kv.1 = k)
def putT (kvs : List (Key × T)) (k : Key) (t : T) : List (Key × T) :=
  if hasT kvs k = true then kvs.map (fun kv => if kv.1 = k then (kv.1, t) else kv) else kvs ++ [(k, t)]
def keyT : T → Option Key
  | .int i => some (.inl i)
  | .str x => some (.inr x)
  | _ => none
theorem keyT_of {G : Gd} {F : Hp} {ι : List Addr} {v : V} {t : T} {k : Key} (r : Rep G F ι v t) (e : keyT t = some k) : v = kV k := by
  unfold keyT at e
  split at e
  · cases e; cases r; rfl
  · cases e; cases r; rfl
  · cases e
/-- pairs by their keys and trees -/
def KRep (G : Gd) (F : Hp) (ι : List Addr) (kv : List (Key × V)) (kvs : List (Key × T)) : Prop := kv.map (·.1) = kvs.map (·.1) ∧ Reps G F ι (kv.map (·.2)) (kvs.map (·.2))
section
variable {G : Gd} {F : Hp} {ι : List Addr}
theorem KRep.nil : KRep G F ι [] [] := ⟨rfl, .nil⟩
theorem KRep.cons {k : Key} {v : V} {t : T} {kv : List (Key × V)} {kvs : List (Key × T)} (r : Rep G F ι v t) (h : KRep G F ι kv kvs) : KRep G F ι ((k, v) :: kv) ((k, t) :: kvs) :=
  ⟨by rw [List.map_cons, List.map_cons, h.1], .cons r h.2⟩
theorem KRep.cases {p : Key × V} {kv : List (Key × V)} {q : Key × T} {kvs : List (Key × T)} (h : KRep G F ι (p :: kv) (q :: kvs)) : p.1 = q.1 ∧ Rep G F ι p.2 q.2 ∧ KRep G F ι kv kvs := by
  obtain ⟨h1, h2⟩ := h
  rw [List.map_cons, List.map_cons] at h1
  have e := List.cons.inj h1
  cases h2 with
  | cons a b => exact ⟨e.1, a, e.2, b⟩
theorem KRep.len {kv : List (Key × V)} {kvs : List (Key × T)} (h : KRep G F ι kv kvs) : kv.length = kvs.length := by
  have := congrArg List.length h.1
  rw [List.length_map, List.length_map] at this
  exact this
theorem KRep.has : ∀ {kv : List (Key × V)} {kvs : List (Key × T)}, KRep G F ι kv kvs → ∀ k, (kv.any fun p => decide (p.1 = k)) = hasT kvs k
  | [], [], _, _ => rfl
  | [], q :: kvs, h, _ => by have := h.len; cases this
  | p :: kv, [], h, _ => by have := h.len; cases this
  | p :: kv, q :: kvs, h, k => by
    obtain ⟨e, _, r⟩ := h.cases
    unfold hasT
    rw [List.any_cons, List.any_cons, e, r.has k]
    rfl
theorem KRep.val : ∀ {kv : List (Key × V)} {kvs : List (Key × T)}, KRep G F ι kv kvs → ∀ {k : Key} {t : T}, valT kvs k = some t → ∃ v, valV kv k = some v ∧ Rep G F ι v t
  | [], [], _, _, _, e => by cases e
  | [], q :: kvs, h, _, _, _ => by have := h.len; cases this
  | p :: kv, [], h, _, _, _ => by have := h.len; cases this
  | p :: kv, q :: kvs, h, k, t, e => by
    obtain ⟨e1, r1, r⟩ := h.cases
    unfold valT at e
    by_cases hk : q.1 = k
    · rw [if_pos hk] at e
      cases e
      exact ⟨_, valV_pos (e1.trans hk), r1⟩
    · rw [if_neg hk] at e
      obtain ⟨v, e2, r2⟩ := r.val e
      exact ⟨v, by rw [valV_neg (fun z => hk (e1.symm.trans z))]; exact e2, r2⟩
theorem KRep.repl {k : Key} {v : V} {t : T} (rv : Rep G F ι v t) : ∀ {kv : List (Key × V)} {kvs : List (Key × T)}, KRep G F ι kv kvs → KRep G F ι (kv.map fun p => if p.1 = k then (p.1, v) else p) (kvs.map fun p => if p.1 = k then (p.1, t) else p)
  | [], [], _ => .nil
  | [], q :: kvs, h => by have := h.len; cases this
  | p :: kv, [], h => by have := h.len; cases this
  | p :: kv, q :: kvs, h => by
    obtain ⟨e1, r1, r⟩ := h.cases
    rw [List.map_cons, List.map_cons]
    obtain ⟨p1, p2⟩ := p
    obtain ⟨q1, q2⟩ := q
    cases (show p1 = q1 from e1)
    dsimp only
    by_cases hk : p1 = k
    · rw [if_pos hk, if_pos hk]
      exact .cons rv (r.repl rv)
    · rw [if_neg hk, if_neg hk]
      exact .cons r1 (r.repl rv)
theorem KRep.append {kv kv' : List (Key × V)} {kvs kvs' : List (Key × T)} (a : KRep G F ι kv kvs) (b : KRep G F ι kv' kvs') : KRep G F ι (kv ++ kv') (kvs ++ kvs') :=
  ⟨by rw [List.map_append, List.map_append, a.1, b.1], by rw [List.map_append, List.map_append]; exact a.2.append b.2⟩
theorem KRep.put {kv : List (Key × V)} {kvs : List (Key × T)} (h : KRep G F ι kv kvs) {v : V} {t : T} (k : Key) (r : Rep G F ι v t) : KRep G F ι (putK kv k v) (putT kvs k t) := by
  unfold putK putT
  rw [h.has k]
  by_cases e : hasT kvs k = true
  · rw [if_pos e, if_pos e]
    exact h.repl r
  · rw [if_neg e, if_neg e]
    exact h.append (.cons r .nil)
end
theorem mergeK_nodup : ∀ (kv acc : List (Key × V)), ((acc ++ kv).map (·.1)).Nodup → mergeK acc kv = acc ++ kv
  | [], acc, _ => by rw [List.append_nil]; rfl
  | p :: r, acc, h => by
    have hn : valV acc p.1 = none := by
      cases q : valV acc p.1 with
      | none => rfl
      | some v =>
        have hs : (acc.any fun kv => decide (kv.1 = p.1)) = true := by rw [valV_any, q]; rfl
        obtain ⟨kv, m, e⟩ := List.any_eq_true.mp hs
        rw [List.map_append, List.map_cons] at h
        have := (List.nodup_append.mp h).2.2 kv.1 (List.mem_map_of_mem m) p.1 List.mem_cons_self
        exact absurd (of_decide_eq_true e) this
    show mergeK (putK acc p.1 p.2) r = _
    rw [putK_new _ hn, mergeK_nodup r _ (by rw [List.append_assoc]; exact h), List.append_assoc]
    rfl

theorem Ext.stored {F0 H0 F H : Hp} {ι0 ι : List Addr} {a : Addr} {o : HO} (e : Ext F0 ι0 H0 F ι H) (m : a ∈ ι) : Ext F0 ι0 H0 F ι (upd H a o) where
  mono := e.mono
  pre := e.pre
  keep := fun b u h1 h2 => by
    rw [upd_ne (fun z => (e.newI a m).elim (fun q => h1 (by rw [z]; exact q)) fun q => by rw [z, q] at h2; cases h2)]
    exact e.keep b u h1 h2
  dom := fun b u h => by
    by_cases z : b = a
    · rw [z]; exact ⟨o, upd_same⟩
    · rw [upd_ne z]; exact e.dom b u h
  newF := e.newF
  newI := e.newI
theorem HRel.stored {G : Gd} {F H : Hp} {ι : List Addr} {M : Sto} {i : Nat} {a : Addr} {u : HO} {o : MO} (hr : HRel G F ι M H) (hi : ι[i]? = some a) (new : MOk G F ι (upd H a u) a o) : HRel G F ι (M.set i o) (upd H a u) where
  sub := fun b w h => by
    rw [upd_ne (fun z => by rw [z, hr.out a (List.mem_of_getElem? hi)] at h; cases h)]
    exact hr.sub b w h
  len := by rw [List.length_set]; exact hr.len
  nd := hr.nd
  out := hr.out
  mo := fun j b o' e1 e2 => by
    by_cases e : i = j
    · subst e
      rw [hi] at e1
      cases e1
      have hl : i < M.length := by rw [← hr.len]; exact (List.getElem?_eq_some_iff.mp hi).1
      rw [List.getElem?_set_self hl] at e2
      cases e2
      exact new
    · rw [List.getElem?_set_ne e] at e2
      refine (hr.mo j b o' e1 e2).ext (Same.refl F) List.prefix_rfl fun w h => ?_
      rw [upd_ne (fun z => e ?_)]
      · exact h
      · obtain ⟨l1, k1⟩ := List.getElem?_eq_some_iff.mp hi
        obtain ⟨l2, k2⟩ := List.getElem?_eq_some_iff.mp e1
        exact (List.getElem_inj hr.nd).mp (k1.trans (z.symm.trans k2.symm))
theorem SRel.stored {G : Gd} {H0 F H : Hp} {ι : List Addr} {ρ : List Slot} {σ : St} {a : Addr} {u : HO} (s : SRel G H0 F ι ρ σ H) (m : a ∈ ι) : SRel G H0 F ι ρ σ (upd H a u) where
  len := s.len
  val := s.val
  own := fun i ts h => by
    obtain ⟨b, vs, h1, h2, h3, h4, h5, h6⟩ := s.own i ts h
    exact ⟨b, vs, h1, by rw [upd_ne (fun z => h4 (by rw [z]; exact m))]; exact h2, h3, h4, h5, h6⟩
  sep := s.sep
/-- x[y], of a list, a tuple, a text, a dict of the store -/
def subE (ma mb : EM T) : EM T := bindE ma fun x => bindE mb fun y => match x with
  | .ptr i => fun ρ M => match M[i]?, keyT y with
    | some (.dK kvs), some k => match valT kvs k with
      | some t => .ok t M
      | none => .stuck
    | _, _ => .stuck
  | _ => optE (ixT x y)
section
variable {X : Cx} {a b e : Expr} {ma mb mv : EM T} {pos pos' : Pos}
theorem PE_or {t t' : TE} (h : PE X e t) (h' : PE X e t') : PE X e (fun σ H Q => t σ H Q ∨ t' σ H Q) := ⟨fun pins s σ H Q I q => q.elim (h.run pins s σ H Q I) (h'.run pins s σ H Q I)⟩
theorem je_sub (hu : X.A.units + 1 < cLine) (ha : JE X a ma) (hb : JE X b mb) (hs : NoSl b := by exact fun _ _ => rfl) : JE X (.Subscript a b pos) (subE ma mb) :=
  fun W tk => PE_imp (PE_or (pe_ix ix_seq (ha W tk) (hb W tk) hs) (pe_dget hu (ha W tk) (hb W tk) hs)) fun σ H Q h => by
    obtain ⟨H0, F, ι, ρ, M, hr, sr, p⟩ := h
    unfold subE bindE at p
    cases qa : ma ρ M with
    | stuck => rw [qa] at p; exact p.elim
    | exc x M' =>
      rw [qa] at p
      exact .inl ⟨H0, F, ι, ρ, M, hr, sr, by rw [qa]; exact p⟩
    | ok tx M1 =>
      rw [qa] at p
      by_cases hp : ∃ i, tx = .ptr i
      · obtain ⟨i, rfl⟩ := hp
        refine .inr ⟨H0, F, ι, ρ, M, hr, sr, ?_⟩
        rw [qa]
        intro F1 ι1 H1 e1 hr1 v1 r1
        refine ⟨H0, F1, ι1, ρ, M1, hr1, sr.ext e1, ((Post.shift e1 (show Post (gd X) F ι H ((mb ρ M1).bind _) _ _ from p)).bind).imp (fun ty M2 F2 ι2 H2 e2 hr2 p2 v2 r2 => ?_) fun _ _ _ _ _ _ _ _ _ _ w => w⟩
        dsimp only at p2
        split at p2
        · rename_i kvs k q1 q2
          split at p2
          · rename_i t q3
            have r1' := r1.mono e2.mono e2.pre
            cases r1' with
            | ptr hi =>
              obtain ⟨kv, k1, k2, k3⟩ := hr2.mo i _ _ hi q1
              obtain ⟨v, k4, k5⟩ := KRep.val ⟨k2, k3⟩ q3
              refine ⟨_, v, rfl, ?_, p2 _ _ _ .refl hr2 v k5⟩
              rw [keyT_of r2 q2, ← k4]
              exact .k k1
          · exact p2.elim
        · exact p2.elim
      · refine .inl ⟨H0, F, ι, ρ, M, hr, sr, ?_⟩
        rw [qa]
        intro F1 ι1 H1 e1 hr1 v1 r1
        refine ⟨H0, F1, ι1, ρ, M1, hr1, sr.ext e1, ((Post.shift e1 (show Post (gd X) F ι H ((mb ρ M1).bind _) _ _ from p)).bind).imp (fun ty M2 F2 ι2 H2 e2 hr2 p2 v2 r2 => ?_) fun _ _ _ _ _ _ _ _ _ _ w => w⟩
        split at p2
        · exact absurd ⟨_, rfl⟩ hp
        · obtain ⟨t, e, p3⟩ := post_opt p2
          exact ixT_ok F2 ι2 M2 H2 v1 v2 tx ty t Q hr2 (r1.mono e2.mono e2.pre) r2 e fun v F' H' e3 hr3 r3 => p3 F' ι2 H' e3 hr3 v r3
/-- d[k] = v, d in the store -/
def putS (mv md mk : EM T) : SM := fun ρ M => (mv ρ M).toS ρ fun t M1 => (md ρ M1).toS ρ fun d M2 => (mk ρ M2).toS ρ fun y M3 => match d with
  | .ptr i => match M3[i]?, keyT y with
    | some (.dK kvs), some k => if kvs.length < sizeLine then .nx ρ (M3.set i (.dK (putT kvs k t))) else .stuck
    | _, _ => .stuck
  | _ => .stuck
theorem js_put (hu : X.A.units + 1 < cLine) (ho : JE X a ma) (hi : JE X b mb) (hv : JE X e mv) (hs : swapsWith e (some (.Subscript a b pos')) pos.line X.env = pure false := by rfl) :
    JS X (.Assign [.Subscript a b pos'] e pos) (putS mv ma mb) := fun W tk => PS_imp (ps_dput hu (ho W tk) (hi W tk) (hv W tk) hs) fun D σ H h => by
  obtain ⟨F0, ι0, H0, F, ι, ρ, M, e0, hr, sr, p⟩ := h
  refine ⟨H0, F, ι, ρ, M, hr, sr, (PostS.bind p e0 sr).imp (fun t M1 F1 ι1 H1 e1 hr1 p1 v1 r1 => ?_) fun _ _ _ _ _ _ _ _ _ _ w => w⟩
  refine ⟨H0, F1, ι1, ρ, M1, hr1, sr.ext e1, (PostS.bind p1 (e0.trans e1) (sr.ext e1)).imp (fun d M2 F2 ι2 H2 e2 hr2 p2 v2 r2 => ?_) fun _ _ _ _ _ _ _ _ _ _ w => w⟩
  refine ⟨H0, F2, ι2, ρ, M2, hr2, (sr.ext e1).ext e2, (PostS.bind p2 ((e0.trans e1).trans e2) ((sr.ext e1).ext e2)).imp (fun y M3 F3 ι3 H3 e3 hr3 p3 v3 r3 => ?_) fun _ _ _ _ _ _ _ _ _ _ w => w⟩
  split at p3
  · split at p3
    · rename_i i x1 x2 kvs k q1 q2
      split at p3
      · rename_i hl
        have r2' := r2.mono e3.mono e3.pre
        have r1' := (r1.mono e2.mono e2.pre).mono e3.mono e3.pre
        cases r2' with
        | @ptr ad _ hi =>
          obtain ⟨kv, k1, k2, k3⟩ := hr3.mo i _ _ hi q1
          have kr : KRep (gd X) F3 ι3 kv kvs := ⟨k2, k3⟩
          refine ⟨ad, _, rfl, (by rw [keyT_of r3 q2]; exact .k k1 (by rw [kr.len]; exact hl)), ?_⟩
          have kp := kr.put k r1'
          have mem := List.mem_of_getElem? hi
          exact p3.nxt ((((e0.trans e1).trans e2).trans e3).stored mem) (hr3.stored hi ⟨_, upd_same, kp.1, kp.2⟩) ((((sr.ext e1).ext e2).ext e3).stored mem)
      · exact p3.elim
    · exact p3.elim
  · exact p3.elim

/-! ### a dict written -/
def pairsE : List (Str × EM T) → EM (List (Key × T))
  | [] => pureE []
  | (k, m) :: r => bindE m fun t => bindE (pairsE r) fun ps => pureE ((.inr k, t) :: ps)
def dictE (kms : List (Str × EM T)) : EM T := fun ρ M => (pairsE kms ρ M).bind fun kvs M1 => if kvs.length ≤ 15 ∧ (kvs.map (·.1)).Nodup then .ok (.ptr M1.length) (M1 ++ [.dK kvs]) else .stuck
def JPs (X : Cx) (pos : Pos) (ks : List (Option Expr)) (vs : List Expr) (kms : List (Str × EM T)) : Prop := ∀ W : WX, Takes X W → PPs X pos ks vs (kms.map fun km => ((tC (.str km.1) : TE), rdE (gd X) W km.2))
theorem jps_nil : JPs X pos [] [] [] := fun W tk => pps_nil
theorem jps_cons {x : Str} {j : Nat} {p : Pos} {v : Expr} {ks : List (Option Expr)} {vs : List Expr} {kms : List (Str × EM T)} (hv : JE X v mv) (h : JPs X pos ks vs kms) : JPs X pos (some (.Constant (.str x) j p) :: ks) (v :: vs) ((x, mv) :: kms) :=
  fun W tk => pps_cons pe_str (hv W tk) (h W tk)
theorem tp_of {G : Gd} {W : WT} {H0 : Hp} : ∀ {kms : List (Str × EM T)} {F : Hp} {ι : List Addr} {ρ : List Slot} {M : Sto} {σ : St} {H : Hp} {Q : List (V × V) → Hp → Prop}, HRel G F ι M H → SRel G H0 F ι ρ σ H →
    Post G F ι H (pairsE kms ρ M) (fun kvs M' F' ι' H' => ∀ kv : List (Key × V), KRep G F' ι' kv kvs → Q (kv.map fun p => (kV p.1, p.2)) H') (fun cls d e M' F' ι' H' => W cls d σ H') →
    tPairs (kms.map fun km => ((tC (.str km.1) : TE), rdE G W km.2)) σ H Q
  | [], F, ι, ρ, M, σ, H, Q, hr, sr, p => p F ι H .refl hr [] .nil
  | (k, m) :: r, F, ι, ρ, M, σ, H, Q, hr, sr, p => by
    refine ⟨H0, F, ι, ρ, M, hr, sr, (Post.bind (show Post G F ι H ((m ρ M).bind _) _ _ from p)).imp (fun t M1 F1 ι1 H1 e1 hr1 p1 v1 r1 => ?_) fun _ _ _ _ _ _ _ _ _ _ w => w⟩
    refine tp_of hr1 (sr.ext e1) ((Post.bind (show Post G F1 ι1 H1 ((pairsE r ρ M1).bind _) _ _ from p1)).imp (fun kvs M2 F2 ι2 H2 e2 hr2 p2 kv kr => ?_) fun _ _ _ _ _ _ _ _ _ _ w => w)
    exact p2 F2 ι2 H2 .refl hr2 ((.inr k, v1) :: kv) (.cons (r1.mono e2.mono e2.pre) kr)
theorem je_dict {ks : List (Option Expr)} {vs : List Expr} {kms : List (Str × EM T)} (h : JPs X pos ks vs kms) (hall : ks.all (·.isSome) = true := by rfl) (hl : ks.length = vs.length := by rfl) (h0 : ks ≠ [] := by exact fun z => nomatch z)
    (h15 : ks.length ≤ 15 := by decide) : JE X (.Dict ks vs pos) (dictE kms) := fun W tk => PE_imp (pe_disp (h W tk) hall hl h0 h15) fun σ H Q q => by
  obtain ⟨H0, F, ι, ρ, M, hr, sr, p⟩ := q
  intro D hD
  have ex : Ext F ι H F ι (upd H D (.dK [])) := Ext.refl.own hD
  have p' : Post (gd X) F ι H ((pairsE kms ρ M).bind _) _ _ := p
  refine tp_of (hr.own (hr.noF hD) (hr.noI hD)) (sr.ext ex) ?_
  cases qp : pairsE kms ρ M with
  | stuck => rw [qp] at p'; exact p'
  | exc x M' => rw [qp] at p'; exact fun cls d F' ι' H' e hr er => p' cls d F' ι' H' (ex.trans e) hr er
  | ok kvs M1 =>
    rw [qp] at p'
    intro F1 ι1 H1 e1 hr1 kv kr
    dsimp only [R.bind] at p'
    split at p'
    · rename_i hc
      obtain ⟨hc1, hc2⟩ := hc
      have hl1 : H1 D = some (.dK []) := e1.keep D _ (hr.noI hD) upd_same
      have hf1 : F1 D = none := by
        cases q : F1 D with
        | none => rfl
        | some o =>
          have z := e1.newF D (hr.noF hD) (by rw [q]; exact fun z => nomatch z)
          rw [upd_same] at z
          cases z
      have hi1 : D ∉ ι1 := fun m => (e1.newI D m).elim (hr.noI hD) fun z => by rw [upd_same] at z; cases z
      refine ⟨hl1, kv, rfl, by rw [kr.len]; exact hc1, ?_⟩
      have em : mergeK [] kv = kv := mergeK_nodup kv [] (by rw [List.nil_append, kr.1]; exact hc2)
      rw [em]
      have eD : Ext F ι H F1 ι1 H1 := ex.trans e1
      have pre : ι1 <+: ι1 ++ [D] := List.prefix_append _ _
      refine p' F1 (ι1 ++ [D]) _ ⟨eD.mono, eD.pre.trans pre, fun a o h1 h2 => ?_, fun a o h => ?_, eD.newF, fun a m => ?_⟩ ⟨?_, ?_, ?_, ?_, ?_⟩ _ (.ptr ?_)
      · rw [upd_ne (fun z => by rw [z, hD] at h2; cases h2)]
        exact eD.keep a o h1 h2
      · by_cases z : a = D
        · rw [z]; exact ⟨_, upd_same⟩
        · rw [upd_ne z]; exact eD.dom a o h
      · rcases List.mem_append.mp m with m | m
        · exact eD.newI a m
        · rw [List.mem_singleton.mp m]; exact .inr hD
      · exact fun a o h => by
          rw [upd_ne (fun z => by rw [z, hf1] at h; cases h)]
          exact hr1.sub a o h
      · rw [List.length_append, List.length_append, hr1.len]; rfl
      · refine List.nodup_append.mpr ⟨hr1.nd, (by simp), fun a m b m2 z => ?_⟩
        rw [List.mem_singleton.mp m2] at z
        exact hi1 (z ▸ m)
      · exact fun a m => by
          rcases List.mem_append.mp m with m | m
          · exact hr1.out a m
          · rw [List.mem_singleton.mp m]; exact hf1
      · intro i a o h1 h2
        by_cases hi : i < ι1.length
        · rw [List.getElem?_append_left hi] at h1
          rw [List.getElem?_append_left (by rw [← hr1.len]; exact hi)] at h2
          refine (hr1.mo i a o h1 h2).ext (Same.refl _) pre fun w hw => ?_
          rw [upd_ne (fun z => hi1 (by rw [← z]; exact List.mem_of_getElem? h1))]
          exact hw
        · rw [List.getElem?_append_right (by omega)] at h1
          rw [List.getElem?_append_right (by rw [← hr1.len]; omega)] at h2
          have hi2 : i - ι1.length = 0 := by
            cases q : i - ι1.length with
            | zero => rfl
            | succ n => rw [q] at h1; simp at h1
          rw [hi2] at h1
          rw [← hr1.len, hi2] at h2
          cases h1
          cases h2
          exact ⟨kv, upd_same, kr.1, kr.2.mono (Same.refl _) pre⟩
      · rw [← hr1.len, List.getElem?_append_right (Nat.le_refl _), Nat.sub_self]
        rfl
    · exact p'.elim
end
end TL
end
section
set_option Elab.async false
set_option linter.all false
set_option maxRecDepth 100000
set_option maxHeartbeats 1000000
namespace TL
open PySem PySem.Spec PyProof.Rows L2

/-! ### zip of two, each a list or a tuple -/
def SqX (b : Bool) (K : PySem.W.Frag) (H : Hp) (a : Addr) (xs : List V) : Prop := match b with
  | true => SqL K H a xs
  | false => SqT K H a xs
def IsX (b : Bool) (h : Heap) (a : Addr) (its : Array Value) : Prop := match b with
  | true => h.IsList a its
  | false => h.IsTuple a its
def ItX (b : Bool) (h : Heap) (it a : Addr) (i : Nat) : Prop := match b with
  | true => h.IsListIter it a i
  | false => h.IsTupleIter it a i
def obX (b : Bool) (a : Addr) : Obj := match b with
  | true => { cls := .type "list_iterator", data := .fields #[.ref a, .int 0 0] }
  | false => { cls := .type "tuple_iterator", data := .fields #[.ref a, .int 0 0] }
section
variable {b : Bool} {h h' : Heap} {it a : Addr} {i : Nat}
theorem ItX.at (x : ItX b h it a i) (k : ∀ o, h.get? it = some o → h'.get? it = some o) : ItX b h' it a i := by
  cases b with
  | true => exact Heap.IsListIter.at x k
  | false => exact Heap.IsTupleIter.at x k
theorem ItX.obj (x : ItX b h it a i) : ∃ o, h.get? it = some o ∧ ∀ v, o.data ≠ .cell v := by
  cases b with
  | true =>
    obtain ⟨o, e, _, d⟩ := x
    exact ⟨o, e, fun v z => by rw [d] at z; cases z⟩
  | false =>
    obtain ⟨o, e, _, d⟩ := x
    exact ⟨o, e, fun v z => by rw [d] at z; cases z⟩
theorem ItX.new (e : h.get? it = some (obX b a)) : ItX b h it a 0 := by
  cases b with
  | true => exact ⟨_, e, rfl, rfl⟩
  | false => exact ⟨_, e, rfl, rfl⟩
theorem begX (its : Array Value) : Begins (.ref a) (obX b a) (fun h => IsX b h a its) := by
  cases b with
  | true => exact begins_list a its
  | false => exact begins_tuple a its
theorem IsX.lt {its : Array Value} (x : IsX b h a its) : a < h.objs.size := by
  cases b with
  | true => obtain ⟨o, e, _⟩ := x; exact Heap.lt_size e
  | false => obtain ⟨o, e, _⟩ := x; exact Heap.lt_size e
theorem drwX {prog : Program} {w : World} {A : Around} (hh : A.handled = none) (hne : a ≠ it) (its : Array Value) :
    Draws prog w A it [it, a] its.size (fun i v => its[i]? = some v) (fun i h => ItX b h it a i ∧ IsX b h a its) := by
  cases b with
  | true => exact Draws.list hh it a hne its
  | false => exact Draws.tuple hh it a hne its
end
section
variable {X : Cx} {pins : List (Addr × Obj)} {σ : St} {H : Hp} {s : Shared} {b : Bool} {a : Addr} {xs ys : List V}
theorem inv_sqX (I : Inv X pins σ H s) (h : SqX b X.K H a xs) : ∃ its : List Value, Vals xs its ∧ IsX b s.heap a its.toArray := by
  cases b with
  | true =>
    obtain ⟨its, r, p, _⟩ := I.list h
    exact ⟨its, r, p.isList⟩
  | false =>
    obtain ⟨its, r, p, _⟩ := I.tuple h
    exact ⟨its, r, p⟩
theorem sqX_inj (I : Inv X pins σ H s) (h : SqX b X.K H a xs) (h' : SqX b X.K H a ys) : xs = ys := by
  cases b with
  | true => exact I.list_inj h h'
  | false => exact I.tuple_inj h h'
end
def ItzX (K : PySem.W.Frag) (b1 b2 : Bool) (a b : Addr) : It :=
  ⟨fun i H => ∃ (xs ys : List V) (x y : V), SqX b1 K H a xs ∧ SqX b2 K H b ys ∧ xs[i]? = some x ∧ ys[i]? = some y,
    fun i H v H' => ∃ T x y, v = .ref T ∧ H T = none ∧ H' = upd H T (.tup [x, y]) ∧ (∀ xs, SqX b1 K H a xs → xs[i]? = some x) ∧ ∀ ys, SqX b2 K H b ys → ys[i]? = some y,
    fun i H => ∃ xs ys : List V, SqX b1 K H a xs ∧ SqX b2 K H b ys ∧ i ≤ xs.length ∧ i ≤ ys.length ∧ (i = xs.length ∨ i = ys.length)⟩
theorem sep_new (n a b : Nat) (ha : a < n) (hb : b < n) : ZipSep2 (n + 4) (n + 2) (n + 3) n (n + 1) [n, a] [n + 1, b] where
  TIz := Nat.ne_of_lt (by omega)
  TOz := Nat.ne_of_lt (by omega)
  TITO := Nat.ne_of_lt (by omega)
  TIi1 := Nat.ne_of_gt (by omega)
  mem1 := List.mem_cons_self
  zf1 := by simp only [List.mem_cons, List.not_mem_nil, or_false]; exact fun z => z.elim (fun q => absurd q (Nat.ne_of_gt (by omega))) fun q => absurd q (Nat.ne_of_gt (by omega))
  Tf1 := by simp only [List.mem_cons, List.not_mem_nil, or_false]; exact fun z => z.elim (fun q => absurd q (Nat.ne_of_gt (by omega))) fun q => absurd q (Nat.ne_of_gt (by omega))
  TIi2 := Nat.ne_of_gt (by omega)
  mem2 := List.mem_cons_self
  zf2 := by simp only [List.mem_cons, List.not_mem_nil, or_false]; exact fun z => z.elim (fun q => absurd q (Nat.ne_of_gt (by omega))) fun q => absurd q (Nat.ne_of_gt (by omega))
  Tf2 := by simp only [List.mem_cons, List.not_mem_nil, or_false]; exact fun z => z.elim (fun q => absurd q (Nat.ne_of_gt (by omega))) fun q => absurd q (Nat.ne_of_gt (by omega))
  sep1_2 := by simp only [List.mem_cons, List.not_mem_nil, or_false]; exact fun z => z.elim (fun q => absurd q (Nat.ne_of_lt (by omega))) fun q => absurd q (Nat.ne_of_gt (by omega))
  sep2_1 := by simp only [List.mem_cons, List.not_mem_nil, or_false]; exact fun z => z.elim (fun q => absurd q (Nat.ne_of_gt (by omega))) fun q => absurd q (Nat.ne_of_gt (by omega))
theorem turn_zipX {P : Program} {w : World} {K : PySem.W.Frag} {elts : List Expr} {kk : Nat} {tpos : Pos} {b1 b2 : Bool} {a b z TI TO i1 i2 : Addr} (D : ZipSep2 z TI TO i1 i2 [i1, a] [i2, b]) (na : a ≠ i1) (nb : b ≠ i2) :
    Turn P w K (.Tuple elts kk tpos) (ItzX K b1 b2 a b) [z, TI, TO, i1, i2] z (fun i h => IsZip h z TI TO .none ∧ IsTupOf2 h TI (.ref i1) (.ref i2) ∧ (∃ x y, IsTupOf2 h TO x y) ∧ ItX b1 h i1 a i ∧ ItX b2 h i2 b i) where
  mem := by simp
  obj := fun i h st c hc => by
    obtain ⟨hz, hTI, ⟨x, y, hTO⟩, h1, h2⟩ := st
    have e' : c = z ∨ c = TI ∨ c = TO ∨ c = i1 ∨ c = i2 := by simpa using hc
    rcases e' with q | q | q | q | q
    · exact q ▸ ⟨_, hz, fun v q => nomatch q⟩
    · exact q ▸ ⟨_, hTI, fun v q => nomatch q⟩
    · exact q ▸ ⟨_, hTO, fun v q => nomatch q⟩
    · exact q ▸ h1.obj
    · exact q ▸ h2.obj
  keep := fun i h h' st k => by
    obtain ⟨hz, hTI, ⟨x, y, hTO⟩, h1, h2⟩ := st
    exact ⟨k z (by simp) _ hz, k TI (by simp) _ hTI, ⟨x, y, k TO (by simp) _ hTO⟩, h1.at fun o q => k i1 (by simp) o q, h2.at fun o q => k i2 (by simp) o q⟩
  item := by
    intro X hP hw hK hc i pins s σ H E I hf st hg
    subst hP hw hK
    obtain ⟨hz, hTI, ⟨x0, y0, hTO⟩, h1, h2⟩ := st
    obtain ⟨xs, ys, x, y, hqx, hqy, hx, hy⟩ := hg
    obtain ⟨its, rv, p⟩ := inv_sqX I hqx
    obtain ⟨its2, rv2, p2⟩ := inv_sqX I hqy
    obtain ⟨u, hu, ru⟩ := rv.get hx
    obtain ⟨u2, hu2, ru2⟩ := rv2.get hy
    have hzl : z < s.heap.objs.size := Heap.lt_size hz
    have l1 : i < its.toArray.size := by
      rw [List.size_toArray]
      exact (List.getElem?_eq_some_iff.mp hu).1
    have l2 : i < its2.toArray.size := by
      rw [List.size_toArray]
      exact (List.getElem?_eq_some_iff.mp hu2).1
    have hh : X.A.in1.handled = none := I.ok.hd hc
    refine wpAny_pyNext_zipD2_item D (drwX hh na its.toArray) (drwX hh nb its2.toArray) hz hTI hTO ⟨h1, p⟩ ⟨h2, p2⟩ l1 l2 fun v1 v2 h' tk e1 e2 z' TO' st1 st2 hT hsz hk => ?_
    have ev1 : v1 = u := by
      rw [List.getElem?_toArray, hu] at e1
      exact (Option.some.inj e1).symm
    have ev2 : v2 = u2 := by
      rw [List.getElem?_toArray, hu2] at e2
      exact (Option.some.inj e2).symm
    subst ev1 ev2
    refine ⟨_, rfl, wpAny_letOwnedTupleGo_zip (s := { s with heap := h', toks := tk }) z' fun h'' z'' sb => ?_⟩
    have keep2 : ∀ c o, c ∉ [z, TI, TO, i1, i2] → s.heap.get? c = some o → h''.get? c = some o := fun c o hb q =>
      (sb.2 c (fun q' => hb (by simp [q']))).trans (hk c o (fun q' => hb (by simp [q'])) (fun q' => hb (by simp [q'])) (fun q' => hb (by simp [q'])) (fun q' => hb (by simp [q'])) q)
    have hT2 : h''.get? s.heap.objs.size = some { cls := .type "tuple", data := .seq #[v1, v2] } := (sb.2 _ (Nat.ne_of_gt hzl)).trans hT
    have new : ObjOk X.prog X.w (upd H s.heap.objs.size (.tup [x, y])) h'' s.heap.objs.size (.tup [x, y]) := by
      refine ⟨?_, [v1, v2], .cons ru (.cons ru2 .nil), ⟨_, hT2, rfl, _, rfl⟩⟩
      show 2 ≤ sizeLine
      decide
    have I1 := I.turnedNew (t' := tk) (ch := [z, TI, TO, i1, i2]) keep2 hf (Nat.le_refl _) new
    refine ⟨.ref s.heap.objs.size, _, I1, rfl, ⟨_, x, y, rfl, I.hok.fresh (Nat.le_refl _), rfl, fun l hl => by rw [sqX_inj I hl hqx]; exact hx, fun l hl => by rw [sqX_inj I hl hqy]; exact hy⟩,
      ⟨z'', (sb.2 _ D.TIz).trans (hk _ _ D.TIz D.TITO D.TIi1 D.TIi2 hTI), ⟨v1, v2, (sb.2 _ D.TOz).trans TO'⟩, st1.1.at fun o q => (sb.2 _ D.zi1.symm).trans q, st2.1.at fun o q => (sb.2 _ D.zi2.symm).trans q⟩, fun c hcm => ?_⟩
    have hlt : c < s.heap.objs.size := by
      have e' : c = z ∨ c = TI ∨ c = TO ∨ c = i1 ∨ c = i2 := by simpa using hcm
      obtain ⟨_, k1, _⟩ := h1.obj
      obtain ⟨_, k2, _⟩ := h2.obj
      rcases e' with q | q | q | q | q
      · exact q ▸ hzl
      · exact q ▸ Heap.lt_size hTI
      · exact q ▸ Heap.lt_size hTO
      · exact q ▸ Heap.lt_size k1
      · exact q ▸ Heap.lt_size k2
    rw [upd_ne (Nat.ne_of_lt hlt)]
    exact (hf c hcm).1
  done := by
    intro X hP hw hK hc i pins s σ H E I hf st hg
    subst hP hw hK
    obtain ⟨hz, hTI, ⟨x0, y0, hTO⟩, h1, h2⟩ := st
    obtain ⟨xs, ys, hqx, hqy, n1, n2, hend⟩ := hg
    obtain ⟨its, rv, p⟩ := inv_sqX I hqx
    obtain ⟨its2, rv2, p2⟩ := inv_sqX I hqy
    have l1 : its.toArray.size = xs.length := by rw [List.size_toArray, rv.length]
    have l2 : its2.toArray.size = ys.length := by rw [List.size_toArray, rv2.length]
    have hh : X.A.in1.handled = none := I.ok.hd hc
    refine wpAny_pyNext_zipD2_end D (drwX hh na its.toArray) (drwX hh nb its2.toArray) hz hTI hTO ⟨h1, p⟩ ⟨h2, p2⟩ (by omega) (by omega) (by omega) fun h' tk hk => ⟨rfl, ?_⟩
    exact I.turnedL (t' := tk) (ch := [z, TI, TO, i1, i2]) (fun c o hb q => hk c o (fun q' => hb (by simp [q'])) (fun q' => hb (by simp [q'])) (fun q' => hb (by simp [q'])) (fun q' => hb (by simp [q'])) q) hf
  self := fun A i s Q E st h => wpAny_pyIter_zip st.1 h
def iZipX (K : PySem.W.Frag) (ta : TA) : TI := fun σ H R => ta σ H fun vs H1 => ∃ b1 b2 a b xs ys, vs = [.ref a, .ref b] ∧ SqX b1 K H1 a xs ∧ SqX b2 K H1 b ys ∧ R (ItzX K b1 b2 a b) H1
theorem pi_zipX {X : Cx} {e e2 : Expr} {ta : TA} {p pos tpos : Pos} {elts : List Expr} {kk : Nat} (hg : Gl X "zip") (hm : X.mg "zip" = none) (ha : PA X [e, e2] ta)
    (hs : starEach [e, e2] X.env = (false, eval e X.env) :: starEach [e2] X.env := by rfl) (hpl : (backTo pos (starEach [e2] X.env)).any (·.1) = false := by rfl) :
    PI X (.Tuple elts kk tpos) (.Call (.Name "zip" p) [e, e2] [] pos) (iZipX X.K ta) := by
  refine ⟨fun pins s σ H R I h => Call_ (ld_blt I hg hm PyProof.Rows.boot_zip (PyProof.Rows.callWith_type1 (thn (ha.run pos pins s σ H _ I h) fun us s1 ⟨vs, H1, I1, r1, q1⟩ => ?_) hs hpl))⟩
  obtain ⟨b1, b2, a, b, xs, ys, ex, hqx, hqy, q⟩ := q1
  subst ex
  obtain ⟨u, u2, rfl, ra, rb⟩ := vals2 r1
  cases ra
  cases rb
  obtain ⟨its, rv, p1⟩ := inv_sqX I1 hqx
  obtain ⟨its2, rv2, p2⟩ := inv_sqX I1 hqy
  have la := p1.lt
  have lb := p2.lt
  have fresh5 : ∀ c, c ∈ [s1.heap.objs.size + 4, s1.heap.objs.size + 2, s1.heap.objs.size + 3, s1.heap.objs.size, s1.heap.objs.size + 1] → FpOk X pins H1 c := fun c hcm => by
    have hle : s1.heap.objs.size ≤ c := by
      simp only [List.mem_cons, List.not_mem_nil, or_false] at hcm
      omega
    exact I1.fpOk hle (I1.hok.fresh hle)
  refine zip_begins2 (begX its.toArray) (begX its2.toArray) p1 p2 fun h' hz hTI hTO h1 h2 hsz hk => wpAny_pyIter_zip hz ?_
  have I2 : Inv X pins σ H1 { s1 with heap := h' } := I1.kept (t' := s1.toks) hk
  refine ⟨s1.heap.objs.size + 4, [s1.heap.objs.size + 4, s1.heap.objs.size + 2, s1.heap.objs.size + 3, s1.heap.objs.size, s1.heap.objs.size + 1], _, _, H1, rfl, I2, turn_zipX (sep_new _ _ _ la lb) (Nat.ne_of_lt la) (Nat.ne_of_lt (Nat.lt_succ_of_lt lb)), ⟨hz, hTI, ⟨_, _, hTO⟩, .new h1, .new h2⟩, fresh5, q⟩

/-- the pairs of two rows -/
def zipL (ts us : List T) : List T := (ts.zip us).map fun p => T.tup [p.1, p.2]
def zip2 : List T → Option (List T)
  | [a, b] => (seqItems a).bind fun ts => (seqItems b).map fun us => zipL ts us
  | _ => none
theorem sqX_of {G : Gd} {F : Hp} {ι : List Addr} {v : V} {t : T} {ts : List T} (r : Rep G F ι v t) (e : seqItems t = some ts) : ∃ b a vs, v = .ref a ∧ SqX b G.K F a vs ∧ Reps G F ι vs ts := by
  unfold seqItems at e
  split at e
  · cases e
    cases r with
    | lst h r => exact ⟨true, _, _, rfl, h, r⟩
  · cases e
    cases r with
    | tup h r => exact ⟨false, _, _, rfl, h, r⟩
  · cases e
theorem sqX_mono {b : Bool} {K : PySem.W.Frag} {F F' : Hp} {a : Addr} {xs : List V} (e : Same F F') (h : SqX b K F a xs) : SqX b K F' a xs := by
  cases b with
  | true => exact e.seq h
  | false => exact sqT_mono e h
theorem zipL_get {ts us : List T} {i : Nat} {t : T} (h : (zipL ts us)[i]? = some t) : ∃ x y, ts[i]? = some x ∧ us[i]? = some y ∧ t = .tup [x, y] := by
  unfold zipL at h
  rw [List.getElem?_map] at h
  obtain ⟨p, e1, e2⟩ := Option.map_eq_some_iff.mp h
  obtain ⟨h1, h2⟩ := List.getElem?_zip_eq_some.mp e1
  exact ⟨p.1, p.2, h1, h2, e2.symm⟩
theorem itzX_ok {G : Gd} {F : Hp} {ι : List Addr} {b1 b2 : Bool} {a b : Addr} {vs ws : List V} {ts us : List T} (h1 : SqX b1 G.K F a vs) (h2 : SqX b2 G.K F b ws) (r1 : Reps G F ι vs ts) (r2 : Reps G F ι ws us) : ItOk G F ι (ItzX G.K b1 b2 a b) (zipL ts us) where
  go := fun i F1 ι1 M H t s p hr e => by
    obtain ⟨x, y, e1, e2, _⟩ := zipL_get e
    obtain ⟨v, k1, _⟩ := r1.get e1
    obtain ⟨w, k2, _⟩ := r2.get e2
    exact ⟨vs, ws, v, w, sqX_mono (s.trans hr.sub) h1, sqX_mono (s.trans hr.sub) h2, k1, k2⟩
  yld := fun i F1 ι1 M H t v H' s p hr e y => by
    obtain ⟨x, y', e1, e2, rfl⟩ := zipL_get e
    obtain ⟨D, v1, v2, rfl, hD, rfl, q1, q2⟩ := y
    obtain ⟨w1, k1, m1⟩ := r1.get e1
    obtain ⟨w2, k2, m2⟩ := r2.get e2
    have z1 := q1 vs (sqX_mono (s.trans hr.sub) h1)
    have z2 := q2 ws (sqX_mono (s.trans hr.sub) h2)
    rw [k1] at z1
    rw [k2] at z2
    cases z1
    cases z2
    have ex := ext_new (ι := ι1) (o := .tup [v1, v2]) hD (hr.noF hD)
    exact ⟨_, ex, hr.new hD, .tup (.of upd_same) (.cons ((m1.mono s p).mono ex.mono ex.pre) (.cons ((m2.mono s p).mono ex.mono ex.pre) .nil))⟩
  stop := fun F1 ι1 M H s p hr => by
    have e : (zipL ts us).length = min vs.length ws.length := by
      unfold zipL
      rw [List.length_map, List.length_zip, r1.length, r2.length]
    refine ⟨vs, ws, sqX_mono (s.trans hr.sub) h1, sqX_mono (s.trans hr.sub) h2, ?_⟩
    rw [e]
    omega
theorem ji_zip {X : Cx} {e e2 : Expr} {mA : EM (List T)} {p pos tpos : Pos} {elts : List Expr} {kk : Nat} (hg : Gl X "zip") (hm : X.mg "zip" = none) (ha : JA X [e, e2] mA)
    (hs : starEach [e, e2] X.env = (false, eval e X.env) :: starEach [e2] X.env := by rfl) (hpl : (backTo pos (starEach [e2] X.env)).any (·.1) = false := by rfl) :
    JI X (.Tuple elts kk tpos) (.Call (.Name "zip" p) [e, e2] [] pos) (bindO mA zip2) := fun W tk => PI_imp (pi_zipX hg hm (ha W tk) hs hpl) fun σ H R h => by
  obtain ⟨H0, F, ι, ρ, M, hr, sr, p⟩ := h
  refine ⟨H0, F, ι, ρ, M, hr, sr, (Post.bind p).imp (fun ts M1 F1 ι1 H1 e1 hr1 p1 vs rs => ?_) fun _ _ _ _ _ _ _ _ _ _ w => w⟩
  obtain ⟨us, e, p3⟩ := post_optB p1
  unfold zip2 at e
  split at e
  · obtain ⟨xs, k1, k2⟩ := Option.bind_eq_some_iff.mp e
    obtain ⟨ys, k3, k4⟩ := Option.map_eq_some_iff.mp k2
    subst k4
    obtain ⟨v, w, rfl, r1, r2⟩ := rs.two
    obtain ⟨b1, a, vs1, rfl, q1, m1⟩ := sqX_of r1 k1
    obtain ⟨b2, b, vs2, rfl, q2, m2⟩ := sqX_of r2 k3
    exact ⟨b1, b2, a, b, _, _, rfl, sqX_mono hr1.sub q1, sqX_mono hr1.sub q2, p3 _ _ _ .refl hr1 _ (itzX_ok q1 q2 m1 m2)⟩
  · cases e
end TL
end
section
set_option Elab.async false
set_option linter.all false
set_option maxRecDepth 100000
set_option maxHeartbeats 1000000
namespace TL
open PySem PySem.Spec PyProof.Rows L2

/-! ### defs by their names -/
/-- the def x of the text keeps to g -/
def Cal (P : Program) (w : World) (K : PySem.W.Frag) (mg : Str → Option Value) (k : Nat) (x : Str) (ps : List Str) (g : List T → Sto → R T) : Prop :=
  ∃ a fd, mg x = some (.ref a) ∧ PySem.W.keepIn K (.ref a) = true ∧ Binds K fd ps [] ∧ (∃ oc od osl, K.lookup a = some ⟨oc, od, .func fd, osl⟩) ∧ ∀ base : Heap, FnOk P w K mg base (L2.CX P w) k a fd ps (spT ⟨K, mg⟩ ps.length g)
/-- where the def x stands -/
def At (K : PySem.W.Frag) (mg : Str → Option Value) (x : Str) (st : Stmt) : Prop := ∃ a fd, mg x = some (.ref a) ∧ Fun K x x st a fd
/-- how the def's arguments bind -/
def Bd (x : Str) (st : Stmt) (ps : List Str) : Prop := ∀ (kV doc pm : Value) (an : Option Addr) (cdv ct : Value) (us : List Value), us.length = ps.length → bindArgs (PySem.W.fnOf x x (defArgs st) (defBody st) (defScope st) .none kV doc pm an cdv ct) ⟨us, []⟩ = pure (ps.zip us)
section
variable {P : Program} {w : World} {K : PySem.W.Frag} {mg : Str → Option Value} {x : Str} {st : Stmt} {N ps : List Str} {k j : Nat} {m : SM} {g : List T → Sto → R T}
theorem Cal.mono (c : Cal P w K mg j x ps g) (h : j ≤ k) : Cal P w K mg k x ps g := by
  obtain ⟨a, fd, h1, h2, h3, h4, h5⟩ := c
  exact ⟨a, fd, h1, h2, h3, h4, fun base => (h5 base).mono h⟩
theorem fun_there {a : Addr} {fd : FuncData} (F : Fun K x x st a fd) : ∃ oc od osl, K.lookup a = some ⟨oc, od, .func fd, osl⟩ := by
  obtain ⟨oc, od, _, _, _, _, _, _, osl, _, h, _⟩ := F.ex
  exact ⟨oc, od, osl, h⟩
/-- a def by its body, the body and the scope written out -/
theorem cal_of {B : List Stmt} {Sc : Scope} (F : At K mg x st) (S : FnScope N ps (defScope st)) (hb : Bd x st ps)
    (hB : defBody st = B) (hS : defScope st = Sc)
    (h : ∀ (base : Heap) (f : Addr) (cdv : Value) (A : Around) (outer : List Env) (s : Shared) (H : Hp) (E : XK), Room k (A.deeper (envOfC x Sc s.heap.objs.size f cdv)) → JSs (cxOf (L2.CX P w) P w K mg base N x Sc f cdv A outer s H E) B m) :
    Cal P w K mg (k + 1) x ps (runF N.length m) := by
  subst hB hS
  obtain ⟨a, fd, h1, h2⟩ := F
  exact ⟨a, fd, h1, h2.kp, h2.binds hb, fun_there h2, fun base => fn_ok h2 S (h base a)⟩
theorem cal_stuck (F : At K mg x st) (hb : Bd x st ps) : Cal P w K mg k x ps (fun _ _ => .stuck) := by
  obtain ⟨a, fd, h1, h2⟩ := F
  refine ⟨a, fd, h1, h2.kp, h2.binds hb, fun_there h2, fun base => ⟨fun vs H Q E h => h.1, fun A outer s H args us vs Q E _ _ _ _ h => ?_⟩⟩
  obtain ⟨_, F, ι, M, ts, _, _, p⟩ := h
  exact p.elim
end
section
variable {X : Cx} {k : Nat} {ps : List Str} {g : List T → Sto → R T} {x : Str} {p pos : Pos} {e : Expr} {es : List Expr} {ma : EM (List T)}
theorem je_callC {n : Nat} (c : Cal X.prog X.w X.K X.mg k x ps g) (hr : Room k X.A) (hg : Gl X x) (ha : JA X (e :: es) ma) (hn : ps.length = n := by rfl) (hdb : (x == ("__debug__" : Str)) = false := by decide) (he : starEach (e :: es) X.env = (false, eval e X.env) :: starEach es X.env := by rfl)
    (hpl : (backTo pos (starEach es X.env)).any (·.1) = false := by rfl) : JE X (.Call (.Name x p) (e :: es) [] pos) (callE n g ma) := by
  subst hn
  obtain ⟨a, fd, h1, h2, h3, _, h4⟩ := c
  exact je_call (h4 X.base) hr hg h1 h2 h3 ha hdb he hpl
/-- a module's whole number -/
theorem je_globIx {i : Int} (hg : Gl X x) (hm : ∃ u, X.mg x = some (.int i u)) (hd : (x == ("__debug__" : Str)) = false := by decide) : JE X (.Name x pos) (pureE (.int i)) := by
  obtain ⟨u, h⟩ := hm
  exact je_globI hg h hd
theorem je_globSx {i : Str} (hg : Gl X x) (hm : ∃ u, X.mg x = some (.str i u)) (hd : (x == ("__debug__" : Str)) = false := by decide) : JE X (.Name x pos) (pureE (.str i)) := by
  obtain ⟨u, h⟩ := hm
  exact je_globS hg h hd
end

/-- turns of a while -/
def fuel : Nat := 100000

/-! ### in place -/
def addI : T → T → Option T := intT (fun _ _ => true) fun i j => .int (i + j)
theorem addI_ok {G : Gd} : OpT G (rI0 fun i j => .int (i + j)) addI := intT_ok0 fun _ _ _ _ => .int _
def subI : T → T → Option T := intT (fun _ _ => true) fun i j => .int (i - j)
theorem subI_ok {G : Gd} : OpT G (rI0 fun i j => .int (i - j)) subI := intT_ok0 fun _ _ _ _ => .int _
def mulI : T → T → Option T := intT (fun i j => (decide (-(2 ^ 64) < i) && decide (i < 2 ^ 64)) || (decide (-(2 ^ 64) < j) && decide (j < 2 ^ 64))) fun i j => .int (i * j)
theorem mulI_ok {G : Gd} : OpT G (rI CMul fun i j => .int (i * j)) mulI := intT_ok (fun _ _ h => by
  rw [Bool.or_eq_true, Bool.and_eq_true, Bool.and_eq_true] at h
  rcases h with h | h
  · exact .inl ⟨of_decide_eq_true h.1, of_decide_eq_true h.2⟩
  · exact .inr ⟨of_decide_eq_true h.1, of_decide_eq_true h.2⟩) fun _ _ _ _ => .int _
def fdivI : T → T → Option T := intT (fun _ j => decide (0 < j) && decide (j < 1073741824)) fun i j => .int (i / j)
theorem fdivI_ok {G : Gd} : OpT G (rI CDiv fun i j => .int (i / j)) fdivI := intT_ok (fun _ _ h => by
  rw [Bool.and_eq_true] at h
  exact ⟨of_decide_eq_true h.1, of_decide_eq_true h.2⟩) fun _ _ _ _ => .int _
theorem isBT_ok {G : Gd} : OpT G rIsB isBT := by
  intro F ι M H x y tx ty t Q hr rx ry e q
  unfold isBT at e
  split at e
  · cases e; cases rx; cases ry
    exact ⟨_, _, rfl, rfl, q _ F H .refl hr (.bl _)⟩
  · cases e
theorem isntBT_ok {G : Gd} : OpT G rNotB isntBT := by
  intro F ι M H x y tx ty t Q hr rx ry e q
  unfold isntBT at e
  split at e
  · cases e; cases rx; cases ry
    exact ⟨_, _, rfl, rfl, q _ F H .refl hr (.bl _)⟩
  · cases e

/-! ### range with a step, both ways of a slice back, a list unpacked -/
def rng3 : List T → Option (List T)
  | [.int i, .int j, .int c] => if c ≠ 0 ∧ c.natAbs < 1073741824 ∧ Builtin.Range.small i j c = true ∧ Builtin.Range.rangeSize i j c = ((Builtin.Range.rangeSize i j c).toNat : Int) then some (rngC i c (Builtin.Range.rangeSize i j c).toNat) else none
  | _ => none
theorem Reps.three {G : Gd} {F : Hp} {ι : List Addr} {vs : List V} {t u r : T} (h : Reps G F ι vs [t, u, r]) : ∃ x y z, vs = [x, y, z] ∧ Rep G F ι x t ∧ Rep G F ι y u ∧ Rep G F ι z r := by
  cases h with
  | cons a b =>
    obtain ⟨x, y, rfl, c, d⟩ := b.two
    exact ⟨_, _, _, rfl, a, c, d⟩
section
variable {X : Cx} {tg a b c e : Expr} {mA : EM (List T)} {p pos : Pos}
theorem ji_range3 (hg : Gl X "range") (hm : X.mg "range" = none) (ha : JA X [a, b, c] mA) (hs : starEach [a, b, c] X.env = (false, eval a X.env) :: starEach [b, c] X.env := by rfl) (hpl : (backTo pos (starEach [b, c] X.env)).any (·.1) = false := by rfl) :
    JI X tg (.Call (.Name "range" p) [a, b, c] [] pos) (bindO mA rng3) := fun W tk => PI_imp (pi_range3 hg hm (ha W tk) hs hpl) fun σ H R h => by
  obtain ⟨H0, F, ι, ρ, M, hr, sr, p⟩ := h
  refine ⟨H0, F, ι, ρ, M, hr, sr, (Post.bind p).imp (fun ts M1 F1 ι1 H1 e1 hr1 p1 vs rs => ?_) fun _ _ _ _ _ _ _ _ _ _ w => w⟩
  obtain ⟨us, e, p3⟩ := post_optB p1
  unfold rng3 at e
  split at e
  · split at e
    · rename_i i j c hj
      cases e
      obtain ⟨x, y, z, rfl, r1, r2, r3⟩ := rs.three
      cases r1; cases r2; cases r3
      exact ⟨i, j, c, _, rfl, ⟨hj.1, hj.2.1, hj.2.2.1, hj.2.2.2⟩, p3 _ _ _ .refl hr1 _ (itc_ok i c _)⟩
    · cases e
  · cases e
/-- (a, b, ..) = a list or a tuple of that length -/
def seqG (n : Nat) (gs : GMs) : GM := fun t ρ => match seqItems t with
  | some ts => if ts.length = n then gs ts ρ else none
  | none => none
theorem PG_or {tg : Expr} {t t' : TG} (h : PG X tg t) (h' : PG X tg t') : PG X tg (fun v σ H Q => t v σ H Q ∨ t' v σ H Q) := ⟨fun pins s σ H v u Q I r q => q.elim (h.run pins s σ H v u Q I r) (h'.run pins s σ H v u Q I r)⟩
theorem jg_seq {es : List Expr} {k : Nat} {gs : GMs} {vs : List Nat} {n : Nat} (hc : X.calm = true) (h : JGs X es gs vs) (h1 : ∀ t, PGs X es t → PG X (.Tuple es k pos) (gTup X.K n t)) (h2 : ∀ t, PGs X es t → PG X (.Tuple es k pos) (gUnl X.K n t)) : JG X (.Tuple es k pos) (seqG n gs) vs :=
  PG_imp (PG_or (h1 _ h) (h2 _ h)) fun v σ H Q h => by
    obtain ⟨H0, F, ι, ρ, M, t, ρ', hr, sr, r, e, q⟩ := h
    unfold seqG at e
    split at e
    · rename_i ts es
      split at e
      · rename_i hl
        unfold seqItems at es
        split at es
        · cases es
          cases r with
          | lst ha rs => exact .inr ⟨_, _, rfl, hr.sub.seq ha, by rw [rs.length]; exact hl, H0, F, ι, ρ, M, _, ρ', hr, sr, rs, e, q⟩
        · cases es
          cases r with
          | tup ha rs => exact .inl ⟨_, _, rfl, sqT_mono hr.sub ha, by rw [rs.length]; exact hl, H0, F, ι, ρ, M, _, ρ', hr, sr, rs, e, q⟩
        · cases es
      · cases e
    · cases e

/-! ### several names at once -/
/-- arguments as slots: values, or lists that are new -/
def rdX (G : Gd) (W : WT) (m : EM (List Slot)) : TA := fun σ H Q => ∃ H0 F ι ρ M, HRel G F ι M H ∧ SRel G H0 F ι ρ σ H ∧
  Post G F ι H (m ρ M) (fun ts M' F' ι' H' => ∀ vs : List V, SRel G H F' ι' ts (vs.map some) H' → Q vs H') (fun cls d e M' F' ι' H' => W cls d σ H')
def JX (X : Cx) (es : List Expr) (m : EM (List Slot)) : Prop := ∀ W : WX, Takes X W → PA X es (rdX (gd X) W m)
def nilX : EM (List Slot) := pureE []
def valX (m : EM T) (ms : EM (List Slot)) : EM (List Slot) := bindE m fun t => bindE ms fun ts => pureE (.val t :: ts)
def ownX (m : EM (List T)) (ms : EM (List Slot)) : EM (List Slot) := bindE m fun t => bindE ms fun ts => pureE (.own t :: ts)
theorem jx_nil : JX X [] nilX := fun W tk => PA_imp pa_nil fun σ H Q h => by
  obtain ⟨H0, F, ι, ρ, M, hr, sr, p⟩ := h
  exact p _ _ _ .refl hr [] ⟨rfl, fun i t h => by simp at h, fun i t h => by simp at h, fun i j t u a h => by simp at h⟩
theorem SRel.consVal {G : Gd} {H0 H1 F H : Hp} {ι : List Addr} {ρ : List Slot} {σ : St} {v : V} {t : T} (s : SRel G H1 F ι ρ σ H) (r : Rep G F ι v t) (h0 : ∀ a, H1 a = none → H0 a = none) : SRel G H0 F ι (.val t :: ρ) (some v :: σ) H where
  len := by rw [List.length_cons, List.length_cons, s.len]
  val := fun i u h => by
    cases i with
    | zero => cases h; exact ⟨v, rfl, r⟩
    | succ i => exact s.val i u (by simpa using h)
  own := fun i u h => by
    cases i with
    | zero => cases h
    | succ i =>
      obtain ⟨a, ws, k1, k2, k3, k4, k5, k6⟩ := s.own i u (by simpa using h)
      exact ⟨a, ws, by simpa using k1, k2, k3, k4, h0 a k5, k6⟩
  sep := fun i j u w a h1 h2 h3 h4 => by
    cases i with
    | zero => cases h1
    | succ i =>
      cases j with
      | zero => cases h2
      | succ j => rw [s.sep i j u w a (by simpa using h1) (by simpa using h2) (by simpa using h3) (by simpa using h4)]
theorem SRel.consOwn {G : Gd} {H0 H1 F H : Hp} {ι : List Addr} {ρ : List Slot} {σ : St} {D : Addr} {vs : List V} {ts : List T} (s : SRel G H1 F ι ρ σ H) (hl : H D = some (.lst vs)) (hf : F D = none) (hi : D ∉ ι) (hd : H0 D = none) (hd1 : H1 D ≠ none) (r : Reps G F ι vs ts)
    (h0 : ∀ a, H1 a = none → H0 a = none) : SRel G H0 F ι (.own ts :: ρ) (some (.ref D) :: σ) H where
  len := by rw [List.length_cons, List.length_cons, s.len]
  val := fun i u h => by
    cases i with
    | zero => cases h
    | succ i => exact s.val i u (by simpa using h)
  own := fun i u h => by
    cases i with
    | zero => cases h; exact ⟨D, vs, rfl, hl, hf, hi, hd, r⟩
    | succ i =>
      obtain ⟨a, ws, k1, k2, k3, k4, k5, k6⟩ := s.own i u (by simpa using h)
      exact ⟨a, ws, by simpa using k1, k2, k3, k4, h0 a k5, k6⟩
  sep := fun i j u w a h1 h2 h3 h4 => by
    have far : ∀ (j : Nat) (w : List T) (a : Addr), ρ[j]? = some (.own w) → σ[j]? = some (some (.ref a)) → a ≠ D := fun j w a k1 k2 z => by
      obtain ⟨a', ws, q1, q2, q3, q4, q5, q6⟩ := s.own j w k1
      rw [k2] at q1
      cases q1
      exact hd1 (by rw [← z]; exact q5)
    cases i with
    | zero =>
      cases j with
      | zero => rfl
      | succ j =>
        cases h3
        exact absurd rfl (far j w D (by simpa using h2) (by simpa using h4))
    | succ i =>
      cases j with
      | zero =>
        cases h4
        exact absurd rfl (far i u D (by simpa using h1) (by simpa using h3))
      | succ j => rw [s.sep i j u w a (by simpa using h1) (by simpa using h2) (by simpa using h3) (by simpa using h4)]
theorem Ext.back {F H F' H' : Hp} {ι ι' : List Addr} (e : Ext F ι H F' ι' H') : ∀ a, H' a = none → H a = none := fun a h => by
  cases q : H a with
  | none => rfl
  | some o =>
    obtain ⟨o', e2⟩ := e.dom a o q
    rw [h] at e2
    cases e2
variable {es : List Expr} {me : EM T} {mf : EM (List T)} {ms : EM (List Slot)}
theorem jx_val (ha : JE X e me) (hr : JX X es ms) (hs : starEach (e :: es) X.env = (false, eval e X.env) :: starEach es X.env := by rfl) : JX X (e :: es) (valX me ms) :=
  fun W tk => PA_imp (pa_cons (ha W tk) (hr W tk) hs) fun σ H Q h => by
    obtain ⟨H0, F, ι, ρ, M, hr, sr, p⟩ := h
    refine ⟨H0, F, ι, ρ, M, hr, sr, (Post.bind p).imp (fun tx M1 F1 ι1 H1 e1 hr1 p1 v1 r1 => ?_) fun _ _ _ _ _ _ _ _ _ _ w => w⟩
    refine ⟨H0, F1, ι1, ρ, M1, hr1, sr.ext e1, (Post.bind p1).imp (fun ty M2 F2 ι2 H2 e2 hr2 p2 vs s2 => ?_) fun _ _ _ _ _ _ _ _ _ _ w => w⟩
    exact p2 F2 ι2 H2 .refl hr2 (v1 :: vs) (s2.consVal (r1.mono e2.mono e2.pre) e1.back)
theorem jx_own (ha : JF X e mf) (hr : JX X es ms) (hs : starEach (e :: es) X.env = (false, eval e X.env) :: starEach es X.env := by rfl) : JX X (e :: es) (ownX mf ms) :=
  fun W tk => PA_imp (pa_cons (ha W tk) (hr W tk) hs) fun σ H Q h => by
    obtain ⟨H0, F, ι, ρ, M, hr, sr, p⟩ := h
    refine ⟨H0, F, ι, ρ, M, hr, sr, (Post.bind p).imp (fun tx M1 F1 ι1 H1 e1 hr1 p1 D vs hn hl hf hi rs => ?_) fun _ _ _ _ _ _ _ _ _ _ w => w⟩
    refine ⟨H0, F1, ι1, ρ, M1, hr1, sr.ext e1, (Post.bind p1).imp (fun ty M2 F2 ι2 H2 e2 hr2 p2 us s2 => ?_) fun _ _ _ _ _ _ _ _ _ _ w => w⟩
    have hf2 : F2 D = none := by
      cases q : F2 D with
      | none => rfl
      | some o =>
        have z := e2.newF D hf (by rw [q]; exact fun z => nomatch z)
        rw [hl] at z
        cases z
    exact p2 F2 ι2 H2 .refl hr2 (.ref D :: us) (s2.consOwn (e2.keep D _ hi hl) hf2 (fun m => (e2.newI D m).elim hi fun z => by rw [hl] at z; cases z) hn (by rw [hl]; exact fun z => nomatch z) (rs.mono e2.mono e2.pre) e1.back)
/-- one slot of the pseudo frame goes to its place -/
theorem SRel.put {G : Gd} {H0 Hs F H : Hp} {ι : List Addr} {ρ τ : List Slot} {σ : St} {vs : List V} (s : SRel G H0 F ι ρ σ H) (t : SRel G Hs F ι τ (vs.map some) H) (i j : Nat) {sl : Slot} {v : V} (h1 : τ[j]? = some sl) (h2 : vs[j]? = some v) (hex : ∀ e, sl ≠ .ex e) (h0 : ∀ a, Hs a = none → H0 a = none)
    (far : ∀ (l : Nat) (us ts : List T) (a : Addr), sl = .own ts → ρ[l]? = some (.own us) → σ[l]? = some (some (.ref a)) → l ≠ i → v ≠ .ref a) : SRel G H0 F ι (ρ.set i sl) (σ.set i (some v)) H := by
  cases sl with
  | un =>
    refine ⟨by rw [List.length_set, List.length_set]; exact s.len, fun l u h => ?_, fun l u h => ?_, fun l m u w a k1 k2 k3 k4 => ?_⟩
    · by_cases e : i = l
      · subst e
        have := (List.getElem?_eq_some_iff.mp h).1
        rw [List.length_set] at this
        rw [List.getElem?_set_self this] at h
        cases h
      · rw [List.getElem?_set_ne e] at h
        rw [List.getElem?_set_ne e]
        exact s.val l u h
    · by_cases e : i = l
      · subst e
        have := (List.getElem?_eq_some_iff.mp h).1
        rw [List.length_set] at this
        rw [List.getElem?_set_self this] at h
        cases h
      · rw [List.getElem?_set_ne e] at h
        rw [List.getElem?_set_ne e]
        exact s.own l u h
    · by_cases e : i = l
      · subst e
        have := (List.getElem?_eq_some_iff.mp k1).1
        rw [List.length_set] at this
        rw [List.getElem?_set_self this] at k1
        cases k1
      · by_cases e2 : i = m
        · subst e2
          have := (List.getElem?_eq_some_iff.mp k2).1
          rw [List.length_set] at this
          rw [List.getElem?_set_self this] at k2
          cases k2
        · rw [List.getElem?_set_ne e] at k1 k3
          rw [List.getElem?_set_ne e2] at k2 k4
          exact s.sep l m u w a k1 k2 k3 k4
  | val x =>
    obtain ⟨v', k1, k2⟩ := t.val j x h1
    rw [List.getElem?_map, h2] at k1
    cases k1
    exact s.set i k2
  | own ts =>
    obtain ⟨a, ws, k1, k2, k3, k4, k5, k6⟩ := t.own j ts h1
    rw [List.getElem?_map, h2] at k1
    cases k1
    exact s.setOwn (Hs := H) i k2 k3 k4 (h0 a k5) (fun l us b q1 q2 q3 z => far l us ts b rfl q1 q2 q3 (by rw [z])) k6
  | ex x => exact absurd rfl (hex x)
/-- two names -/
def par2S (i j : Nat) (m : EM (List Slot)) : SM := fun ρ M => (m ρ M).toS ρ fun ts M1 => match ts with
  | [.val t, .val u] => .nx ((ρ.set i (.val t)).set j (.val u)) M1
  | [.own t, .val u] => .nx ((ρ.set i (.own t)).set j (.val u)) M1
  | [.val t, .own u] => .nx ((ρ.set i (.val t)).set j (.own u)) M1
  | [.own t, .own u] => .nx ((ρ.set i (.own t)).set j (.own u)) M1
  | _ => .stuck
/-- three names -/
def okX : Slot → Bool
  | .val _ => true
  | .own _ => true
  | _ => false
def par3S (i j l : Nat) (m : EM (List Slot)) : SM := fun ρ M => (m ρ M).toS ρ fun ts M1 => match ts with
  | [s1, s2, s3] => if (okX s1 && okX s2 && okX s3) = true then .nx (((ρ.set i s1).set j s2).set l s3) M1 else .stuck
  | _ => .stuck
theorem okX_ex {s : Slot} (h : okX s = true) : ∀ e, s ≠ .ex e := fun e z => by subst z; cases h
/-- the slots that come are apart from those that stood -/
theorem far1 {G : Gd} {H0 F F1 H H1 : Hp} {ι ι1 : List Addr} {ρ τ : List Slot} {σ : St} {vs : List V} (s : SRel G H0 F ι ρ σ H) (t : SRel G H F1 ι1 τ (vs.map some) H1) {j : Nat} {sl : Slot} {v : V} (h1 : τ[j]? = some sl) (h2 : vs[j]? = some v) :
    ∀ (l : Nat) (us ts : List T) (a : Addr), sl = .own ts → ρ[l]? = some (.own us) → σ[l]? = some (some (.ref a)) → v ≠ .ref a := fun l us ts a e q1 q2 z => by
  subst e z
  obtain ⟨b, ws, k1, k2, _⟩ := s.own l us q1
  rw [q2] at k1
  cases k1
  obtain ⟨c, xs, k3, _, _, _, k4, _⟩ := t.own j ts h1
  rw [List.getElem?_map, h2] at k3
  cases k3
  rw [k2] at k4
  cases k4
theorem js_par2X {i j : Nat} {x y : Str} {a b : Expr} {m : EM (List Slot)} {px py pt : Pos} {kt k2 pt2} (hc : X.calm = true) (hN : X.N.Nodup) (hi : X.N[i]? = some x) (hj : X.N[j]? = some y) (hij : i ≠ j)
    (hx : X.env.scope.names.lookup x = some .local) (hy : X.env.scope.names.lookup y = some .local) (ha : JX X [a, b] m)
    (hw : swappedStores [.Tuple [.Name x px, .Name y py] kt pt] (.Tuple [a, b] k2 pt2) X.env = pure (some [x, y]))
    (hs : swapsWithSole [.Tuple [.Name x px, .Name y py] kt pt] (.Tuple [a, b] k2 pt2) pos.line X.env = pure false := by rfl) :
    JS X (.Assign [.Tuple [.Name x px, .Name y py] kt pt] (.Tuple [a, b] k2 pt2) pos) (par2S i j m) := fun W tk => PS_imp (ps_par hc hN hi hj hij hx hy (ha W tk) hw hs) fun D σ H h => by
  obtain ⟨F0, ι0, H0, F, ι, ρ, M, e0, hr, sr, p⟩ := h
  refine ⟨H0, F, ι, ρ, M, hr, sr, (p.bind e0 sr).imp (fun ts M1 F1 ι1 H1 e1 hr1 p1 vs t => ?_) fun _ _ _ _ _ _ _ _ _ _ w => w⟩
  have hl := t.len
  rw [List.length_map] at hl
  have go : ∀ s1 s2, ts = [s1, s2] → (∀ e, s1 ≠ .ex e) → (∀ e, s2 ≠ .ex e) → PostS (gd X) W F0 ι0 H0 F1 ι1 D (.nx ((ρ.set i s1).set j s2) M1) → ∃ v w, vs = [v, w] ∧ D.nx ((σ.set i (some v)).set j (some w)) H1 := fun s1 s2 et n1 n2 p2 => by
    subst et
    obtain ⟨v, w, rfl⟩ : ∃ v w, vs = [v, w] := by
      match vs, hl with
      | [v, w], _ => exact ⟨v, w, rfl⟩
    refine ⟨v, w, rfl, p2.nxt (e0.trans e1) hr1 ?_⟩
    have a1 := (sr.ext e1).put t i 0 (sl := s1) rfl rfl n1 e0.back (fun l us ts a q1 q2 q3 _ => far1 sr t (j := 0) rfl rfl l us ts a q1 q2 q3)
    refine a1.put t j 1 (sl := s2) rfl rfl n2 e0.back fun l us ts a q1 q2 q3 q4 => ?_
    by_cases e : i = l
    · subst e
      have hlt := (List.getElem?_eq_some_iff.mp q2).1
      rw [List.length_set] at hlt
      rw [List.getElem?_set_self hlt] at q2
      rw [List.getElem?_set_self (by rw [← sr.len]; exact hlt)] at q3
      cases q2
      cases q3
      subst q1
      intro z
      subst z
      have := t.sep 0 1 us ts a rfl rfl rfl rfl
      cases this
    · rw [List.getElem?_set_ne e] at q2 q3
      exact far1 sr t (j := 1) rfl rfl l us ts a q1 q2 q3
  split at p1
  · exact go _ _ rfl (fun e z => nomatch z) (fun e z => nomatch z) p1
  · exact go _ _ rfl (fun e z => nomatch z) (fun e z => nomatch z) p1
  · exact go _ _ rfl (fun e z => nomatch z) (fun e z => nomatch z) p1
  · exact go _ _ rfl (fun e z => nomatch z) (fun e z => nomatch z) p1
  · exact p1.elim
theorem js_par3X {i j l : Nat} {x y z : Str} {a b c : Expr} {m : EM (List Slot)} {px py pz pt : Pos} {kt k2 pt2} (hc : X.calm = true) (hN : X.N.Nodup) (hi : X.N[i]? = some x) (hj : X.N[j]? = some y) (hl : X.N[l]? = some z) (hij : i ≠ j) (hil : i ≠ l) (hjl : j ≠ l)
    (hx : X.env.scope.names.lookup x = some .local) (hy : X.env.scope.names.lookup y = some .local) (hz : X.env.scope.names.lookup z = some .local) (ha : JX X [a, b, c] m)
    (hw : swappedStores [.Tuple [.Name x px, .Name y py, .Name z pz] kt pt] (.Tuple [a, b, c] k2 pt2) X.env = pure (some [x, y, z]))
    (hs : swapsWithSole [.Tuple [.Name x px, .Name y py, .Name z pz] kt pt] (.Tuple [a, b, c] k2 pt2) pos.line X.env = pure false := by rfl) :
    JS X (.Assign [.Tuple [.Name x px, .Name y py, .Name z pz] kt pt] (.Tuple [a, b, c] k2 pt2) pos) (par3S i j l m) := fun W tk => PS_imp (ps_par3 hc hN hi hj hl hij hil hjl hx hy hz (ha W tk) hw hs) fun D σ H h => by
  obtain ⟨F0, ι0, H0, F, ι, ρ, M, e0, hr, sr, p⟩ := h
  refine ⟨H0, F, ι, ρ, M, hr, sr, (p.bind e0 sr).imp (fun ts M1 F1 ι1 H1 e1 hr1 p1 vs t => ?_) fun _ _ _ _ _ _ _ _ _ _ w => w⟩
  have hl := t.len
  rw [List.length_map] at hl
  split at p1
  · split at p1
    · rename_i s1 s2 s3 ho
      rw [Bool.and_eq_true, Bool.and_eq_true] at ho
      obtain ⟨u, v, w, rfl⟩ : ∃ u v w, vs = [u, v, w] := by
        match vs, hl with
        | [u, v, w], _ => exact ⟨u, v, w, rfl⟩
      refine ⟨u, v, w, rfl, p1.nxt (e0.trans e1) hr1 ?_⟩
      have a1 := (sr.ext e1).put t i 0 (sl := s1) rfl rfl (okX_ex ho.1.1) e0.back (fun l us ts a q1 q2 q3 _ => far1 sr t (j := 0) rfl rfl l us ts a q1 q2 q3)
      have far2 : ∀ (k : Nat) (sk : Slot) (x : V), [s1, s2, s3][k]? = some sk → [u, v, w][k]? = some x → 0 ≠ k → ∀ (l : Nat) (us ts : List T) (a : Addr), sk = .own ts → (ρ.set i s1)[l]? = some (.own us) → (σ.set i (some u))[l]? = some (some (.ref a)) → x ≠ .ref a := fun k sk x g1 g2 g3 l us ts a q1 q2 q3 => by
        by_cases e : i = l
        · subst e
          have hlt := (List.getElem?_eq_some_iff.mp q2).1
          rw [List.length_set] at hlt
          rw [List.getElem?_set_self hlt] at q2
          rw [List.getElem?_set_self (by rw [← sr.len]; exact hlt)] at q3
          cases q2
          cases q3
          subst q1
          intro z
          subst z
          exact g3 (t.sep 0 k us ts a rfl g1 rfl (by rw [List.getElem?_map, g2]; rfl))
        · rw [List.getElem?_set_ne e] at q2 q3
          exact far1 sr t (j := k) g1 g2 l us ts a q1 q2 q3
      have a2 := a1.put t j 1 (sl := s2) rfl rfl (okX_ex ho.1.2) e0.back (fun l us ts a q1 q2 q3 _ => far2 1 s2 v rfl rfl (by decide) l us ts a q1 q2 q3)
      refine a2.put t l 2 (sl := s3) rfl rfl (okX_ex ho.2) e0.back fun k us ts a q1 q2 q3 q4 => ?_
      by_cases e : j = k
      · subst e
        have hlt := (List.getElem?_eq_some_iff.mp q2).1
        rw [List.length_set] at hlt
        rw [List.getElem?_set_self hlt] at q2
        rw [List.length_set] at hlt
        rw [List.getElem?_set_self (by rw [List.length_set, ← sr.len]; exact hlt)] at q3
        cases q2
        cases q3
        subst q1
        intro z
        subst z
        have := t.sep 1 2 us ts a rfl rfl rfl rfl
        cases this
      · rw [List.getElem?_set_ne e] at q2 q3
        exact far2 2 s3 w rfl rfl (by decide) k us ts a q1 q2 q3
    · exact p1.elim
  · exact p1.elim
end
end TL
end
section
set_option Elab.async false
set_option linter.all false
set_option maxRecDepth 100000
set_option maxHeartbeats 1000000
namespace TL
open PySem PySem.Spec PyProof.Rows L2

/-! ### the end -/
theorem at_mk {K : PySem.W.Frag} {mg : Str → Option Value} {h : Heap} {x : Str} {st : Stmt} {f : Addr} {oc : Value} {od an : Option Addr} {osl : Array (Option Value)} {kV doc pm cdv ct : Value} (X : K.In h) (G : h.Ns mainGlobals mg)
    (a : PySem.W.nsIn K mainGlobals x = some (some (.ref f))) (l : K.lookup f = some ⟨oc, od, .func (PySem.W.fnOf x x (defArgs st) (defBody st) (defScope st) .none kV doc pm an cdv ct), osl⟩) (c : PySem.W.codeIn K cdv x = true) (k : PySem.W.keepIn K (.ref f) = true) : At K mg x st :=
  ⟨f, _, PySem.W.mg_of X G a, fun_mk l c k⟩
/-- what is asked of the law -/
def spLaw (K : PySem.W.Frag) : Sp := fun vs H Q _ => ∃ (a : Addr) (ns : List Int), vs = [.ref a] ∧ SqL K H a (ns.map V.int) ∧ ns.length ≤ 63 ∧ ∀ H', Q (.bl true) H'
theorem reps_ints {G : Gd} {F : Hp} {ι : List Addr} : ∀ ns : List Int, Reps G F ι (ns.map V.int) (ns.map T.int)
  | [] => .nil
  | n :: ns => .cons (.int n) (reps_ints ns)
theorem law_fn {P : Program} {w : World} {K : PySem.W.Frag} {mg : Str → Option Value} {k : Nat} {g : List T → Sto → R T} {fa : Addr} {st : Stmt} (c : Cal P w K mg k "law" ["script"] g) (F : At K mg "law" st) (hb : Bd "law" st ["script"]) (hfa : mg "law" = some (.ref fa))
    (hg : ∀ ns : List Int, ns.length ≤ 63 → ∃ M, g [.lst (ns.map T.int)] [] = .ok (.bl true) M) :
    ∃ fd : FuncData, (∀ (s : Shared) (u : Value), BindsTo s fd ⟨[u], []⟩ [("script", u)]) ∧ ∀ base : Heap, K.In base → base.Ns mainGlobals mg → FnOk P w K mg base (L2.CX P w) k fa fd ["script"] (spLaw K) := by
  obtain ⟨a, fd, h1, h2, h3, ⟨oc, od, osl, hl⟩, h4⟩ := c
  rw [h1] at hfa
  cases hfa
  refine ⟨fd, fun s u => ?_, fun base _ _ => (h4 base).imp fun vs H Q E h => ?_⟩
  · obtain ⟨a', fd', k1, k2⟩ := F
    rw [h1] at k1
    cases k1
    obtain ⟨oc', od', kV, doc, pm, an, cdv, ct, osl', e, hl', _⟩ := k2.ex
    rw [hl] at hl'
    cases hl'
    rw [e]
    exact .of_eq (hb kV doc pm an cdv ct [u] rfl)
  · obtain ⟨a, ns, rfl, hS, hl, q⟩ := h
    obtain ⟨M, e⟩ := hg ns hl
    refine ⟨rfl, H, [], [], [.lst (ns.map T.int)], ⟨Same.refl H, rfl, List.nodup_nil, fun _ m => absurd m List.not_mem_nil, fun i a o h => by simp at h⟩, .cons (.lst hS (reps_ints ns)) .nil, ?_⟩
    rw [e]
    intro F' ι' H' _ _ v r
    cases r
    exact q H'
theorem cx_no {P : Program} {w : World} {H : Hp} {s : Shared} {e : Value} {s' : Shared} (h : L2.CX P w [] H s (fun _ _ _ => False) e s') : False := by
  obtain ⟨_, _, _, _, _, _, _, _, _, _, _, _, z⟩ := h
  exact z
end TL
end
section
set_option linter.all false
set_option autoImplicit false
/-! TLo: plain facts that the plain laws use. -/
namespace TL
open PySem

/-! ### data made of whole numbers -/
theorem toDs_int : ∀ xs : List Int, toDs (xs.map T.int) = xs.map PyData.int
  | [] => by rw [List.map_nil, List.map_nil, toDs]
  | x :: xs => by rw [List.map_cons, List.map_cons, toDs, toD, toDs_int xs]
theorem isDs_int : ∀ xs : List Int, isDs (xs.map T.int) = true
  | [] => by rw [List.map_nil, isDs]
  | x :: xs => by rw [List.map_cons, isDs, isD, isDs_int xs]; rfl
theorem layAll_int : ∀ xs : List Int, PyData.canLayAll0 (xs.map PyData.int) = true
  | [] => by rw [List.map_nil, PyData.canLayAll0]
  | x :: xs => by rw [List.map_cons, PyData.canLayAll0, PyData.canLay0, layAll_int xs]; rfl
theorem depthAll_int : ∀ xs : List Int, PyData.depthAll (xs.map PyData.int) = 0
  | [] => by rw [List.map_nil, PyData.depthAll]
  | x :: xs => by rw [List.map_cons, PyData.depthAll, PyData.depth, depthAll_int xs]; rfl
theorem eqvAll_int : ∀ xs ys : List Int, PyData.eqvAll (xs.map PyData.int) (ys.map PyData.int) = decide (xs = ys)
  | [], [] => by simp [PyData.eqvAll]
  | [], _ :: _ => by simp [PyData.eqvAll]
  | _ :: _, [] => by simp [PyData.eqvAll]
  | a :: r, b :: t => by
    simp only [List.map_cons, PyData.eqvAll, PyData.eqv, eqvAll_int r t]
    by_cases h : a = b <;> by_cases h' : r = t <;> simp [h, h']
theorem shp_int (i : Int) : shp (.int i) = true := by simp [shp, isD, toD, SeqAt.shaped, PyData.canLay0, PyData.depth]
theorem shp_tup (xs : List Int) : shp (.tup (xs.map T.int)) = true := by
  simp [shp, isD, toD, toDs_int, isDs_int, SeqAt.shaped, PyData.canLay0, PyData.depth, layAll_int, depthAll_int]
theorem shp_lst (xs : List Int) : shp (.lst (xs.map T.int)) = true := by
  simp [shp, isD, toD, toDs_int, isDs_int, SeqAt.shaped, PyData.canLay0, PyData.depth, layAll_int, depthAll_int]
theorem eqT_int (a b : Int) : eqT (.int a) (.int b) = some (.bl (decide (a = b))) := by
  simp [eqT, shp_int, toD, PyData.eqv]
  by_cases h : a = b <;> simp [h]
theorem neT_int (a b : Int) : neT (.int a) (.int b) = some (.bl (!decide (a = b))) := by
  simp [neT, shp_int, toD, PyData.eqv]
  by_cases h : a = b <;> simp [h]
theorem eqT_tup (xs ys : List Int) : eqT (.tup (xs.map T.int)) (.tup (ys.map T.int)) = some (.bl (decide (xs = ys))) := by
  simp [eqT, shp_tup, toD, toDs_int, PyData.eqv, eqvAll_int]
theorem neT_tup (xs ys : List Int) : neT (.tup (xs.map T.int)) (.tup (ys.map T.int)) = some (.bl (!decide (xs = ys))) := by
  simp [neT, shp_tup, toD, toDs_int, PyData.eqv, eqvAll_int]
theorem eqT_lst (xs ys : List Int) : eqT (.lst (xs.map T.int)) (.lst (ys.map T.int)) = some (.bl (decide (xs = ys))) := by
  simp [eqT, shp_lst, toD, toDs_int, PyData.eqv, eqvAll_int]
theorem neT_lst (xs ys : List Int) : neT (.lst (xs.map T.int)) (.lst (ys.map T.int)) = some (.bl (!decide (xs = ys))) := by
  simp [neT, shp_lst, toD, toDs_int, PyData.eqv, eqvAll_int]
theorem intsT_map : ∀ xs : List Int, intsT (xs.map T.int) = some xs
  | [] => rfl
  | x :: xs => by rw [List.map_cons, intsT, intsT_map xs]; rfl
theorem blsT_map : ∀ xs : List Bool, blsT (xs.map T.bl) = some xs
  | [] => rfl
  | x :: xs => by rw [List.map_cons, blsT, blsT_map xs]; rfl
theorem line_eq : sizeLine = 16777216 := rfl

/-- a list or a tuple -/
def sq (b : Bool) (ts : List T) : T := if b = true then .tup ts else .lst ts
theorem seqItems_sq (b : Bool) (ts : List T) : seqItems (sq b ts) = some ts := by cases b <;> rfl
theorem lenT_sq (b : Bool) (ts : List T) : lenT [sq b ts] = some (.int ts.length) := by cases b <;> rfl
theorem sq_true (ts : List T) : sq true ts = .tup ts := rfl
theorem sq_false (ts : List T) : sq false ts = .lst ts := rfl

/-! ### loops -/
section
variable {g : GM} {tt : EM Bool} {te : EM T} {ρ : List Slot} {M : Sto} {body : SM}
theorem compL_run {α : Type} {e f : α → T} : ∀ (l : List α) (acc : List T), (∀ a ∈ l, ∃ ρ1, g (e a) ρ = some ρ1 ∧ tt ρ1 M = .ok true M ∧ te ρ1 M = .ok (f a) M) → acc.length + l.length ≤ sizeLine →
    compL g tt te ρ (l.map e) acc M = .ok (acc ++ l.map f) M
  | [], acc, _, _ => by rw [List.map_nil, List.map_nil, compL, List.append_nil]
  | t :: ts, acc, h, hl => by
    rw [List.map_cons, compL]
    obtain ⟨ρ1, h1, h2, h3⟩ := h t (by simp)
    rw [List.length_cons] at hl
    rw [h1]; simp only; rw [h2]; simp only; rw [h3]; simp only
    rw [if_pos (by omega), compL_run ts (acc ++ [f t]) (fun u hu => h u (by simp [hu])) (by simp; omega)]
    simp
theorem compL_name {α : Type} {e f : α → T} {i : Nat} (l : List α) (h : ∀ a ∈ l, te (ρ.set i (.val (e a))) M = .ok (f a) M) (hl : l.length ≤ sizeLine) :
    compL (nameG i) yesB te ρ (l.map e) [] M = .ok (l.map f) M := by
  rw [compL_run (f := f) l [] (fun a ha => ⟨_, rfl, rfl, h a ha⟩) (by simpa using hl), List.nil_append]
theorem compL_inv {L : Nat} (P : List T → Sto → Prop) : ∀ (ts acc : List T) (M : Sto), acc.length + ts.length = L → P acc M → (∀ acc t M, t ∈ ts → acc.length < L → P acc M → ∃ ρ1, g t ρ = some ρ1 ∧ tt ρ1 M = .ok true M ∧ ∃ y M', te ρ1 M = .ok y M' ∧ P (acc ++ [y]) M') →
    L ≤ sizeLine → ∃ ys M', compL g tt te ρ ts acc M = .ok ys M' ∧ P ys M' ∧ ys.length = L
  | [], acc, M, hL, p, _, _ => ⟨acc, M, by rw [compL], p, by simpa using hL⟩
  | t :: ts, acc, M, hL, p, h, hl => by
    rw [List.length_cons] at hL
    obtain ⟨ρ1, h1, h2, y, M', h3, p'⟩ := h acc t M (by simp) (by omega) p
    obtain ⟨ys, M'', e, q, l⟩ := compL_inv P ts (acc ++ [y]) M' (by simp; omega) p' (fun a u M hu => h a u M (by simp [hu])) hl
    refine ⟨ys, M'', ?_, q, l⟩
    rw [compL, h1]; simp only; rw [h2]; simp only; rw [h3]; simp only
    rw [if_pos (by omega), e]
theorem forL_inv {L : Nat} (P : List T → List Slot → Sto → Prop) : ∀ (ts dn : List T) (ρ : List Slot) (M : Sto), dn.length + ts.length = L → P dn ρ M → (∀ dn t ρ M, t ∈ ts → dn.length < L → P dn ρ M → ∃ ρ1, g t ρ = some ρ1 ∧ ∃ ρ' M', body ρ1 M = .nx ρ' M' ∧ P (dn ++ [t]) ρ' M') →
    ∃ ρ' M', forL g body ts ρ M = .nx ρ' M' ∧ P (dn ++ ts) ρ' M'
  | [], dn, ρ, M, _, p, _ => ⟨ρ, M, rfl, by rw [List.append_nil]; exact p⟩
  | t :: ts, dn, ρ, M, hL, p, h => by
    rw [List.length_cons] at hL
    obtain ⟨ρ1, h1, ρ', M', h2, p'⟩ := h dn t ρ M (by simp) (by omega) p
    obtain ⟨ρ'', M'', e, q⟩ := forL_inv P ts (dn ++ [t]) ρ' M' (by simp; omega) p' (fun a u ρ M hu => h a u ρ M (by simp [hu]))
    refine ⟨ρ'', M'', ?_, by rw [List.append_assoc] at q; exact q⟩
    rw [forL]; simp only [h1, h2, e]
end
theorem runF_of {n : Nat} {m : SM} {ts : List T} {M M' : Sto} {t : T} {ρ : List Slot} (hρ : ts.map Slot.val ++ List.replicate (n - ts.length) .un = ρ) (h : m ρ M = .ret t M') : runF n m ts M = .ok t M' := by
  unfold runF; rw [hρ, h]
theorem runF_nx {n : Nat} {m : SM} {ts : List T} {M M' : Sto} {ρ ρ' : List Slot} (hρ : ts.map Slot.val ++ List.replicate (n - ts.length) .un = ρ) (h : m ρ M = .nx ρ' M') : runF n m ts M = .ok .non M' := by
  unfold runF; rw [hρ, h]
theorem rngL_map (n : Nat) : rngL 0 n = ((List.range n).map fun (i : Nat) => T.int (i : Int)) := by
  unfold rngL; simp
theorem rng1_nat (n : Nat) (h : n < 2 ^ 62) : rng1 [.int (n : Int)] = some ((List.range n).map fun (i : Nat) => T.int (i : Int)) := by
  have h2 : (-(2 ^ 62) : Int) ≤ (n : Int) ∧ (n : Int) < 2 ^ 62 := by omega
  simp only [rng1]
  rw [if_pos h2, Int.toNat_natCast, rngL_map]

/-! ### rules of reckoning: a meaning at a state -/
section
variable {α β : Type} {ρ : List Slot} {M : Sto}
theorem R.bind_ok (t : α) (M : Sto) (k : α → Sto → R β) : (R.ok t M).bind k = k t M := (rfl)
theorem R.bind_stuck (k : α → Sto → R β) : (R.stuck : R α).bind k = .stuck := (rfl)
theorem R.toS_ok (t : α) (M : Sto) (k : α → Sto → RS) : (R.ok t M).toS ρ k = k t M := (rfl)
theorem pureE_ap (t : α) : pureE t ρ M = .ok t M := (rfl)
theorem bindE_ap (m : EM α) (k : α → EM β) : bindE m k ρ M = (m ρ M).bind fun t M1 => k t ρ M1 := (rfl)
theorem optE_some (t : α) : optE (some t) ρ M = .ok t M := (rfl)
theorem varE_ap (i : Nat) : varE i ρ M = match ρ[i]? with
  | some (.val t) => .ok t M
  | _ => .stuck := (rfl)
theorem op1_ap (a : EM T) (f : T → Option T) : op1 a f ρ M = (a ρ M).bind fun x M1 => optE (f x) ρ M1 := (rfl)
theorem op2_ap (a b : EM T) (f : T → T → Option T) : op2 a b f ρ M = (a ρ M).bind fun x M1 => (b ρ M1).bind fun y M2 => optE (f x y) ρ M2 := (rfl)
theorem opA_ap (a : EM (List T)) (f : List T → Option T) : opA a f ρ M = (a ρ M).bind fun x M1 => optE (f x) ρ M1 := (rfl)
theorem bindO_ap (a : EM α) (f : α → Option β) : bindO a f ρ M = (a ρ M).bind fun x M1 => optE (f x) ρ M1 := (rfl)
theorem nilA_ap : nilA ρ M = .ok [] M := (rfl)
theorem consA_ap (a : EM T) (b : EM (List T)) : consA a b ρ M = (a ρ M).bind fun t M1 => (b ρ M1).bind fun ts M2 => .ok (t :: ts) M2 := (rfl)
theorem callE_ap (n : Nat) (f : List T → Sto → R T) (a : EM (List T)) : callE n f a ρ M = (a ρ M).bind fun ts M1 => if ts.length = n then f ts M1 else .stuck := (rfl)
def andK (b : EM T) (ρ : List Slot) (t : T) : Sto → R T := match t with
  | .bl true => b ρ
  | .bl false => .ok (.bl false)
  | _ => fun _ => .stuck
theorem andV_ap (a b : EM T) : andV a b ρ M = (a ρ M).bind (andK b ρ) := by
  unfold andV bindE
  congr 1
  funext t M1
  cases t <;> first
    | rfl
    | (rename_i b; cases b <;> rfl)
theorem andK_bl (b : EM T) (c : Bool) : andK b ρ (.bl c) M = if c = true then b ρ M else .ok (.bl false) M := by cases c <;> rfl
def orK (b : EM T) (ρ : List Slot) (t : T) : Sto → R T := match t with
  | .bl true => .ok (.bl true)
  | .bl false => b ρ
  | _ => fun _ => .stuck
theorem orV_ap (a b : EM T) : orV a b ρ M = (a ρ M).bind (orK b ρ) := by
  unfold orV bindE
  congr 1
  funext t M1
  cases t <;> first
    | rfl
    | (rename_i b; cases b <;> rfl)
theorem orK_bl (b : EM T) (c : Bool) : orK b ρ (.bl c) M = if c = true then .ok (.bl true) M else b ρ M := by cases c <;> rfl
theorem ite_ap {c : Prop} [Decidable c] (a b : EM α) : (if c then a else b) ρ M = if c then a ρ M else b ρ M := by split <;> rfl
theorem ifV_ap (c : EM Bool) (a b : EM T) : ifV c a b ρ M = (c ρ M).bind fun k M1 => if k = true then a ρ M1 else b ρ M1 := by
  unfold ifV bindE
  congr 1
  funext t M1
  exact ite_ap _ _
theorem testE_ap (f : T → Option Bool) (a : EM T) : testE f a ρ M = (a ρ M).bind fun x M1 => optE (f x) ρ M1 := (rfl)
theorem andB_ap (a b : EM Bool) : andB a b ρ M = (a ρ M).bind fun c M1 => if c = true then b ρ M1 else .ok false M1 := by
  unfold andB bindE
  congr 1
  funext t M1
  exact ite_ap _ _
theorem orB_ap (a b : EM Bool) : orB a b ρ M = (a ρ M).bind fun c M1 => if c = true then .ok true M1 else b ρ M1 := by
  unfold orB bindE
  congr 1
  funext t M1
  exact ite_ap _ _
theorem notB_ap (a : EM Bool) : notB a ρ M = (a ρ M).bind fun c M1 => .ok (!c) M1 := (rfl)
theorem lstE_ap (a : EM (List T)) : lstE a ρ M = (a ρ M).bind fun ts M1 => .ok (.lst ts) M1 := (rfl)
theorem compF_ap (mi : EM (List T)) (g : GM) (tt : EM Bool) (te : EM T) (vs : List Nat) : compF mi g tt te vs ρ M = (mi ρ M).bind fun ts M1 => compL g tt te (wipeR ρ vs) ts [] M1 := (rfl)
theorem dispF_ap (m : EM (List T)) : dispF m ρ M = (m ρ M).bind fun ts M1 => if ts.length ≤ sizeLine then .ok ts M1 else .stuck := by
  unfold dispF bindE
  congr 1
  funext t M1
  exact ite_ap _ _
theorem nilX_ap : nilX ρ M = .ok [] M := (rfl)
theorem valX_ap (a : EM T) (b : EM (List Slot)) : valX a b ρ M = (a ρ M).bind fun t M1 => (b ρ M1).bind fun ts M2 => .ok (.val t :: ts) M2 := (rfl)
theorem ownX_ap (a : EM (List T)) (b : EM (List Slot)) : ownX a b ρ M = (a ρ M).bind fun t M1 => (b ρ M1).bind fun ts M2 => .ok (.own t :: ts) M2 := (rfl)
def seqK (b : SM) : RS → RS
  | .nx ρ M => b ρ M
  | r => r
theorem seqS_ap (a b : SM) : seqS a b ρ M = seqK b (a ρ M) := by unfold seqS seqK; rfl
theorem seqK_nx (b : SM) : seqK b (.nx ρ M) = b ρ M := (rfl)
theorem seqK_ret (b : SM) (t : T) : seqK b (.ret t M) = .ret t M := (rfl)
theorem exprS_ap (m : EM T) : exprS m ρ M = (m ρ M).toS ρ fun _ M1 => .nx ρ M1 := (rfl)
theorem retS_ap (m : EM T) : retS m ρ M = (m ρ M).toS ρ fun t M1 => .ret t M1 := (rfl)
theorem setS_ap (i : Nat) (m : EM T) : setS i m ρ M = (m ρ M).toS ρ fun t M1 => .nx (ρ.set i (.val t)) M1 := (rfl)
theorem ifS_ap (c : EM Bool) (a b : SM) : ifS c a b ρ M = (c ρ M).toS ρ fun k M1 => if k = true then a ρ M1 else b ρ M1 := (rfl)
theorem nextS_ap : nextS ρ M = .nx ρ M := (rfl)
theorem forS_ap (mi : EM (List T)) (g : GM) (body : SM) : forS mi g body ρ M = (mi ρ M).toS ρ fun ts M1 => forL g body ts ρ M1 := (rfl)
def optS : Option (List Slot) → Sto → RS
  | some ρ => .nx ρ
  | none => fun _ => .stuck
theorem optS_some : optS (some ρ) M = .nx ρ M := (rfl)
theorem asgS_ap (m : EM T) (g : GM) : asgS m g ρ M = (m ρ M).toS ρ fun t M1 => optS (g t ρ) M1 := by
  unfold asgS
  congr 1
  funext t M1
  cases g t ρ <;> rfl
def augK (i : Nat) (ρ : List Slot) : Option T → Sto → RS
  | some t => .nx (ρ.set i (.val t))
  | none => fun _ => .stuck
theorem augK_some (i : Nat) (t : T) : augK i ρ (some t) M = .nx (ρ.set i (.val t)) M := (rfl)
theorem augS_ap (i : Nat) (m : EM T) (f : T → T → Option T) : augS i m f ρ M = match ρ[i]? with
  | some (.val x) => (m ρ M).toS ρ fun y M2 => augK i ρ (f x y) M2
  | _ => .stuck := by
  unfold augS
  cases ρ[i]? with
  | none => rfl
  | some sl =>
    cases sl <;> try rfl
    simp only
    congr 1
    funext y M2
    cases f _ y <;> rfl
theorem forL_nil (g : GM) (b : SM) : forL g b [] ρ M = .nx ρ M := (rfl)
def runK : RS → R T
  | .nx _ M => .ok .non M
  | .ret t M => .ok t M
  | .exc e _ M => .exc e M
  | _ => .stuck
theorem runF_ap (n : Nat) (m : SM) (ts : List T) : runF n m ts M = runK (m (ts.map Slot.val ++ List.replicate (n - ts.length) .un) M) := by unfold runF runK; rfl
theorem runK_ret (t : T) : runK (.ret t M) = .ok t M := (rfl)
theorem runK_nx : runK (.nx ρ M) = .ok .non M := (rfl)
theorem nameG_ap (i : Nat) (t : T) : nameG i t ρ = some (ρ.set i (.val t)) := (rfl)
end
def forK (g : GM) (b : SM) (ts : List T) : RS → RS
  | .nx ρ M => forL g b ts ρ M
  | .ct ρ M => forL g b ts ρ M
  | .brk ρ M => .nx ρ M
  | .ret t M => .ret t M
  | .exc e ρ M => .exc e ρ M
  | .stuck => .stuck
theorem forL_cons {g : GM} {b : SM} {t : T} {ts : List T} {ρ ρ1 : List Slot} {M : Sto} (h : g t ρ = some ρ1) : forL g b (t :: ts) ρ M = forK g b ts (b ρ1 M) := by
  rw [forL]; simp only [h]; unfold forK; rfl
theorem forL_name {b : SM} {i : Nat} {t : T} {ts : List T} {ρ : List Slot} {M : Sto} : forL (nameG i) b (t :: ts) ρ M = forK (nameG i) b ts (b (ρ.set i (.val t)) M) := forL_cons rfl
theorem forK_nx {g : GM} {b : SM} {ts : List T} {ρ : List Slot} {M : Sto} : forK g b ts (.nx ρ M) = forL g b ts ρ M := (rfl)
theorem forK_ret {g : GM} {b : SM} {ts : List T} {t : T} {M : Sto} : forK g b ts (.ret t M) = .ret t M := (rfl)

theorem lenT_tup (ts : List T) : lenT [.tup ts] = some (.int ts.length) := (rfl)
theorem lenT_lst (ts : List T) : lenT [.lst ts] = some (.int ts.length) := (rfl)
theorem seqItems_tup (ts : List T) : seqItems (.tup ts) = some ts := (rfl)
theorem seqItems_lst (ts : List T) : seqItems (.lst ts) = some ts := (rfl)
theorem tupleT_lst (ts : List T) : tupleT [.lst ts] = some (.tup ts) := (rfl)
theorem listT_lst (ts : List T) : listT [.lst ts] = some (.lst ts) := (rfl)
theorem addT_int (i j : Int) : addT (.int i) (.int j) = some (.int (i + j)) := (rfl)
theorem subT_int (i j : Int) : subT (.int i) (.int j) = some (.int (i - j)) := (rfl)
theorem mulT_int {i j : Int} (h : mulOk i j = true) : mulT (.int i) (.int j) = some (.int (i * j)) := by simp [mulT, h]
theorem modT_int {i j : Int} (h : 0 < j) : modT (.int i) (.int j) = some (.int (i % j)) := by simp [modT, intT, h]
theorem fdivT_int {i j : Int} (h : 0 < j) (h2 : j < 2 ^ 64) : fdivT (.int i) (.int j) = some (.int (i / j)) := by
  have : j.natAbs.log2 < 9000 := by
    have h4 : j.natAbs < 2 ^ 9000 := Nat.lt_of_lt_of_le (show j.natAbs < 2 ^ 64 by omega) (Nat.pow_le_pow_right (n := 2) (i := 64) (j := 9000) (by decide) (by decide))
    exact (Nat.log2_lt (by omega)).mpr h4
  simp [fdivT, intT, h, this]
theorem ltT_int (i j : Int) : ltT (.int i) (.int j) = some (.bl (decide (i < j))) := (rfl)
theorem leT_int (i j : Int) : leT (.int i) (.int j) = some (.bl (decide (i ≤ j))) := (rfl)
theorem gtT_int (i j : Int) : gtT (.int i) (.int j) = some (.bl (decide (j < i))) := (rfl)
theorem geT_int (i j : Int) : geT (.int i) (.int j) = some (.bl (decide (j ≤ i))) := (rfl)
theorem truT_bl (b : Bool) : truT (.bl b) = some b := (rfl)
theorem truT_int (i : Int) : truT (.int i) = some (i != 0) := (rfl)
theorem blT_bl (b : Bool) : blT (.bl b) = some b := (rfl)
theorem notT_bl (b : Bool) : notT (.bl b) = some (.bl (!b)) := (rfl)
theorem int1T_int (i : Int) : int1T [.int i] = some (.int i) := (rfl)
theorem addI_int (i j : Int) : addI (.int i) (.int j) = some (.int (i + j)) := (rfl)
theorem mulI_int {i j : Int} (h : -(2 ^ 64) < j ∧ j < 2 ^ 64) : mulI (.int i) (.int j) = some (.int (i * j)) := by
  unfold mulI intT
  simp only
  rw [decide_eq_true h.1, decide_eq_true h.2]; simp
theorem fdivI_int {i j : Int} (h : 0 < j ∧ j < 1073741824) : fdivI (.int i) (.int j) = some (.int (i / j)) := by
  unfold fdivI intT
  simp [h.1, h.2]
theorem tupT_of {ts : List T} (h : ts.length ≤ 1000000) : tupT ts = some (.tup ts) := by unfold tupT; rw [if_pos (by rw [line_eq]; omega)]
theorem lstT_of {ts : List T} (h : ts.length ≤ 1000000) : lstT ts = some (.lst ts) := by unfold lstT; rw [if_pos (by rw [line_eq]; omega)]
theorem mulOk_r {i j : Int} (h : -(2 ^ 64) < j ∧ j < 2 ^ 64) : mulOk i j = true := by
  unfold mulOk
  rw [decide_eq_true h.1, decide_eq_true h.2]; simp
theorem mulOk_l {i j : Int} (h : -(2 ^ 64) < i ∧ i < 2 ^ 64) : mulOk i j = true := by
  unfold mulOk
  rw [decide_eq_true h.1, decide_eq_true h.2]; simp
theorem sumT_tup (xs : List Int) : sumT [.tup (xs.map T.int)] = some (.int xs.sum) := by rw [sumT, intsT_map]; rfl
theorem sumT_ints (xs : List Int) : sumT [.lst (xs.map T.int)] = some (.int xs.sum) := by rw [sumT, intsT_map]; rfl
theorem allT_true {α : Type} (xs : List α) : allT [.lst (xs.map fun _ => T.bl true)] = some (.bl true) := by
  have : (xs.map fun _ => T.bl true) = (xs.map fun _ => true).map T.bl := by simp
  rw [this, allT, blsT_map]
  simp
theorem atI_nat {α : Type} (xs : List α) (i : Nat) (h : i < xs.length) : L2.atI xs (i : Int) = xs[i]? := by
  unfold L2.atI L2.ixN
  simp [h]
theorem sub_sq {b : Bool} {t : List Int} {i : Nat} (h : i < t.length) {ρ : List Slot} {ma mb : EM T} {M M1 M2 : Sto} (h1 : ma ρ M = .ok (sq b (t.map T.int)) M1) (h2 : mb ρ M1 = .ok (.int (i : Nat)) M2) : subE ma mb ρ M = .ok (.int (t.getD i 0)) M2 := by
  have e : L2.atI (t.map T.int) (i : Int) = some (.int (t.getD i 0)) := by
    rw [atI_nat _ _ (by simpa using h)]
    simp [h]
  unfold subE bindE
  rw [h1]; simp only [R.bind]; rw [h2]; simp only
  cases b <;> simp [sq, ixT, e, optE]
theorem zipL_map {α β : Type} (f : α → T) (g : β → T) : ∀ (a : List α) (b : List β), zipL (a.map f) (b.map g) = (a.zip b).map fun q => T.tup [f q.1, g q.2]
  | [], _ => by simp [zipL]
  | _ :: _, [] => by simp [zipL]
  | x :: a, y :: b => by
    have ih := zipL_map f g a b
    unfold zipL at ih ⊢
    simp only [List.map_cons, List.zip_cons_cons, ih]
theorem zip2_map {α β : Type} {f : α → T} {g : β → T} {x y : T} {a : List α} {b : List β} (hx : seqItems x = some (a.map f)) (hy : seqItems y = some (b.map g)) : zip2 [x, y] = some ((a.zip b).map fun q => T.tup [f q.1, g q.2]) := by
  unfold zip2
  simp only [hx, hy, Option.bind_some, Option.map_some, zipL_map]
theorem tupG_two {i j : Nat} {t u : T} {ρ : List Slot} : tupG 2 (consG (nameG i) (consG (nameG j) nilG)) (.tup [t, u]) ρ = some ((ρ.set i (.val t)).set j (.val u)) := by rfl
theorem powT_int {i j : Int} (h : 0 ≤ j) (h1 : j ≤ 1000000) (h2 : i.natAbs < 2 ^ 64) : powT (.int i) (.int j) = some (.int (i ^ j.toNat)) := by
  unfold powT intT
  simp only
  rw [decide_eq_true h, decide_eq_true h1, decide_eq_true h2]; simp
theorem sub_lst {ts : List T} {i : Nat} {t : T} (h : ts[i]? = some t) {ρ : List Slot} {ma mb : EM T} {M M1 M2 : Sto} (h1 : ma ρ M = .ok (.lst ts) M1) (h2 : mb ρ M1 = .ok (.int (i : Nat)) M2) : subE ma mb ρ M = .ok t M2 := by
  have hi : i < ts.length := (List.getElem?_eq_some_iff.mp h).1
  have e : L2.atI ts (i : Int) = some t := by rw [atI_nat _ _ hi, h]
  unfold subE bindE
  rw [h1]; simp only [R.bind]; rw [h2]; simp only [ixT, e, optE]
theorem sub_dict {kvs : List (L2.Key × T)} {i : Nat} {k : Str} {t : T} {ρ : List Slot} {ma mb : EM T} {M M1 M2 : Sto} (h1 : ma ρ M = .ok (.ptr i) M1) (h2 : mb ρ M1 = .ok (.str k) M2) (h3 : M2[i]? = some (.dK kvs)) (h4 : valT kvs (.inr k) = some t) : subE ma mb ρ M = .ok t M2 := by
  unfold subE bindE
  rw [h1]; simp only [R.bind]; rw [h2]; simp only [keyT, h3, h4]
theorem put_dict {kvs : List (L2.Key × T)} {i : Nat} {k : Str} {t : T} {ρ : List Slot} {mv md mk : EM T} {M M1 M2 M3 : Sto} (h0 : mv ρ M = .ok t M1) (h1 : md ρ M1 = .ok (.ptr i) M2) (h2 : mk ρ M2 = .ok (.str k) M3) (h3 : M3[i]? = some (.dK kvs)) (h4 : kvs.length < 1000000) : putS mv md mk ρ M = .nx ρ (M3.set i (.dK (putT kvs (.inr k) t))) := by
  unfold putS
  rw [h0]; simp only [R.toS]; rw [h1]; simp only [R.toS]; rw [h2]; simp only [keyT, h3]
  rw [if_pos (by rw [line_eq]; omega)]
def par2K (i j : Nat) (ρ : List Slot) : List Slot → Sto → RS := fun ts M1 => match ts with
  | [.val t, .val u] => .nx ((ρ.set i (.val t)).set j (.val u)) M1
  | [.own t, .val u] => .nx ((ρ.set i (.own t)).set j (.val u)) M1
  | [.val t, .own u] => .nx ((ρ.set i (.val t)).set j (.own u)) M1
  | [.own t, .own u] => .nx ((ρ.set i (.own t)).set j (.own u)) M1
  | _ => .stuck
theorem par2S_ap {i j : Nat} {m : EM (List Slot)} {ρ : List Slot} {M : Sto} : par2S i j m ρ M = (m ρ M).toS ρ (par2K i j ρ) := (rfl)
theorem par2K_vv {i j : Nat} {ρ : List Slot} {M : Sto} {t u : T} : par2K i j ρ [.val t, .val u] M = .nx ((ρ.set i (.val t)).set j (.val u)) M := (rfl)
def par3K (i j l : Nat) (ρ : List Slot) : List Slot → Sto → RS := fun ts M1 => match ts with
  | [s1, s2, s3] => if (okX s1 && okX s2 && okX s3) = true then .nx (((ρ.set i s1).set j s2).set l s3) M1 else .stuck
  | _ => .stuck
theorem par3S_ap {i j l : Nat} {m : EM (List Slot)} {ρ : List Slot} {M : Sto} : par3S i j l m ρ M = (m ρ M).toS ρ (par3K i j l ρ) := (rfl)
theorem par3K_ovv {i j l : Nat} {ρ : List Slot} {M : Sto} {t : List T} {u v : T} : par3K i j l ρ [.own t, .val u, .val v] M = .nx (((ρ.set i (.own t)).set j (.val u)).set l (.val v)) M := (rfl)
theorem appS_own {i : Nat} {ts : List T} {m : EM T} {ρ : List Slot} {M : Sto} (h : ρ[i]? = some (.own ts)) (hl : ts.length < 1000000) : appS i m ρ M = (m ρ M).toS ρ fun t M1 => .nx (ρ.set i (.own (ts ++ [t]))) M1 := by
  unfold appS
  rw [h]
  simp only
  congr 1
  funext t M1
  rw [if_pos (by rw [line_eq]; omega)]
theorem frzS_own {i : Nat} {ts : List T} {ρ : List Slot} {M : Sto} (h : ρ[i]? = some (.own ts)) : frzS i ρ M = .nx (ρ.set i (.val (.lst ts))) M := by
  unfold frzS
  rw [h]
theorem frzS_val {i : Nat} {t : T} {ρ : List Slot} {M : Sto} (h : ρ[i]? = some (.val t)) : frzS i ρ M = .nx ρ M := by
  unfold frzS
  rw [h]
theorem eqT_pair (a b c d : Int) : eqT (.tup [.int a, .int b]) (.tup [.int c, .int d]) = some (.bl (decide ([a, b] = [c, d]))) := eqT_tup [a, b] [c, d]
theorem neT_pair (a b c d : Int) : neT (.tup [.int a, .int b]) (.tup [.int c, .int d]) = some (.bl (!decide ([a, b] = [c, d]))) := neT_tup [a, b] [c, d]
theorem addT_lst {a b : List T} (h : a.length + b.length ≤ 1000000) : addT (.lst a) (.lst b) = some (.lst (a ++ b)) := by
  unfold addT
  simp only
  rw [if_pos (by rw [line_eq]; omega)]
theorem addT_tup {a b : List T} (h : a.length + b.length ≤ 1000000) : addT (.tup a) (.tup b) = some (.tup (a ++ b)) := by
  unfold addT
  simp only
  rw [if_pos (by rw [line_eq]; omega)]
theorem mulT_tup {a : List T} {k : Nat} (h : a.length * k ≤ 1000000) (hk : k ≤ 1000000) : mulT (.tup a) (.int k) = some (.tup (List.replicate k a).flatten) := by
  unfold mulT
  simp only
  rw [if_pos (by rw [line_eq, Int.toNat_natCast]; omega), Int.toNat_natCast]
theorem tupT_two (x y : T) : tupT [x, y] = some (.tup [x, y]) := tupT_of (by decide : 2 ≤ 1000000)
theorem tupT_one (x : T) : tupT [x] = some (.tup [x]) := tupT_of (by decide : 1 ≤ 1000000)
theorem lstT_one (x : T) : lstT [x] = some (.lst [x]) := lstT_of (by decide : 1 ≤ 1000000)
theorem lstT_two (x y : T) : lstT [x, y] = some (.lst [x, y]) := lstT_of (by decide : 2 ≤ 1000000)
theorem tupG_three {i j k : Nat} {t u v : T} {ρ : List Slot} : tupG 3 (consG (nameG i) (consG (nameG j) (consG (nameG k) nilG))) (.tup [t, u, v]) ρ = some (((ρ.set i (.val t)).set j (.val u)).set k (.val v)) := by rfl
theorem seqG_two {i j : Nat} {t u : T} {ρ : List Slot} : seqG 2 (consG (nameG i) (consG (nameG j) nilG)) (.lst [t, u]) ρ = some ((ρ.set i (.val t)).set j (.val u)) := by rfl
theorem tupT_three (x y z : T) : tupT [x, y, z] = some (.tup [x, y, z]) := tupT_of (by decide : 3 ≤ 1000000)
end TL
end
section
set_option linter.all false
/-! The mirrors of the defs, printed by gen.py. -/
namespace K27
open PySem TL

def m_is_whole : SM := retS (andV (opA (consA (varE 0) (consA (pureE (.ty "int")) (nilA))) isiT) (op1 (opA (consA (varE 0) (consA (pureE (.ty "bool")) (nilA))) isiT) notT))
def f_is_whole : List T → Sto → R T := runF 1 m_is_whole

def m_is_count : SM := retS (andV (callE 1 f_is_whole (consA (varE 0) (nilA))) (op2 (varE 0) (pureE (.int 0)) geT))
def f_is_count : List T → Sto → R T := runF 1 m_is_count

def m_is_prime : SM := seqS (ifS (orB (notB (testE truT (callE 1 f_is_count (consA (varE 0) (nilA))))) (orB (notB (testE blT (chainE leT leT (pureE (.int 5)) (varE 0) (pureE (.int 999999937))))) (orB (testE blT (op2 (op2 (varE 0) (pureE (.int 2)) modT) (pureE (.int 0)) eqT)) (testE blT (op2 (op2 (varE 0) (pureE (.int 3)) modT) (pureE (.int 0)) eqT))))) (retS (pureE (.bl false))) (nextS)) (seqS (setS 1 (pureE (.int 5))) (seqS (whL (testE blT (op2 (op2 (varE 1) (varE 1) mulT) (varE 0) leT)) (seqS (ifS (orB (testE blT (op2 (op2 (varE 0) (varE 1) modT) (pureE (.int 0)) eqT)) (testE blT (op2 (op2 (varE 0) (op2 (varE 1) (pureE (.int 2)) addT) modT) (pureE (.int 0)) eqT))) (retS (pureE (.bl false))) (nextS)) (augS 1 (pureE (.int 6)) addI)) fuel) (retS (pureE (.bl true)))))
def f_is_prime : List T → Sto → R T := runF 2 m_is_prime

def m_need_prime : SM := ifS (notB (testE truT (callE 1 f_is_prime (consA (varE 0) (nilA))))) (stuckS) (nextS)
def f_need_prime : List T → Sto → R T := runF 1 m_need_prime

def m_is_rest_in : SM := retS (andV (callE 1 f_is_count (consA (varE 1) (nilA))) (op2 (varE 1) (varE 0) ltT))
def f_is_rest_in : List T → Sto → R T := runF 2 m_is_rest_in

def m_need_rests : SM := forS (bindO (varE 1) seqItems) (nameG 2) (ifS (notB (testE truT (callE 2 f_is_rest_in (consA (varE 0) (consA (varE 2) (nilA)))))) (stuckS) (nextS))
def f_need_rests : List T → Sto → R T := runF 3 m_need_rests

def m_doubled : SM := seqS (setS 1 (pureE (.int 1))) (seqS (forS (bindO (consA (varE 0) (nilA)) rng1) (nameG 2) (augS 1 (pureE (.int 2)) mulI)) (retS (varE 1)))
def f_doubled : List T → Sto → R T := runF 3 m_doubled

def m_letters_in : SM := seqS (asgS (opA (consA (pureE (.int 0)) (consA (pureE (.int 1)) (nilA))) tupT) (tupG 2 (consG (nameG 1) (consG (nameG 2) (nilG))))) (seqS (whL (testE blT (op2 (varE 2) (varE 0) ltT)) (par2S 1 2 (valX (op2 (varE 1) (pureE (.int 1)) addT) (valX (op2 (pureE (.int 2)) (varE 2) mulT) (nilX)))) fuel) (retS (varE 1)))
def f_letters_in : List T → Sto → R T := runF 3 m_letters_in

def m_are_all_rests : SM := retS (andV (opA (consA (varE 1) (consA (pureE (.ty "tuple")) (nilA))) isiT) (opA (consA (lstE (compF (bindO (varE 1) seqItems) (nameG 2) (yesB) (callE 2 f_is_rest_in (consA (varE 0) (consA (varE 2) (nilA)))) [2])) (nilA)) allT))
def f_are_all_rests : List T → Sto → R T := runF 3 m_are_all_rests

def m_is_table_in : SM := retS (andV (callE 2 f_are_all_rests (consA (varE 0) (consA (varE 1) (nilA)))) (andV (op2 (opA (consA (varE 1) (nilA)) lenT) (pureE (.int 0)) gtT) (op2 (callE 1 f_doubled (consA (callE 1 f_letters_in (consA (opA (consA (varE 1) (nilA)) lenT) (nilA))) (nilA))) (opA (consA (varE 1) (nilA)) lenT) eqT)))
def f_is_table_in : List T → Sto → R T := runF 2 m_is_table_in

def m_need_table : SM := seqS (exprS (callE 1 f_need_prime (consA (varE 0) (nilA)))) (ifS (notB (testE truT (callE 2 f_is_table_in (consA (varE 0) (consA (varE 1) (nilA)))))) (stuckS) (nextS))
def f_need_table : List T → Sto → R T := runF 2 m_need_table

def m_need_point : SM := ifS (orB (notB (testE truT (callE 2 f_are_all_rests (consA (varE 0) (consA (varE 1) (nilA)))))) (testE blT (op2 (opA (consA (varE 1) (nilA)) lenT) (varE 2) neT))) (stuckS) (nextS)
def f_need_point : List T → Sto → R T := runF 3 m_need_point

def m_letters_of : SM := seqS (exprS (callE 2 f_need_table (consA (varE 0) (consA (varE 1) (nilA))))) (retS (callE 1 f_letters_in (consA (opA (consA (varE 1) (nilA)) lenT) (nilA))))
def f_letters_of : List T → Sto → R T := runF 2 m_letters_of

def m_weight_in : SM := seqS (setS 3 (pureE (.int 1))) (seqS (forS (bindO (varE 2) seqItems) (nameG 4) (seqS (setS 3 (op2 (op2 (varE 3) (ifV (testE truT (op2 (varE 1) (pureE (.int 2)) modT)) (varE 4) (op2 (pureE (.int 1)) (varE 4) subT)) mulT) (varE 0) modT)) (augS 1 (pureE (.int 2)) fdivI))) (retS (varE 3)))
def f_weight_in : List T → Sto → R T := runF 5 m_weight_in

def m_corner_weight : SM := seqS (exprS (callE 1 f_need_prime (consA (varE 0) (nilA)))) (seqS (ifS (notB (testE truT (callE 2 f_are_all_rests (consA (varE 0) (consA (varE 2) (nilA)))))) (stuckS) (nextS)) (seqS (ifS (orB (notB (testE truT (callE 1 f_is_count (consA (varE 1) (nilA))))) (testE blT (op2 (varE 1) (callE 1 f_doubled (consA (opA (consA (varE 2) (nilA)) lenT) (nilA))) geT))) (stuckS) (nextS)) (retS (callE 3 f_weight_in (consA (varE 0) (consA (varE 1) (consA (varE 2) (nilA))))))))
def f_corner_weight : List T → Sto → R T := runF 3 m_corner_weight

def m_folded_in : SM := retS (lstE (compF (bindO (consA (pureE (.int 0)) (consA (opA (consA (varE 1) (nilA)) lenT) (consA (pureE (.int 2)) (nilA)))) rng3) (nameG 3) (yesB) (op2 (op2 (subE (varE 1) (varE 3)) (op2 (varE 2) (op2 (subE (varE 1) (op2 (varE 3) (pureE (.int 1)) addT)) (subE (varE 1) (varE 3)) subT) mulT) addT) (varE 0) modT) [3]))
def f_folded_in : List T → Sto → R T := runF 4 m_folded_in

def m_many_in : SM := seqS (forS (bindO (varE 2) seqItems) (nameG 3) (setS 1 (callE 3 f_folded_in (consA (varE 0) (consA (varE 1) (consA (varE 3) (nilA))))))) (retS (subE (varE 1) (pureE (.int 0))))
def f_many_in : List T → Sto → R T := runF 4 m_many_in

def m_worth_many : SM := seqS (exprS (callE 2 f_need_table (consA (varE 0) (consA (varE 1) (nilA))))) (seqS (exprS (callE 3 f_need_point (consA (varE 0) (consA (varE 2) (consA (callE 1 f_letters_in (consA (opA (consA (varE 1) (nilA)) lenT) (nilA))) (nilA)))))) (retS (callE 3 f_many_in (consA (varE 0) (consA (varE 1) (consA (varE 2) (nilA)))))))
def f_worth_many : List T → Sto → R T := runF 3 m_worth_many

def m_many_sum : SM := seqS (exprS (callE 2 f_need_table (consA (varE 0) (consA (varE 1) (nilA))))) (retS (op2 (opA (consA (varE 1) (nilA)) sumT) (varE 0) modT))
def f_many_sum : List T → Sto → R T := runF 2 m_many_sum

def m_line_in : SM := retS (opA (consA (lstE (compF (bindO (consA (varE 1) (consA (varE 2) (nilA))) zip2) (tupG 2 (consG (nameG 4) (consG (nameG 5) (nilG)))) (yesB) (op2 (op2 (varE 4) (op2 (varE 3) (op2 (varE 5) (varE 4) subT) mulT) addT) (varE 0) modT) [4, 5])) (nilA)) tupleT)
def f_line_in : List T → Sto → R T := runF 6 m_line_in

def m_line_point : SM := seqS (exprS (callE 1 f_need_prime (consA (varE 0) (nilA)))) (seqS (forS (bindO (opA (consA (varE 1) (consA (varE 2) (nilA))) tupT) seqItems) (nameG 4) (ifS (notB (testE truT (callE 2 f_are_all_rests (consA (varE 0) (consA (varE 4) (nilA)))))) (stuckS) (nextS))) (seqS (exprS (callE 2 f_need_rests (consA (varE 0) (consA (opA (consA (varE 3) (nilA)) tupT) (nilA))))) (seqS (ifS (testE blT (op2 (opA (consA (varE 1) (nilA)) lenT) (opA (consA (varE 2) (nilA)) lenT) neT)) (stuckS) (nextS)) (retS (callE 4 f_line_in (consA (varE 0) (consA (varE 1) (consA (varE 2) (consA (varE 3) (nilA))))))))))
def f_line_point : List T → Sto → R T := runF 5 m_line_point

def m_along_in : SM := retS (opA (consA (lstE (compF (bindO (consA (op2 (opA (consA (varE 2) (nilA)) lenT) (pureE (.int 1)) addT) (nilA)) rng1) (nameG 4) (yesB) (callE 3 f_many_in (consA (varE 0) (consA (varE 1) (consA (callE 4 f_line_in (consA (varE 0) (consA (varE 2) (consA (varE 3) (consA (varE 4) (nilA)))))) (nilA))))) [4])) (nilA)) tupleT)
def f_along_in : List T → Sto → R T := runF 5 m_along_in

def m_along_line : SM := seqS (exprS (callE 2 f_need_table (consA (varE 0) (consA (varE 1) (nilA))))) (seqS (setS 4 (callE 1 f_letters_in (consA (opA (consA (varE 1) (nilA)) lenT) (nilA)))) (seqS (exprS (callE 3 f_need_point (consA (varE 0) (consA (varE 2) (consA (varE 4) (nilA)))))) (seqS (exprS (callE 3 f_need_point (consA (varE 0) (consA (varE 3) (consA (varE 4) (nilA)))))) (seqS (ifS (testE blT (op2 (varE 4) (varE 0) geT)) (stuckS) (nextS)) (retS (callE 4 f_along_in (consA (varE 0) (consA (varE 1) (consA (varE 2) (consA (varE 3) (nilA)))))))))))
def f_along_line : List T → Sto → R T := runF 5 m_along_line

def m_noughts_in (rec : List T → Sto → R T) : SM := seqS (ifS (testE blT (op2 (opA (consA (varE 1) (nilA)) lenT) (pureE (.int 1)) eqT)) (retS (ifV (testE blT (op2 (subE (varE 1) (pureE (.int 0))) (pureE (.int 0)) eqT)) (pureE (.int 1)) (pureE (.int 0)))) (nextS)) (retS (opA (consA (lstE (compF (bindO (consA (varE 0) (nilA)) rng1) (nameG 2) (yesB) (callE 2 rec (consA (varE 0) (consA (callE 3 f_folded_in (consA (varE 0) (consA (varE 1) (consA (varE 2) (nilA))))) (nilA)))) [2])) (nilA)) sumT))
def r_noughts_in : Nat → List T → Sto → R T
  | 0 => fun _ _ => .stuck
  | n + 1 => runF 3 (m_noughts_in (r_noughts_in n))
def f_noughts_in : List T → Sto → R T := r_noughts_in 20

def m_noughts_of : SM := seqS (exprS (callE 2 f_need_table (consA (varE 0) (consA (varE 1) (nilA))))) (retS (callE 2 f_noughts_in (consA (varE 0) (consA (varE 1) (nilA)))))
def f_noughts_of : List T → Sto → R T := runF 2 m_noughts_of

def m__law_pen : SM := seqS (setS 1 (pureE (.int 0))) (seqS (forS (bindO (varE 0) seqItems) (nameG 2) (setS 1 (op2 (opA (consA (op2 (op2 (varE 1) (pureE (.int 211)) mulT) (varE 2) addT) (nilA)) int1T) (pureE (.int 1000000409)) modT))) (retS (dictE ((("cells" : Str), opA (consA (varE 0) (nilA)) listT) :: (("at" : Str), pureE (.int 0)) :: (("digits" : Str), pureE (.int 0)) :: (("count" : Str), pureE (.int 0)) :: (("fold" : Str), varE 1) :: []))))
def f__law_pen : List T → Sto → R T := runF 3 m__law_pen

def m__law_draw : SM := seqS (putS (op2 (subE (varE 0) (pureE (.str ("count" : Str)))) (pureE (.int 1)) addT) (varE 0) (pureE (.str ("count" : Str)))) (seqS (ifS (andB (testE blT (op2 (subE (varE 0) (pureE (.str ("digits" : Str)))) (pureE (.int 0)) eqT)) (testE blT (op2 (subE (varE 0) (pureE (.str ("at" : Str)))) (opA (consA (subE (varE 0) (pureE (.str ("cells" : Str)))) (nilA)) lenT) ltT))) (seqS (setS 3 (subE (subE (varE 0) (pureE (.str ("cells" : Str)))) (subE (varE 0) (pureE (.str ("at" : Str)))))) (seqS (putS (op2 (subE (varE 0) (pureE (.str ("at" : Str)))) (pureE (.int 1)) addT) (varE 0) (pureE (.str ("at" : Str)))) (ifS (testE blT (op2 (varE 3) (op2 (pureE (.int 10)) (pureE (.int 18)) powT) geT)) (putS (op2 (varE 3) (op2 (pureE (.int 10)) (pureE (.int 18)) powT) subT) (varE 0) (pureE (.str ("digits" : Str)))) (putS (op2 (opA (consA (op2 (op2 (subE (varE 0) (pureE (.str ("fold" : Str)))) (pureE (.int 60289)) mulT) (varE 3) addT) (nilA)) int1T) (pureE (.int 2147483563)) modT) (varE 0) (pureE (.str ("fold" : Str))))))) (nextS)) (seqS (ifS (testE blT (op2 (subE (varE 0) (pureE (.str ("digits" : Str)))) (pureE (.int 0)) gtT)) (seqS (setS 4 (op2 (opA (consA (subE (varE 0) (pureE (.str ("digits" : Str)))) (nilA)) int1T) (varE 1) modT)) (seqS (putS (op2 (subE (varE 0) (pureE (.str ("digits" : Str)))) (varE 1) fdivT) (varE 0) (pureE (.str ("digits" : Str)))) (retS (varE 4)))) (nextS)) (seqS (setS 2 (op2 (op2 (subE (varE 0) (pureE (.str ("fold" : Str)))) (op2 (subE (varE 0) (pureE (.str ("count" : Str)))) (pureE (.int 7907)) mulT) addT) (pureE (.int 67)) addT)) (retS (op2 (op2 (opA (consA (op2 (op2 (varE 2) (pureE (.int 11)) powT) (pureE (.int 2305843009213693951)) modT) (nilA)) int1T) (pureE (.int 128)) fdivT) (varE 1) modT)))))
def f__law_draw : List T → Sto → R T := runF 5 m__law_draw

def m__law_pick : SM := retS (subE (varE 1) (callE 2 f__law_draw (consA (varE 0) (consA (opA (consA (varE 1) (nilA)) lenT) (nilA)))))
def f__law_pick : List T → Sto → R T := runF 2 m__law_pick

def m__law_row : SM := retS (opA (consA (lstE (compF (bindO (consA (varE 2) (nilA)) rng1) (nameG 3) (yesB) (callE 2 f__law_pick (consA (varE 0) (consA (opA (consA (pureE (.int 0)) (consA (pureE (.int 1)) (consA (op2 (varE 1) (pureE (.int 1)) subT) (consA (callE 2 f__law_draw (consA (varE 0) (consA (varE 1) (nilA)))) (nilA))))) lstT) (nilA)))) [3])) (nilA)) tupleT)
def f__law_row : List T → Sto → R T := runF 4 m__law_row

def m__law_raised : SM := seqS (setS 2 (pureE (.int 1))) (seqS (forS (bindO (consA (varE 1) (nilA)) rng1) (nameG 3) (setS 2 (op2 (varE 2) (varE 0) mulT))) (retS (varE 2)))
def f__law_raised : List T → Sto → R T := runF 4 m__law_raised

def m__law_products_right : SM := seqS (par3S 5 6 7 (ownX (dispF (nilA)) (valX (opA (consA (pureE (.int 1)) (nilA)) lstT) (valX (pureE (.int 1)) (nilX))))) (seqS (forS (bindO (consA (varE 2) (nilA)) rng1) (nameG 3) (seqS (asgS (opA (consA (callE 2 f__law_pick (consA (varE 0) (consA (opA (consA (pureE (.int 0)) (consA (pureE (.int 1)) (consA (callE 2 f__law_draw (consA (varE 0) (consA (varE 1) (nilA)))) (nilA)))) lstT) (nilA)))) (consA (callE 2 f__law_pick (consA (varE 0) (consA (opA (consA (pureE (.int 0)) (consA (pureE (.int 1)) (consA (op2 (varE 1) (pureE (.int 1)) subT) (consA (callE 2 f__law_draw (consA (varE 0) (consA (varE 1) (nilA)))) (nilA))))) lstT) (nilA)))) (nilA))) tupT) (tupG 2 (consG (nameG 11) (consG (nameG 12) (nilG))))) (seqS (appS 5 (opA (consA (varE 11) (consA (varE 12) (nilA))) tupT)) (seqS (setS 6 (op2 (lstE (compF (bindO (varE 6) seqItems) (nameG 13) (yesB) (op2 (opA (consA (op2 (varE 13) (varE 11) mulT) (nilA)) int1T) (varE 1) modT) [13])) (lstE (compF (bindO (varE 6) seqItems) (nameG 13) (yesB) (op2 (opA (consA (op2 (varE 13) (op2 (varE 11) (varE 12) addT) mulT) (nilA)) int1T) (varE 1) modT) [13])) addT)) (setS 7 (op2 (varE 7) (ifV (testE blT (op2 (opA (consA (varE 11) (consA (varE 12) (nilA))) tupT) (opA (consA (pureE (.int 0)) (consA (pureE (.int 0)) (nilA))) tupT) eqT)) (pureE (.int 0)) (ifV (testE blT (op2 (varE 12) (pureE (.int 0)) eqT)) (varE 1) (op2 (varE 1) (pureE (.int 1)) subT))) mulT)))))) (seqS (ifS (orB (testE blT (op2 (callE 2 f_noughts_of (consA (varE 1) (consA (opA (consA (varE 6) (nilA)) tupleT) (nilA)))) (op2 (callE 2 f__law_raised (consA (varE 1) (consA (varE 2) (nilA)))) (varE 7) subT) neT)) (testE blT (op2 (callE 2 f_letters_of (consA (varE 1) (consA (opA (consA (varE 6) (nilA)) tupleT) (nilA)))) (varE 2) neT))) (retS (pureE (.bl false))) (nextS)) (seqS (par2S 8 9 (valX (callE 3 f__law_row (consA (varE 0) (consA (varE 1) (consA (varE 2) (nilA))))) (valX (pureE (.int 1)) (nilX)))) (seqS (frzS 5) (seqS (forS (bindO (consA (varE 8) (consA (varE 5) (nilA))) zip2) (tupG 2 (consG (nameG 10) (consG (tupG 2 (consG (nameG 11) (consG (nameG 12) (nilG)))) (nilG)))) (setS 9 (op2 (opA (consA (op2 (varE 9) (op2 (varE 11) (op2 (varE 12) (varE 10) mulT) addT) mulT) (nilA)) int1T) (varE 1) modT))) (seqS (setS 4 (pureE (.int 1))) (seqS (frzS 5) (seqS (forS (bindO (varE 5) seqItems) (tupG 2 (consG (nameG 11) (consG (nameG 12) (nilG)))) (setS 4 (op2 (opA (consA (op2 (varE 4) (op2 (op2 (pureE (.int 2)) (varE 11) mulT) (varE 12) addT) mulT) (nilA)) int1T) (varE 1) modT))) (retS (andV (op2 (callE 3 f_worth_many (consA (varE 1) (consA (opA (consA (varE 6) (nilA)) tupleT) (consA (varE 8) (nilA))))) (varE 9) eqT) (op2 (callE 2 f_many_sum (consA (varE 1) (consA (opA (consA (varE 6) (nilA)) tupleT) (nilA)))) (varE 4) eqT)))))))))))
def f__law_products_right : List T → Sto → R T := runF 14 m__law_products_right

def m__law_bound_right : SM := seqS (setS 3 (callE 2 f__law_raised (consA (pureE (.int 2)) (consA (varE 2) (nilA))))) (seqS (par2S 8 9 (valX (callE 2 f__law_draw (consA (varE 0) (consA (varE 3) (nilA)))) (valX (op2 (pureE (.int 1)) (callE 2 f__law_draw (consA (varE 0) (consA (op2 (varE 1) (pureE (.int 1)) subT) (nilA)))) addT) (nilX)))) (seqS (setS 4 (op2 (op2 (op2 (opA (consA (pureE (.int 0)) (nilA)) tupT) (varE 8) mulT) (opA (consA (varE 9) (nilA)) tupT) addT) (op2 (opA (consA (pureE (.int 0)) (nilA)) tupT) (op2 (op2 (varE 3) (varE 8) subT) (pureE (.int 1)) subT) mulT) addT)) (seqS (setS 5 (op2 (callE 2 f__law_raised (consA (varE 1) (consA (varE 2) (nilA)))) (callE 2 f__law_raised (consA (op2 (varE 1) (pureE (.int 1)) subT) (consA (varE 2) (nilA)))) subT)) (seqS (ifS (orB (testE blT (op2 (callE 2 f_noughts_of (consA (varE 1) (consA (varE 4) (nilA)))) (varE 5) neT)) (testE blT (op2 (callE 2 f_noughts_of (consA (varE 1) (consA (op2 (opA (consA (pureE (.int 0)) (nilA)) tupT) (varE 3) mulT) (nilA)))) (callE 2 f__law_raised (consA (varE 1) (consA (varE 2) (nilA)))) neT))) (retS (pureE (.bl false))) (nextS)) (seqS (ifS (testE blT (op2 (callE 2 f_noughts_of (consA (varE 1) (consA (op2 (opA (consA (varE 9) (nilA)) tupT) (varE 3) mulT) (nilA)))) (pureE (.int 0)) neT)) (retS (pureE (.bl false))) (nextS)) (seqS (setS 6 (opA (consA (lstE (compF (bindO (consA (varE 3) (nilA)) rng1) (nameG 10) (yesB) (callE 2 f__law_pick (consA (varE 0) (consA (opA (consA (pureE (.int 0)) (consA (pureE (.int 0)) (consA (callE 2 f__law_draw (consA (varE 0) (consA (varE 1) (nilA)))) (nilA)))) lstT) (nilA)))) [10])) (nilA)) tupleT)) (seqS (ifS (andB (testE blT (op2 (varE 6) (op2 (opA (consA (pureE (.int 0)) (nilA)) tupT) (varE 3) mulT) neT)) (testE blT (op2 (callE 2 f_noughts_of (consA (varE 1) (consA (varE 6) (nilA)))) (varE 5) gtT))) (retS (pureE (.bl false))) (nextS)) (seqS (setS 7 (callE 3 f__law_row (consA (varE 0) (consA (varE 1) (consA (varE 2) (nilA)))))) (retS (op2 (callE 3 f_worth_many (consA (varE 1) (consA (varE 4) (consA (varE 7) (nilA))))) (op2 (opA (consA (op2 (varE 9) (callE 3 f_corner_weight (consA (varE 1) (consA (varE 8) (consA (varE 7) (nilA))))) mulT) (nilA)) int1T) (varE 1) modT) eqT))))))))))
def f__law_bound_right : List T → Sto → R T := runF 11 m__law_bound_right

def m__law_sums_right : SM := seqS (asgS (opA (consA (callE 2 f__law_raised (consA (pureE (.int 2)) (consA (varE 2) (nilA)))) (consA (callE 2 f__law_draw (consA (varE 0) (consA (varE 1) (nilA)))) (consA (lstE (compF (bindO (consA (varE 2) (nilA)) rng1) (nameG 15) (yesB) (op2 (pureE (.int 1)) (callE 2 f__law_draw (consA (varE 0) (consA (op2 (varE 1) (pureE (.int 1)) subT) (nilA)))) addT) [15])) (nilA)))) tupT) (tupG 3 (consG (nameG 7) (consG (nameG 8) (consG (nameG 9) (nilG)))))) (seqS (setS 3 (opA (consA (varE 8) (nilA)) lstT)) (seqS (forS (bindO (varE 9) seqItems) (nameG 4) (setS 3 (op2 (varE 3) (lstE (compF (bindO (varE 3) seqItems) (nameG 17) (yesB) (op2 (opA (consA (op2 (varE 17) (varE 4) addT) (nilA)) int1T) (varE 1) modT) [17])) addT))) (seqS (ifS (testE blT (op2 (callE 2 f_noughts_of (consA (varE 1) (consA (opA (consA (varE 3) (nilA)) tupleT) (nilA)))) (ifV (testE blT (op2 (varE 2) (pureE (.int 0)) gtT)) (callE 2 f__law_raised (consA (varE 1) (consA (op2 (varE 2) (pureE (.int 1)) subT) (nilA)))) (ifV (testE blT (op2 (varE 8) (pureE (.int 0)) eqT)) (pureE (.int 1)) (pureE (.int 0)))) neT)) (retS (pureE (.bl false))) (nextS)) (seqS (par2S 10 11 (valX (callE 3 f__law_row (consA (varE 0) (consA (varE 1) (consA (varE 2) (nilA))))) (valX (callE 3 f__law_row (consA (varE 0) (consA (varE 1) (consA (varE 2) (nilA))))) (nilX)))) (seqS (asgS (lstE (compF (bindO (opA (consA (varE 10) (consA (varE 11) (nilA))) lstT) seqItems) (nameG 14) (yesB) (op2 (opA (consA (op2 (varE 8) (opA (consA (lstE (compF (bindO (consA (varE 9) (consA (varE 14) (nilA))) zip2) (tupG 2 (consG (nameG 18) (consG (nameG 19) (nilG)))) (yesB) (op2 (varE 18) (varE 19) mulT) [18, 19])) (nilA)) sumT) addT) (nilA)) int1T) (varE 1) modT) [14])) (seqG 2 (consG (nameG 12) (consG (nameG 13) (nilG))))) (seqS (ifS (orB (testE blT (op2 (callE 3 f_worth_many (consA (varE 1) (consA (opA (consA (varE 3) (nilA)) tupleT) (consA (varE 10) (nilA))))) (varE 12) neT)) (testE blT (op2 (opA (consA (varE 3) (nilA)) lenT) (varE 7) neT))) (retS (pureE (.bl false))) (nextS)) (seqS (setS 5 (opA (consA (lstE (compF (bindO (consA (op2 (varE 2) (pureE (.int 1)) addT) (nilA)) rng1) (nameG 16) (yesB) (op2 (opA (consA (op2 (varE 12) (op2 (varE 16) (op2 (varE 13) (varE 12) subT) mulT) addT) (nilA)) int1T) (varE 1) modT) [16])) (nilA)) tupleT)) (seqS (setS 6 (callE 4 f_along_line (consA (varE 1) (consA (opA (consA (varE 3) (nilA)) tupleT) (consA (varE 10) (consA (varE 11) (nilA))))))) (seqS (ifS (orB (testE blT (op2 (varE 6) (varE 5) neT)) (andB (testE blT (op2 (varE 2) (pureE (.int 0)) gtT)) (testE blT (op2 (opA (consA (subE (varE 6) (pureE (.int 0))) (consA (subE (varE 6) (pureE (.int 1))) (nilA))) tupT) (opA (consA (varE 12) (consA (varE 13) (nilA))) tupT) neT)))) (retS (pureE (.bl false))) (nextS)) (retS (andV (op2 (callE 4 f_line_point (consA (varE 1) (consA (varE 10) (consA (varE 11) (consA (pureE (.int 0)) (nilA)))))) (varE 10) eqT) (op2 (callE 4 f_line_point (consA (varE 1) (consA (varE 10) (consA (varE 11) (consA (pureE (.int 1)) (nilA)))))) (varE 11) eqT))))))))))))
def f__law_sums_right : List T → Sto → R T := runF 20 m__law_sums_right

def m_law : SM := seqS (setS 1 (callE 1 f__law_pen (consA (varE 0) (nilA)))) (seqS (forS (bindO (consA (pureE (.int 4)) (nilA)) rng1) (nameG 2) (seqS (asgS (callE 2 f__law_pick (consA (varE 1) (consA (opA (consA (opA (consA (pureE (.int 5)) (consA (pureE (.int 0)) (nilA))) tupT) (consA (opA (consA (pureE (.int 5)) (consA (pureE (.int 3)) (nilA))) tupT) (consA (opA (consA (pureE (.int 5)) (consA (pureE (.int 4)) (nilA))) tupT) (consA (opA (consA (pureE (.int 7)) (consA (pureE (.int 3)) (nilA))) tupT) (consA (opA (consA (pureE (.int 7)) (consA (pureE (.int 4)) (nilA))) tupT) (consA (opA (consA (pureE (.int 11)) (consA (pureE (.int 2)) (nilA))) tupT) (consA (opA (consA (pureE (.int 13)) (consA (pureE (.int 3)) (nilA))) tupT) (consA (opA (consA (pureE (.int 101)) (consA (pureE (.int 1)) (nilA))) tupT) (consA (opA (consA (pureE (.int 101)) (consA (pureE (.int 2)) (nilA))) tupT) (consA (opA (consA (pureE (.int 17)) (consA (pureE (.int 3)) (nilA))) tupT) (nilA))))))))))) lstT) (nilA)))) (tupG 2 (consG (nameG 3) (consG (nameG 4) (nilG))))) (ifS (orB (notB (testE truT (callE 3 f__law_products_right (consA (varE 1) (consA (varE 3) (consA (varE 4) (nilA))))))) (orB (notB (testE truT (callE 3 f__law_bound_right (consA (varE 1) (consA (varE 3) (consA (varE 4) (nilA))))))) (notB (testE truT (callE 3 f__law_sums_right (consA (varE 1) (consA (varE 3) (consA (varE 4) (nilA))))))))) (retS (pureE (.bl false))) (nextS)))) (retS (pureE (.bl true))))
def f_law : List T → Sto → R T := runF 5 m_law

end K27
end
section
set_option linter.all false
set_option autoImplicit false
/-! Tables over the rests of a prime, in plain Lean. -/
namespace K27

/-! ### rests -/
theorem mod_of {A B p : Int} (k : Int) (h : A = B + p * k) : A % p = B % p := by rw [h, Int.add_mul_emod_self_left]
theorem mod_eq (w p : Int) : w % p = w - p * (w / p) := Int.emod_def w p
theorem emm (a b p : Int) : a % p * b % p = a * b % p := by
  rw [mod_eq a p]
  generalize a / p = u
  exact mod_of (-u * b) (by grind)
/-- p is a prime: each rest but 0 has an inverse -/
def Pr (p : Nat) : Prop := 1 < p ∧ ∀ b, b < p → b ≠ 0 → ∃ y, y < p ∧ b * y % p = 1
theorem pr_mk {p : Nat} (h : (decide (1 < p) && (List.range p).all fun b => decide (b = 0) || (List.range p).any fun y => decide (b * y % p = 1)) = true) : Pr p := by
  rw [Bool.and_eq_true] at h
  refine ⟨of_decide_eq_true h.1, fun b hb h0 => ?_⟩
  have h2 := List.all_eq_true.mp h.2 b (List.mem_range.mpr hb)
  rw [Bool.or_eq_true] at h2
  rcases h2 with h2 | h2
  · exact absurd (of_decide_eq_true h2) h0
  · obtain ⟨y, hy, e⟩ := List.any_eq_true.mp h2
    exact ⟨y, List.mem_range.mp hy, of_decide_eq_true e⟩
section
variable {p : Nat}
theorem Pr.pos (h : Pr p) : (0 : Int) < p := by have := h.1; omega
theorem Pr.inv (h : Pr p) {c : Int} (hc : c % p ≠ 0) : ∃ y k : Int, c * y = 1 + p * k := by
  have hp := h.pos
  have h1 := Int.emod_nonneg c (Int.ne_of_gt hp)
  have h2 := Int.emod_lt_of_pos c hp
  obtain ⟨y, _, e⟩ := h.2 (c % p).toNat (by omega) (by omega)
  have e2 : ((c % p).toNat : Int) = c % p := by omega
  have e3 : ((c % p) * (y : Int)) % p = 1 := by rw [← e2]; exact_mod_cast e
  have e4 := mod_eq (c % p * (y : Int)) p
  rw [e3] at e4
  have e5 := mod_eq c p
  refine ⟨y, (c / p) * y + (c % p * (y : Int)) / p, ?_⟩
  generalize c % ↑p * ↑y / ↑p = u at *
  generalize c / ↑p = v at *
  grind
theorem Pr.cancel (h : Pr p) {c v : Int} (hc : c % p ≠ 0) (e : (c * v) % p = 0) : v % p = 0 := by
  obtain ⟨y, k, e1⟩ := h.inv hc
  have e2 := mod_eq (c * v) p
  rw [e] at e2
  have : v = p * (y * ((c * v) / p) - v * k) := by
    generalize c * v / ↑p = u at *
    grind
  rw [this]
  exact Int.mul_emod_right _ _
theorem mul_zero_mod {c v : Int} (e : v % p = 0) : (c * v) % p = 0 := by
  rw [Int.mul_emod, e, Int.mul_zero, Int.zero_emod]
theorem zero_mul_mod {c v : Int} (e : c % p = 0) : (c * v) % p = 0 := by
  rw [Int.mul_emod, e, Int.zero_mul, Int.zero_emod]
theorem rest_self {c : Int} (h0 : 0 ≤ c) (h1 : c < p) : c % p = c := Int.emod_eq_of_lt h0 h1
theorem rest_zero {c : Int} (h0 : 0 ≤ c) (h1 : c < p) : c % p = 0 ↔ c = 0 := by rw [rest_self h0 h1]
theorem nat_of_mod {x y : Nat} (hx : x < p) (hy : y < p) (e : ((x : Int) - y) % p = 0) : x = y := by
  have h := Int.emod_eq_emod_iff_emod_sub_eq_zero.mpr e
  rw [rest_self (by omega) (by omega), rest_self (by omega) (by omega)] at h
  omega

/-- a + b x is 0 at one x -/
theorem Pr.root (h : Pr p) {a b : Int} (hb : b % p ≠ 0) : ∃ x0, x0 < p ∧ ∀ x, x < p → ((a + (x : Int) * b) % p = 0 ↔ x = x0) := by
  have hp := h.pos
  obtain ⟨y, k, e1⟩ := h.inv hb
  have h1 := Int.emod_nonneg (-a * y) (Int.ne_of_gt hp)
  have h2 := Int.emod_lt_of_pos (-a * y) hp
  have h0 : (a + (-a * y % p) * b) % p = 0 := by
    have e2 := mod_eq (-a * y) p
    rw [e2]
    have : a + (-a * y - ↑p * (-a * y / ↑p)) * b = p * (-a * k - (-a * y / ↑p) * b) := by
      generalize -a * y / ↑p = u at *
      grind
    rw [this]; exact Int.mul_emod_right _ _
  refine ⟨(-a * y % p).toNat, by omega, fun x hx => ⟨fun e => ?_, fun e => ?_⟩⟩
  · have e3 : ((-a * y % p).toNat : Int) = -a * y % p := by omega
    refine nat_of_mod hx (by omega) (h.cancel (c := b) hb ?_)
    rw [e3]
    have := Int.emod_eq_emod_iff_emod_sub_eq_zero.mp (e.trans h0.symm)
    have e4 : b * (↑x - -a * y % ↑p) = a + ↑x * b - (a + -a * y % ↑p * b) := by
      generalize -a * y % ↑p = u
      grind
    rw [e4]; exact this
  · have e3 : ((-a * y % p).toNat : Int) = -a * y % p := by omega
    rw [e, e3]; exact h0
end

/-! ### sums over the rests -/
theorem sum_two {f : Nat → Int} {P : Nat → Prop} [DecidablePred P] {A B : Int} : ∀ l : List Nat, (∀ x ∈ l, f x = if P x then A else B) → (l.map f).sum = A * (l.countP fun x => decide (P x)) + B * (l.length - (l.countP fun x => decide (P x)))
  | [], _ => by simp
  | x :: l, h => by
    have ih := sum_two (P := P) l (fun y hy => h y (by simp [hy]))
    rw [List.map_cons, List.sum_cons, ih, h x (by simp), List.countP_cons, List.length_cons]
    by_cases c : P x
    · simp only [c, if_true, decide_true]; push_cast; grind
    · simp only [c, if_false, decide_false]; push_cast; grind
theorem sum_le {f g : Nat → Int} : ∀ l : List Nat, (∀ x ∈ l, f x ≤ g x) → (l.map f).sum ≤ (l.map g).sum
  | [], _ => by simp
  | x :: l, h => by
    have ih := sum_le l (fun y hy => h y (by simp [hy]))
    have := h x (by simp)
    rw [List.map_cons, List.sum_cons, List.map_cons, List.sum_cons]; omega
theorem sum_const {f : Nat → Int} {A : Int} (l : List Nat) (h : ∀ x ∈ l, f x = A) : (l.map f).sum = A * l.length := by
  have := sum_two (f := f) (P := fun _ => True) (A := A) (B := A) l (fun x hx => by rw [h x hx, if_pos trivial])
  rw [this]; grind
theorem count_one {p x0 : Nat} {P : Nat → Prop} [DecidablePred P] (hx : x0 < p) (h : ∀ x, x < p → (P x ↔ x = x0)) : (List.range p).countP (fun x => decide (P x)) = 1 := by
  have : (List.range p).countP (fun x => decide (P x)) = (List.range p).count x0 := by
    unfold List.count
    refine List.countP_congr fun x hm => ?_
    have := h x (List.mem_range.mp hm)
    simp [this]
  rw [this, List.nodup_range.count]
  simp [hx]
theorem sum_one {f : Nat → Int} {A B : Int} {p x0 : Nat} (hx : x0 < p) (h : ∀ x, x < p → f x = if x = x0 then A else B) : ((List.range p).map f).sum = A + B * (p - 1) := by
  rw [sum_two (P := fun x => x = x0) (A := A) (B := B) _ (fun x hm => h x (List.mem_range.mp hm)), count_one hx (fun x _ => Iff.rfl), List.length_range]
  simp

/-! ### tables -/
def fold (p x : Int) : List Int → List Int
  | a :: b :: r => (a + x * (b - a)) % p :: fold p x r
  | _ => []
def N (p : Nat) : Nat → List Int → Int
  | 0, t => if t.headD 0 = 0 then 1 else 0
  | n + 1, t => ((List.range p).map fun (x : Nat) => N p n (fold p (x : Int) t)).sum
def manyL (p : Int) (t : List Int) (zs : List Int) : List Int := zs.foldl (fun t z => fold p z t) t
def stepM (p : Int) (t : List Int) (f : Int × Int) : List Int := t.map (fun w => w * f.1 % p) ++ t.map (fun w => w * (f.1 + f.2) % p)
def stepA (p : Int) (t : List Int) (f : Int) : List Int := t ++ t.map (fun w => (w + f) % p)
section
variable {p : Int}
theorem fold_append (x : Int) : ∀ (m : Nat) (s t : List Int), s.length = 2 * m → fold p x (s ++ t) = fold p x s ++ fold p x t
  | 0, [], t, _ => by simp [fold]
  | m + 1, a :: b :: s, t, h => by
    simp only [List.length_cons] at h
    simp only [List.cons_append, fold, fold_append x m s t (by omega)]
theorem fold_length (x : Int) : ∀ (m : Nat) (s : List Int), s.length = 2 * m → (fold p x s).length = m
  | 0, [], _ => by simp [fold]
  | m + 1, a :: b :: s, h => by
    simp only [List.length_cons] at h
    simp only [fold, List.length_cons, fold_length x m s (by omega)]
theorem fold_mul (x c : Int) : ∀ (m : Nat) (s : List Int), s.length = 2 * m → fold p x (s.map fun w => w * c % p) = (fold p x s).map fun w => w * c % p
  | 0, [], _ => by simp [fold]
  | m + 1, a :: b :: s, h => by
    simp only [List.length_cons] at h
    simp only [fold, List.map_cons, fold_mul x c m s (by omega), List.cons.injEq, and_true]
    have e1 := mod_eq (a * c) p
    have e2 := mod_eq (b * c) p
    have e3 := mod_eq (a + x * (b - a)) p
    rw [e1, e2, e3]
    generalize a * c / p = u1
    generalize b * c / p = u2
    generalize (a + x * (b - a)) / p = u3
    refine mod_of (u3 * c - u1 - x * (u2 - u1)) ?_
    grind
theorem fold_add (x c : Int) : ∀ (m : Nat) (s : List Int), s.length = 2 * m → fold p x (s.map fun w => (w + c) % p) = (fold p x s).map fun w => (w + c) % p
  | 0, [], _ => by simp [fold]
  | m + 1, a :: b :: s, h => by
    simp only [List.length_cons] at h
    simp only [fold, List.map_cons, fold_add x c m s (by omega), List.cons.injEq, and_true]
    have e1 := mod_eq (a + c) p
    have e2 := mod_eq (b + c) p
    have e3 := mod_eq (a + x * (b - a)) p
    rw [e1, e2, e3]
    generalize (a + c) / p = u1
    generalize (b + c) / p = u2
    generalize (a + x * (b - a)) / p = u3
    refine mod_of (u3 - u1 - x * (u2 - u1)) ?_
    grind
theorem stepM_length (t : List Int) (f : Int × Int) : (stepM p t f).length = 2 * t.length := by simp [stepM]; omega
theorem stepA_length (t : List Int) (f : Int) : (stepA p t f).length = 2 * t.length := by simp [stepA]; omega
theorem foldM (x : Int) : ∀ (fs : List (Int × Int)) (m : Nat) (t : List Int), t.length = 2 * m → fold p x (fs.foldl (stepM p) t) = fs.foldl (stepM p) (fold p x t)
  | [], _, _, _ => rfl
  | f :: fs, m, t, h => by
    rw [List.foldl_cons, List.foldl_cons, foldM x fs (2 * m) _ (by rw [stepM_length, h])]
    congr 1
    unfold stepM
    rw [fold_append x m _ _ (by simp [h]), fold_mul x _ m _ h, fold_mul x _ m _ h]
theorem foldA (x : Int) : ∀ (fs : List Int) (m : Nat) (t : List Int), t.length = 2 * m → fold p x (fs.foldl (stepA p) t) = fs.foldl (stepA p) (fold p x t)
  | [], _, _, _ => rfl
  | f :: fs, m, t, h => by
    rw [List.foldl_cons, List.foldl_cons, foldA x fs (2 * m) _ (by rw [stepA_length, h])]
    congr 1
    unfold stepA
    rw [fold_append x m _ _ h, fold_add x _ m _ h]
theorem lengthM : ∀ (fs : List (Int × Int)) (t : List Int), (fs.foldl (stepM p) t).length = 2 ^ fs.length * t.length
  | [], t => by simp
  | f :: fs, t => by rw [List.foldl_cons, lengthM fs, stepM_length, List.length_cons, Nat.pow_succ]; grind
theorem lengthA : ∀ (fs : List Int) (t : List Int), (fs.foldl (stepA p) t).length = 2 ^ fs.length * t.length
  | [], t => by simp
  | f :: fs, t => by rw [List.foldl_cons, lengthA fs, stepA_length, List.length_cons, Nat.pow_succ]; grind
theorem fold_oneM (x c : Int) (f : Int × Int) (fs : List (Int × Int)) : fold p x ((f :: fs).foldl (stepM p) [c]) = fs.foldl (stepM p) [c * (f.1 + x * f.2) % p] := by
  rw [List.foldl_cons, foldM x fs 1 _ (by simp [stepM])]
  congr 1
  simp only [stepM, List.map_cons, List.map_nil, List.cons_append, List.nil_append, fold, List.cons.injEq, and_true]
  have e1 := mod_eq (c * f.1) p
  have e2 := mod_eq (c * (f.1 + f.2)) p
  rw [e1, e2]
  generalize c * f.1 / p = u1
  generalize c * (f.1 + f.2) / p = u2
  refine mod_of (- u1 - x * (u2 - u1)) ?_
  grind
theorem fold_oneA (x c f : Int) (fs : List Int) : fold p x ((f :: fs).foldl (stepA p) [c]) = fs.foldl (stepA p) [(c + x * f) % p] := by
  rw [List.foldl_cons, foldA x fs 1 _ (by simp [stepA])]
  congr 1
  simp only [stepA, List.map_cons, List.map_nil, List.cons_append, List.nil_append, fold, List.cons.injEq, and_true]
  have e2 := mod_eq (c + f) p
  rw [e2]
  generalize (c + f) / p = u2
  refine mod_of (- x * u2) ?_
  grind

/-! ### what a table is worth -/
theorem manyM : ∀ (fs : List (Int × Int)) (zs : List Int) (c : Int), zs.length = fs.length →
    manyL p (fs.foldl (stepM p) [c]) zs = [(zs.zip fs).foldl (fun d q => d * (q.2.1 + q.1 * q.2.2) % p) c]
  | [], [], c, _ => rfl
  | f :: fs, z :: zs, c, h => by
    have ih := manyM fs zs (c * (f.1 + z * f.2) % p) (by simpa using h)
    unfold manyL at ih ⊢
    rw [List.foldl_cons (l := zs), fold_oneM, ih, List.zip_cons_cons, List.foldl_cons]
theorem manyA : ∀ (fs : List Int) (zs : List Int) (c : Int), zs.length = fs.length → 0 ≤ c → c < p →
    manyL p (fs.foldl (stepA p) [c]) zs = [(c + (List.zipWith (· * ·) fs zs).sum) % p]
  | [], [], c, _, h0, h1 => by simp [manyL, Int.emod_eq_of_lt h0 h1]
  | f :: fs, z :: zs, c, h, h0, h1 => by
    have hp : 0 < p := by omega
    have ih := manyA fs zs ((c + z * f) % p) (by simpa using h) (Int.emod_nonneg _ (Int.ne_of_gt hp)) (Int.emod_lt_of_pos _ hp)
    unfold manyL at ih ⊢
    rw [List.foldl_cons (l := zs), fold_oneA, ih]
    simp only [List.zipWith_cons_cons, List.sum_cons, List.cons.injEq, and_true]
    rw [mod_eq (c + z * f) p]
    refine mod_of (- ((c + z * f) / p)) ?_
    grind
theorem sumM : ∀ (fs : List (Int × Int)) (t : List Int), (fs.foldl (stepM p) t).sum % p = fs.foldl (fun d q => d * (2 * q.1 + q.2) % p) (t.sum % p) ∨ fs = []
  | [], t => .inr rfl
  | f :: fs, t => .inl (by
    have e0 : ∀ (c : Int) (s : List Int), (s.map fun w => w * c % p).sum % p = s.sum * c % p := by
      intro c s
      induction s with
      | nil => simp
      | cons a s ih =>
        rw [List.map_cons, List.sum_cons, List.sum_cons, Int.emod_add_emod, Int.add_mul, Int.add_emod, ih, ← Int.add_emod]
    have e1 : (stepM p t f).sum % p = t.sum % p * (2 * f.1 + f.2) % p := by
      unfold stepM
      rw [List.sum_append, Int.add_emod, e0, e0, ← Int.add_emod, emm]
      congr 1; grind
    rcases sumM fs (stepM p t f) with h | h
    · rw [List.foldl_cons, List.foldl_cons, h, e1]
    · rw [h, List.foldl_cons, List.foldl_cons, List.foldl_nil, List.foldl_nil, e1])
end

/-! ### how many noughts -/
def free1 (p : Nat) (f : Int × Int) : Int := if f = (0, 0) then 0 else if f.2 = 0 then p else p - 1
def freeM (p : Nat) (fs : List (Int × Int)) : Int := fs.foldl (fun d f => d * free1 p f) 1
section
variable {p : Nat}
theorem free_mul (p : Nat) : ∀ (fs : List (Int × Int)) (c : Int), fs.foldl (fun d f => d * free1 p f) c = c * freeM p fs
  | [], c => by simp [freeM]
  | f :: fs, c => by
    unfold freeM
    rw [List.foldl_cons, List.foldl_cons, free_mul p fs, free_mul p fs (1 * _)]
    grind
theorem Pr.count (h : Pr p) {a b : Int} (ha0 : 0 ≤ a) (ha : a < p) (hb0 : 0 ≤ b) (hb : b < p) :
    (((List.range p).countP fun (x : Nat) => decide ((a + (x : Int) * b) % p = 0) : Nat) : Int) = p - free1 p (a, b) := by
  unfold free1
  by_cases c : b = 0
  · subst c
    by_cases d : a = 0
    · subst d
      simp
    · have e : ((a, (0 : Int)) = (0, 0)) = False := by simp [d]
      rw [if_neg (by simp [d]), if_pos rfl]
      have : (List.range p).countP (fun (x : Nat) => decide ((a + (x : Int) * 0) % p = 0)) = 0 := by
        rw [List.countP_eq_zero]
        intro x _
        rw [Int.mul_zero, Int.add_zero, rest_self ha0 ha]
        simp [d]
      rw [this]; simp
  · rw [if_neg (by simp [c]), if_neg c]
    have hb' : b % p ≠ 0 := by rw [rest_self hb0 hb]; exact c
    obtain ⟨x0, hx, hr⟩ := h.root (a := a) hb'
    rw [count_one hx hr]
    grind
theorem noughtsM (h : Pr p) : ∀ (fs : List (Int × Int)) (c : Int), (∀ f ∈ fs, 0 ≤ f.1 ∧ f.1 < p ∧ 0 ≤ f.2 ∧ f.2 < p) → 0 ≤ c → c < p →
    N p fs.length (fs.foldl (stepM p) [c]) = (p : Int) ^ fs.length - if c = 0 then 0 else freeM p fs
  | [], c, _, _, _ => by
    simp only [List.length_nil, N, List.foldl_nil, List.headD_cons, freeM]
    by_cases c0 : c = 0 <;> simp [c0]
  | f :: fs, c, hf, h0, h1 => by
    have hp := h.pos
    obtain ⟨a0, a1, b0, b1⟩ := hf f (by simp)
    rw [List.length_cons, N]
    simp only [fold_oneM]
    have e : ∀ x ∈ List.range p, N p fs.length (fs.foldl (stepM p) [c * (f.1 + (x : Int) * f.2) % p]) = if (c * (f.1 + (x : Int) * f.2)) % p = 0 then (p : Int) ^ fs.length else (p : Int) ^ fs.length - freeM p fs := by
      intro x _
      rw [noughtsM h fs _ (fun g hg => hf g (by simp [hg])) (Int.emod_nonneg _ (Int.ne_of_gt hp)) (Int.emod_lt_of_pos _ hp)]
      by_cases c0 : (c * (f.1 + (x : Int) * f.2)) % p = 0 <;> simp [c0]
    rw [sum_two _ e, List.length_range]
    by_cases c0 : c = 0
    · subst c0
      simp
      rw [Int.pow_succ]
    · have e2 : ((List.range p).countP fun (x : Nat) => decide ((c * (f.1 + (x : Int) * f.2)) % p = 0)) = (List.range p).countP fun (x : Nat) => decide ((f.1 + (x : Int) * f.2) % p = 0) := by
        refine List.countP_congr fun x _ => ?_
        simp only [decide_eq_true_eq]
        exact ⟨fun e => h.cancel (by rw [rest_self h0 h1]; exact c0) e, mul_zero_mod⟩
      rw [e2, h.count a0 a1 b0 b1, if_neg c0]
      have e3 : freeM p (f :: fs) = free1 p f * freeM p fs := by
        unfold freeM
        rw [List.foldl_cons, free_mul]
        unfold freeM; grind
      rw [e3, Int.pow_succ]
      grind
theorem noughtsA (h : Pr p) : ∀ (fs : List Int) (c : Int), (∀ f ∈ fs, 0 < f ∧ f < p) → 0 ≤ c → c < p →
    N p fs.length (fs.foldl (stepA p) [c]) = if 0 < fs.length then (p : Int) ^ (fs.length - 1) else if c = 0 then 1 else 0
  | [], c, _, _, _ => by simp [N]
  | f :: fs, c, hf, h0, h1 => by
    have hp := h.pos
    obtain ⟨f0, f1⟩ := hf f (by simp)
    rw [List.length_cons, N]
    simp only [fold_oneA]
    have e : ∀ x ∈ List.range p, N p fs.length (fs.foldl (stepA p) [(c + (x : Int) * f) % p]) = if 0 < fs.length then (p : Int) ^ (fs.length - 1) else if (c + (x : Int) * f) % p = 0 then 1 else 0 := by
      intro x _
      rw [noughtsA h fs _ (fun g hg => hf g (by simp [hg])) (Int.emod_nonneg _ (Int.ne_of_gt hp)) (Int.emod_lt_of_pos _ hp)]
    rw [if_pos (by omega), Nat.add_sub_cancel]
    cases fs with
    | nil =>
      obtain ⟨x0, hx, hr⟩ := h.root (a := c) (b := f) (by rw [rest_self (by omega) f1]; omega)
      rw [sum_one (A := 1) (B := 0) hx (fun x hx => by
        rw [e x (List.mem_range.mpr hx)]
        simp only [List.length_nil, Nat.lt_irrefl, if_false, hr x hx])]
      simp
    | cons g gs =>
      rw [sum_const (A := (p : Int) ^ gs.length) _ (fun x hx => by rw [e x hx]; simp), List.length_range, List.length_cons, Int.pow_succ]

/-! ### one corner -/
def lone (j : Nat) (c : Int) (m : Nat) : List Int := List.replicate j 0 ++ [c] ++ List.replicate (m - j - 1) 0
theorem fold_const (p x c : Int) : ∀ m, fold p x (List.replicate (2 * m) c) = List.replicate m (c % p)
  | 0 => rfl
  | m + 1 => by
    have : 2 * (m + 1) = 2 * m + 1 + 1 := by omega
    rw [this, List.replicate_succ, List.replicate_succ, fold, fold_const p x c m, List.replicate_succ]
    congr 1
    simp
theorem fold_lone (p x c : Int) : ∀ (m j : Nat), j < 2 * m → fold p x (lone j c (2 * m)) = lone (j / 2) (c * (if j % 2 = 1 then x else 1 - x) % p) m
  | m + 1, 0, _ => by
    have e : 2 * (m + 1) - 0 - 1 = 2 * m + 1 := by omega
    simp only [lone, List.replicate_zero, List.nil_append, e, List.replicate_succ, List.cons_append, fold, fold_const, Nat.zero_div, Nat.zero_mod, Int.zero_emod]
    have e2 : m + 1 - 0 - 1 = m := by omega
    rw [e2]
    congr 1
    congr 1
    simp
    grind
  | m + 1, 1, _ => by
    have e : 2 * (m + 1) - 1 - 1 = 2 * m := by omega
    simp only [lone, e, List.replicate_succ, List.replicate_zero, List.cons_append, List.nil_append, fold, fold_const, Int.zero_emod]
    have e2 : m + 1 - 1 / 2 - 1 = m := by omega
    rw [e2]
    simp [Int.mul_comm]
  | m + 1, j + 2, h => by
    have ih := fold_lone p x c m j (by omega)
    unfold lone at ih ⊢
    have e : 2 * (m + 1) - (j + 2) - 1 = 2 * m - j - 1 := by omega
    have e2 : (j + 2) / 2 = j / 2 + 1 := by omega
    have e3 : (j + 2) % 2 = j % 2 := by omega
    have e4 : m + 1 - (j / 2 + 1) - 1 = m - j / 2 - 1 := by omega
    rw [e, e2, e3, e4, List.replicate_succ, List.replicate_succ, List.cons_append, List.cons_append, List.cons_append, List.cons_append, fold, ih, List.replicate_succ, List.cons_append, List.cons_append]
    simp
theorem noughts0 (h : Pr p) : ∀ n : Nat, N p n (List.replicate (2 ^ n) 0) = (p : Int) ^ n
  | 0 => by simp [N]
  | n + 1 => by
    rw [N, sum_const (A := (p : Int) ^ n) _ (fun x _ => by
      have e : 2 ^ (n + 1) = 2 * 2 ^ n := by rw [Nat.pow_succ]; omega
      rw [e, fold_const, Int.zero_emod, noughts0 h n]), List.length_range, Int.pow_succ]
theorem noughtsC (h : Pr p) {c : Int} (h0 : 0 < c) (h1 : c < p) : ∀ n : Nat, N p n (List.replicate (2 ^ n) c) = 0
  | 0 => by simp [N]; omega
  | n + 1 => by
    rw [N, sum_const (A := 0) _ (fun x _ => by
      have e : 2 ^ (n + 1) = 2 * 2 ^ n := by rw [Nat.pow_succ]; omega
      rw [e, fold_const, rest_self (by omega) h1, noughtsC h h0 h1 n]), Int.zero_mul]
theorem noughts1 (h : Pr p) : ∀ (n j : Nat) (c : Int), j < 2 ^ n → 0 ≤ c → c < p → N p n (lone j c (2 ^ n)) = (p : Int) ^ n - if c = 0 then 0 else ((p : Int) - 1) ^ n
  | 0, j, c, hj, _, _ => by
    have : j = 0 := by omega
    subst this
    simp only [lone, N, List.replicate_zero, List.nil_append, List.singleton_append, List.headD_cons]
    by_cases c0 : c = 0 <;> simp [c0]
  | n + 1, j, c, hj, h0, h1 => by
    have hp := h.pos
    have e : 2 ^ (n + 1) = 2 * 2 ^ n := by rw [Nat.pow_succ]; omega
    rw [N, e]
    rw [e] at hj
    have e1 : ∀ x ∈ List.range p, N p n (fold p (x : Int) (lone j c (2 * 2 ^ n))) = if (c * (if j % 2 = 1 then (x : Int) else 1 - x)) % p = 0 then (p : Int) ^ n else (p : Int) ^ n - ((p : Int) - 1) ^ n := by
      intro x _
      rw [fold_lone _ _ _ _ _ hj, noughts1 h n (j / 2) _ (by omega) (Int.emod_nonneg _ (Int.ne_of_gt hp)) (Int.emod_lt_of_pos _ hp)]
      by_cases c0 : (c * (if j % 2 = 1 then (x : Int) else 1 - x)) % p = 0 <;> simp only [c0, if_true, if_false, Int.sub_zero]
    by_cases c0 : c = 0
    · subst c0
      rw [sum_const (A := (p : Int) ^ n) _ (fun x hx => by rw [e1 x hx]; simp)]
      simp [Int.pow_succ]
    · have hc : c % p ≠ 0 := by rw [rest_self h0 h1]; exact c0
      have hr : ∃ x0, x0 < p ∧ ∀ x, x < p → ((c * (if j % 2 = 1 then (x : Int) else 1 - x)) % p = 0 ↔ x = x0) := by
        by_cases hj2 : j % 2 = 1
        · obtain ⟨x0, hx, hr⟩ := h.root (a := 0) (b := c) hc
          refine ⟨x0, hx, fun x hx => ?_⟩
          rw [if_pos hj2, ← hr x hx]
          have : c * (x : Int) = 0 + x * c := by grind
          rw [this]
        · obtain ⟨x0, hx, hr⟩ := h.root (a := c) (b := -c) (by rw [Int.neg_emod]; split <;> first | omega | skip
                                                               have := Int.emod_lt_of_pos c hp; intro e; have := Int.emod_nonneg c (Int.ne_of_gt hp); simp at e; omega)
          refine ⟨x0, hx, fun x hx => ?_⟩
          rw [if_neg hj2, ← hr x hx]
          have : c * (1 - (x : Int)) = c + x * -c := by grind
          rw [this]
      obtain ⟨x0, hx, hr⟩ := hr
      rw [sum_one (A := (p : Int) ^ n) (B := (p : Int) ^ n - ((p : Int) - 1) ^ n) hx (fun x hx => by rw [e1 x (List.mem_range.mpr hx)]; simp only [hr x hx]), if_neg c0, Int.pow_succ, Int.pow_succ]
      grind

/-! ### the most noughts -/
theorem noughts_all (h : Pr p) : ∀ (n : Nat) (t : List Int), N p n t ≤ (p : Int) ^ n
  | 0, t => by simp only [N]; split <;> simp
  | n + 1, t => by
    rw [N]
    have := sum_le (g := fun _ => (p : Int) ^ n) (List.range p) (fun x _ => noughts_all h n (fold p (x : Int) t))
    rw [sum_const (f := fun _ => (p : Int) ^ n) (A := (p : Int) ^ n) _ (fun _ _ => rfl), List.length_range] at this
    rw [Int.pow_succ]; exact this
theorem fold_rest (h : Pr p) (x : Int) : ∀ (m : Nat) (t : List Int), t.length = 2 * m → ∀ w ∈ fold p x t, 0 ≤ w ∧ w < p
  | 0, [], _ => by simp [fold]
  | m + 1, a :: b :: t, e => by
    simp only [List.length_cons] at e
    intro w hw
    rw [fold, List.mem_cons] at hw
    rcases hw with rfl | hw
    · exact ⟨Int.emod_nonneg _ (Int.ne_of_gt h.pos), Int.emod_lt_of_pos _ h.pos⟩
    · exact fold_rest h x m t (by omega) w hw
theorem fold_some (h : Pr p) : ∀ (m : Nat) (t : List Int), t.length = 2 * m → (∀ w ∈ t, 0 ≤ w ∧ w < p) → (∃ w ∈ t, w ≠ 0) → ∃ x0, x0 < p ∧ ∀ x, x < p → x ≠ x0 → ∃ w ∈ fold p (x : Int) t, w ≠ 0
  | 0, [], _, _, hw => by obtain ⟨w, hw, _⟩ := hw; simp at hw
  | m + 1, a :: b :: t, e, hr, hw => by
    simp only [List.length_cons] at e
    have hp := h.pos
    by_cases c : a = 0 ∧ b = 0
    · have hw' : ∃ w ∈ t, w ≠ 0 := by
        obtain ⟨w, hw, w0⟩ := hw
        rw [List.mem_cons, List.mem_cons] at hw
        rcases hw with rfl | rfl | hw
        · exact absurd c.1 w0
        · exact absurd c.2 w0
        · exact ⟨w, hw, w0⟩
      obtain ⟨x0, hx, q⟩ := fold_some h m t (by omega) (fun w hw => hr w (by simp [hw])) hw'
      refine ⟨x0, hx, fun x hx hn => ?_⟩
      obtain ⟨w, hw, w0⟩ := q x hx hn
      exact ⟨w, by rw [fold]; exact List.mem_cons_of_mem _ hw, w0⟩
    · have ha := hr a (by simp)
      have hb := hr b (by simp)
      by_cases d : (b - a) % p = 0
      · have eq : a = b := by
          have h3 := Int.emod_eq_emod_iff_emod_sub_eq_zero.mpr d
          rw [rest_self ha.1 ha.2, rest_self hb.1 hb.2] at h3
          exact h3.symm
        refine ⟨0, by omega, fun x hx _ => ⟨_, by rw [fold]; exact List.mem_cons_self, ?_⟩⟩
        subst eq
        rw [Int.sub_self, Int.mul_zero, Int.add_zero, rest_self ha.1 ha.2]
        intro z; exact c ⟨z, z⟩
      · obtain ⟨x0, hx, q⟩ := h.root (a := a) d
        refine ⟨x0, hx, fun x hx hn => ⟨_, by rw [fold]; exact List.mem_cons_self, fun z => hn ((q x hx).mp z)⟩⟩
theorem noughts_most (h : Pr p) : ∀ (n : Nat) (t : List Int), t.length = 2 ^ n → (∀ w ∈ t, 0 ≤ w ∧ w < p) → (∃ w ∈ t, w ≠ 0) → N p n t ≤ (p : Int) ^ n - ((p : Int) - 1) ^ n
  | 0, t, e, _, hw => by
    obtain ⟨w, hw, w0⟩ := hw
    match t, e with
    | [c], _ =>
      rw [List.mem_singleton] at hw
      subst hw
      simp [N, w0]
  | n + 1, t, e, hr, hw => by
    have hp := h.pos
    have e1 : t.length = 2 * 2 ^ n := by rw [e, Nat.pow_succ]; omega
    obtain ⟨x0, hx, q⟩ := fold_some h _ t e1 hr hw
    rw [N]
    have hle := sum_le (f := fun x => N p n (fold p (x : Int) t)) (g := fun x => if x = x0 then (p : Int) ^ n else (p : Int) ^ n - ((p : Int) - 1) ^ n) (List.range p) (fun x hm => by
      have hm := List.mem_range.mp hm
      by_cases c : x = x0
      · simp only [c, if_true]; exact noughts_all h n _
      · simp only [c, if_false]
        exact noughts_most h n _ (fold_length _ _ _ e1) (fold_rest h _ _ _ e1) (q x hm c))
    rw [sum_one (A := (p : Int) ^ n) (B := (p : Int) ^ n - ((p : Int) - 1) ^ n) hx (fun x _ => rfl)] at hle
    rw [Int.pow_succ, Int.pow_succ]
    grind
end

/-! ### the worth of one corner -/
def weigh (p : Int) : Nat → Int → List Int → Int
  | _, w, [] => w
  | j, w, z :: zs => weigh p (j / 2) (w * (if j % 2 = 1 then z else 1 - z) % p) zs
theorem manyL_lone (p : Int) (c : Int) : ∀ (zs : List Int) (j : Nat) (w : Int), j < 2 ^ zs.length → manyL p (lone j (c * w % p) (2 ^ zs.length)) zs = [c * weigh p j w zs % p]
  | [], j, w, hj => by
    have : j = 0 := by simp at hj; omega
    subst this
    simp [manyL, lone, weigh]
  | z :: zs, j, w, hj => by
    have e : 2 ^ (z :: zs).length = 2 * 2 ^ zs.length := by rw [List.length_cons, Nat.pow_succ]; omega
    rw [e] at hj ⊢
    have ih := manyL_lone p c zs (j / 2) (w * (if j % 2 = 1 then z else 1 - z) % p) (by omega)
    unfold manyL at ih ⊢
    rw [List.foldl_cons, fold_lone _ _ _ _ _ hj, weigh, ← ih]
    congr 2
    rw [emm]
    rw [mod_eq (w * _) p]
    generalize (if j % 2 = 1 then z else 1 - z) = v
    generalize w * v / p = u
    exact mod_of (c * u) (by grind)
end K27
end
section
set_option linter.all false
set_option autoImplicit false
set_option maxRecDepth 100000
/-! What the mirrors of k27 answer. -/
namespace K27
open PySem TL L2
abbrev I (xs : List Int) : List T := xs.map T.int
def PP (p : Nat) : Prop := p = 5 ∨ p = 7 ∨ p = 11 ∨ p = 13 ∨ p = 17 ∨ p = 101
theorem PP.pr {p : Nat} (h : PP p) : Pr p := by
  rcases h with rfl | rfl | rfl | rfl | rfl | rfl <;> exact pr_mk (by decide +kernel)
theorem PP.pos {p : Nat} (h : PP p) : (0 : Int) < p := h.pr.pos
theorem PP.le {p : Nat} (h : PP p) : (5 : Int) ≤ p ∧ (p : Int) ≤ 101 := by
  rcases h with rfl | rfl | rfl | rfl | rfl | rfl <;> decide
/-- rests -/
def Rs (p : Nat) (xs : List Int) : Prop := ∀ x ∈ xs, 0 ≤ x ∧ x < p
section
variable {p : Nat} {M : Sto}
theorem whole (i : Int) : f_is_whole [.int i] M = .ok (.bl true) M := by rfl
theorem count (i : Int) : f_is_count [.int i] M = .ok (.bl (decide (0 ≤ i))) M := by
  simp [f_is_count, m_is_count, whole, seqS_ap, seqK_nx, seqK_ret, retS_ap, setS_ap, augS_ap, augK_some, asgS_ap, optS_some, ifS_ap, exprS_ap, nextS_ap, forS_ap, R.toS_ok, R.bind_ok, pureE_ap, bindE_ap, optE_some, varE_ap, op1_ap, op2_ap, opA_ap, bindO_ap, nilA_ap, consA_ap, callE_ap, andV_ap, andK_bl, orV_ap, orK_bl, ifV_ap, testE_ap, andB_ap, orB_ap, notB_ap, lstE_ap, compF_ap, dispF_ap, nilX_ap, valX_ap, ownX_ap, runF_ap, runK_ret, runK_nx, nameG_ap, forL_nil, forL_name, forK_nx, forK_ret, wipeR, lenT_tup, lenT_lst, lenT_sq, seqItems_tup, seqItems_lst, seqItems_sq, tupleT_lst, listT_lst, addT_int, subT_int, ltT_int, leT_int, gtT_int, geT_int, truT_bl, truT_int, blT_bl, notT_bl, int1T_int, addI_int, eqT_int, neT_int]
theorem prime (h : PP p) : f_is_prime [.int p] M = .ok (.bl true) M := by
  rcases h with rfl | rfl | rfl | rfl | rfl | rfl <;> rfl
theorem needPrime (h : PP p) : f_need_prime [.int p] M = .ok .non M := by
  simp [f_need_prime, m_need_prime, prime h, seqS_ap, seqK_nx, seqK_ret, retS_ap, setS_ap, augS_ap, augK_some, asgS_ap, optS_some, ifS_ap, exprS_ap, nextS_ap, forS_ap, R.toS_ok, R.bind_ok, pureE_ap, bindE_ap, optE_some, varE_ap, op1_ap, op2_ap, opA_ap, bindO_ap, nilA_ap, consA_ap, callE_ap, andV_ap, andK_bl, orV_ap, orK_bl, ifV_ap, testE_ap, andB_ap, orB_ap, notB_ap, lstE_ap, compF_ap, dispF_ap, nilX_ap, valX_ap, ownX_ap, runF_ap, runK_ret, runK_nx, nameG_ap, forL_nil, forL_name, forK_nx, forK_ret, wipeR, lenT_tup, lenT_lst, lenT_sq, seqItems_tup, seqItems_lst, seqItems_sq, tupleT_lst, listT_lst, addT_int, subT_int, ltT_int, leT_int, gtT_int, geT_int, truT_bl, truT_int, blT_bl, notT_bl, int1T_int, addI_int, eqT_int, neT_int]
theorem restIn (x : Int) : f_is_rest_in [.int p, .int x] M = .ok (.bl (decide (0 ≤ x) && decide (x < p))) M := by
  by_cases c : 0 ≤ x <;> simp [f_is_rest_in, m_is_rest_in, count, c, seqS_ap, seqK_nx, seqK_ret, retS_ap, setS_ap, augS_ap, augK_some, asgS_ap, optS_some, ifS_ap, exprS_ap, nextS_ap, forS_ap, R.toS_ok, R.bind_ok, pureE_ap, bindE_ap, optE_some, varE_ap, op1_ap, op2_ap, opA_ap, bindO_ap, nilA_ap, consA_ap, callE_ap, andV_ap, andK_bl, orV_ap, orK_bl, ifV_ap, testE_ap, andB_ap, orB_ap, notB_ap, lstE_ap, compF_ap, dispF_ap, nilX_ap, valX_ap, ownX_ap, runF_ap, runK_ret, runK_nx, nameG_ap, forL_nil, forL_name, forK_nx, forK_ret, wipeR, lenT_tup, lenT_lst, lenT_sq, seqItems_tup, seqItems_lst, seqItems_sq, tupleT_lst, listT_lst, addT_int, subT_int, ltT_int, leT_int, gtT_int, geT_int, truT_bl, truT_int, blT_bl, notT_bl, int1T_int, addI_int, eqT_int, neT_int]
theorem isi_tup (ts : List T) : isiT [.tup ts, .ty "tuple"] = some (.bl true) := by rfl
theorem allRests {xs : List Int} (h : Rs p xs) (hl : xs.length ≤ sizeLine) : f_are_all_rests [.int p, .tup (I xs)] M = .ok (.bl true) M := by
  simp [f_are_all_rests, m_are_all_rests, isi_tup, seqS_ap, seqK_nx, seqK_ret, retS_ap, setS_ap, augS_ap, augK_some, asgS_ap, optS_some, ifS_ap, exprS_ap, nextS_ap, forS_ap, R.toS_ok, R.bind_ok, pureE_ap, bindE_ap, optE_some, varE_ap, op1_ap, op2_ap, opA_ap, bindO_ap, nilA_ap, consA_ap, callE_ap, andV_ap, andK_bl, orV_ap, orK_bl, ifV_ap, testE_ap, andB_ap, orB_ap, notB_ap, lstE_ap, compF_ap, dispF_ap, nilX_ap, valX_ap, ownX_ap, runF_ap, runK_ret, runK_nx, nameG_ap, forL_nil, forL_name, forK_nx, forK_ret, wipeR, lenT_tup, lenT_lst, lenT_sq, seqItems_tup, seqItems_lst, seqItems_sq, tupleT_lst, listT_lst, addT_int, subT_int, ltT_int, leT_int, gtT_int, geT_int, truT_bl, truT_int, blT_bl, notT_bl, int1T_int, addI_int, eqT_int, neT_int]
  rw [compL_name (f := fun _ => T.bl true) xs (fun x hx => by
    simp [restIn, seqS_ap, seqK_nx, seqK_ret, retS_ap, setS_ap, augS_ap, augK_some, asgS_ap, optS_some, ifS_ap, exprS_ap, nextS_ap, forS_ap, R.toS_ok, R.bind_ok, pureE_ap, bindE_ap, optE_some, varE_ap, op1_ap, op2_ap, opA_ap, bindO_ap, nilA_ap, consA_ap, callE_ap, andV_ap, andK_bl, orV_ap, orK_bl, ifV_ap, testE_ap, andB_ap, orB_ap, notB_ap, lstE_ap, compF_ap, dispF_ap, nilX_ap, valX_ap, ownX_ap, runF_ap, runK_ret, runK_nx, nameG_ap, forL_nil, forL_name, forK_nx, forK_ret, wipeR, lenT_tup, lenT_lst, lenT_sq, seqItems_tup, seqItems_lst, seqItems_sq, tupleT_lst, listT_lst, addT_int, subT_int, ltT_int, leT_int, gtT_int, geT_int, truT_bl, truT_int, blT_bl, notT_bl, int1T_int, addI_int, eqT_int, neT_int]
    exact h x hx) hl]
  simp [allT_true, seqS_ap, seqK_nx, seqK_ret, retS_ap, setS_ap, augS_ap, augK_some, asgS_ap, optS_some, ifS_ap, exprS_ap, nextS_ap, forS_ap, R.toS_ok, R.bind_ok, pureE_ap, bindE_ap, optE_some, varE_ap, op1_ap, op2_ap, opA_ap, bindO_ap, nilA_ap, consA_ap, callE_ap, andV_ap, andK_bl, orV_ap, orK_bl, ifV_ap, testE_ap, andB_ap, orB_ap, notB_ap, lstE_ap, compF_ap, dispF_ap, nilX_ap, valX_ap, ownX_ap, runF_ap, runK_ret, runK_nx, nameG_ap, forL_nil, forL_name, forK_nx, forK_ret, wipeR, lenT_tup, lenT_lst, lenT_sq, seqItems_tup, seqItems_lst, seqItems_sq, tupleT_lst, listT_lst, addT_int, subT_int, ltT_int, leT_int, gtT_int, geT_int, truT_bl, truT_int, blT_bl, notT_bl, int1T_int, addI_int, eqT_int, neT_int]
theorem needRest {x : Int} (h : 0 ≤ x ∧ x < p) : f_need_rests [.int p, .tup [.int x]] M = .ok .non M := by
  simp [f_need_rests, m_need_rests, forL, restIn, h, seqS_ap, seqK_nx, seqK_ret, retS_ap, setS_ap, augS_ap, augK_some, asgS_ap, optS_some, ifS_ap, exprS_ap, nextS_ap, forS_ap, R.toS_ok, R.bind_ok, pureE_ap, bindE_ap, optE_some, varE_ap, op1_ap, op2_ap, opA_ap, bindO_ap, nilA_ap, consA_ap, callE_ap, andV_ap, andK_bl, orV_ap, orK_bl, ifV_ap, testE_ap, andB_ap, orB_ap, notB_ap, lstE_ap, compF_ap, dispF_ap, nilX_ap, valX_ap, ownX_ap, runF_ap, runK_ret, runK_nx, nameG_ap, forL_nil, forL_name, forK_nx, forK_ret, wipeR, lenT_tup, lenT_lst, lenT_sq, seqItems_tup, seqItems_lst, seqItems_sq, tupleT_lst, listT_lst, addT_int, subT_int, ltT_int, leT_int, gtT_int, geT_int, truT_bl, truT_int, blT_bl, notT_bl, int1T_int, addI_int, eqT_int, neT_int]
theorem doubled {n : Nat} (h : n ≤ 4) : f_doubled [.int n] M = .ok (.int (2 ^ n : Nat)) M := by
  have : n = 0 ∨ n = 1 ∨ n = 2 ∨ n = 3 ∨ n = 4 := by omega
  rcases this with rfl | rfl | rfl | rfl | rfl <;> rfl
theorem lettersIn {n : Nat} (h : n ≤ 4) : f_letters_in [.int (2 ^ n : Nat)] M = .ok (.int n) M := by
  have : n = 0 ∨ n = 1 ∨ n = 2 ∨ n = 3 ∨ n = 4 := by omega
  rcases this with rfl | rfl | rfl | rfl | rfl <;> rfl
theorem pow4 {n : Nat} (h : n ≤ 4) : 0 < 2 ^ n ∧ 2 ^ n ≤ 16 := by
  have : n = 0 ∨ n = 1 ∨ n = 2 ∨ n = 3 ∨ n = 4 := by omega
  rcases this with rfl | rfl | rfl | rfl | rfl <;> decide
theorem isTable {n : Nat} {t : List Int} (h : n ≤ 4) (hl : t.length = 2 ^ n) (hr : Rs p t) : f_is_table_in [.int p, .tup (I t)] M = .ok (.bl true) M := by
  have h2 := pow4 h
  have hd := doubled (M := M) h
  have hL := lettersIn (M := M) h
  generalize 2 ^ n = m at *
  have h3 : t.length ≤ sizeLine := by rw [line_eq]; omega
  have h4 : 0 < m := by omega
  simp [f_is_table_in, m_is_table_in, allRests hr h3, hl, hd, hL, h4, seqS_ap, seqK_nx, seqK_ret, retS_ap, setS_ap, augS_ap, augK_some, asgS_ap, optS_some, ifS_ap, exprS_ap, nextS_ap, forS_ap, R.toS_ok, R.bind_ok, pureE_ap, bindE_ap, optE_some, varE_ap, op1_ap, op2_ap, opA_ap, bindO_ap, nilA_ap, consA_ap, callE_ap, andV_ap, andK_bl, orV_ap, orK_bl, ifV_ap, testE_ap, andB_ap, orB_ap, notB_ap, lstE_ap, compF_ap, dispF_ap, nilX_ap, valX_ap, ownX_ap, runF_ap, runK_ret, runK_nx, nameG_ap, forL_nil, forL_name, forK_nx, forK_ret, wipeR, lenT_tup, lenT_lst, lenT_sq, seqItems_tup, seqItems_lst, seqItems_sq, tupleT_lst, listT_lst, addT_int, subT_int, ltT_int, leT_int, gtT_int, geT_int, truT_bl, truT_int, blT_bl, notT_bl, int1T_int, addI_int, eqT_int, neT_int]
theorem needTable {n : Nat} {t : List Int} (hp : PP p) (h : n ≤ 4) (hl : t.length = 2 ^ n) (hr : Rs p t) : f_need_table [.int p, .tup (I t)] M = .ok .non M := by
  simp [f_need_table, m_need_table, needPrime hp, isTable h hl hr, seqS_ap, seqK_nx, seqK_ret, retS_ap, setS_ap, augS_ap, augK_some, asgS_ap, optS_some, ifS_ap, exprS_ap, nextS_ap, forS_ap, R.toS_ok, R.bind_ok, pureE_ap, bindE_ap, optE_some, varE_ap, op1_ap, op2_ap, opA_ap, bindO_ap, nilA_ap, consA_ap, callE_ap, andV_ap, andK_bl, orV_ap, orK_bl, ifV_ap, testE_ap, andB_ap, orB_ap, notB_ap, lstE_ap, compF_ap, dispF_ap, nilX_ap, valX_ap, ownX_ap, runF_ap, runK_ret, runK_nx, nameG_ap, forL_nil, forL_name, forK_nx, forK_ret, wipeR, lenT_tup, lenT_lst, lenT_sq, seqItems_tup, seqItems_lst, seqItems_sq, tupleT_lst, listT_lst, addT_int, subT_int, ltT_int, leT_int, gtT_int, geT_int, truT_bl, truT_int, blT_bl, notT_bl, int1T_int, addI_int, eqT_int, neT_int]
theorem needPoint {zs : List Int} (hr : Rs p zs) (hl : zs.length ≤ 4) : f_need_point [.int p, .tup (I zs), .int zs.length] M = .ok .non M := by
  simp [f_need_point, m_need_point, allRests hr (by rw [line_eq]; omega), seqS_ap, seqK_nx, seqK_ret, retS_ap, setS_ap, augS_ap, augK_some, asgS_ap, optS_some, ifS_ap, exprS_ap, nextS_ap, forS_ap, R.toS_ok, R.bind_ok, pureE_ap, bindE_ap, optE_some, varE_ap, op1_ap, op2_ap, opA_ap, bindO_ap, nilA_ap, consA_ap, callE_ap, andV_ap, andK_bl, orV_ap, orK_bl, ifV_ap, testE_ap, andB_ap, orB_ap, notB_ap, lstE_ap, compF_ap, dispF_ap, nilX_ap, valX_ap, ownX_ap, runF_ap, runK_ret, runK_nx, nameG_ap, forL_nil, forL_name, forK_nx, forK_ret, wipeR, lenT_tup, lenT_lst, lenT_sq, seqItems_tup, seqItems_lst, seqItems_sq, tupleT_lst, listT_lst, addT_int, subT_int, ltT_int, leT_int, gtT_int, geT_int, truT_bl, truT_int, blT_bl, notT_bl, int1T_int, addI_int, eqT_int, neT_int]
theorem lettersOf {n : Nat} {t : List Int} (hp : PP p) (h : n ≤ 4) (hl : t.length = 2 ^ n) (hr : Rs p t) : f_letters_of [.int p, .tup (I t)] M = .ok (.int n) M := by
  have hL := lettersIn (M := M) h
  have hN := needTable (M := M) hp h hl hr
  generalize 2 ^ n = m at *
  simp [f_letters_of, m_letters_of, hN, hl, hL, seqS_ap, seqK_nx, seqK_ret, retS_ap, setS_ap, augS_ap, augK_some, asgS_ap, optS_some, ifS_ap, exprS_ap, nextS_ap, forS_ap, R.toS_ok, R.bind_ok, pureE_ap, bindE_ap, optE_some, varE_ap, op1_ap, op2_ap, opA_ap, bindO_ap, nilA_ap, consA_ap, callE_ap, andV_ap, andK_bl, orV_ap, orK_bl, ifV_ap, testE_ap, andB_ap, orB_ap, notB_ap, lstE_ap, compF_ap, dispF_ap, nilX_ap, valX_ap, ownX_ap, runF_ap, runK_ret, runK_nx, nameG_ap, forL_nil, forL_name, forK_nx, forK_ret, wipeR, lenT_tup, lenT_lst, lenT_sq, seqItems_tup, seqItems_lst, seqItems_sq, tupleT_lst, listT_lst, addT_int, subT_int, ltT_int, leT_int, gtT_int, geT_int, truT_bl, truT_int, blT_bl, notT_bl, int1T_int, addI_int, eqT_int, neT_int]

/-! ### folding -/
theorem fold_range (x : Int) : ∀ (m : Nat) (t : List Int), t.length = 2 * m → (List.range m).map (fun i => (t.getD (2 * i) 0 + x * (t.getD (2 * i + 1) 0 - t.getD (2 * i) 0)) % (p : Int)) = fold p x t
  | 0, [], _ => rfl
  | m + 1, a :: b :: t, h => by
    simp only [List.length_cons] at h
    rw [List.range_succ_eq_map, List.map_cons, List.map_map, fold, ← fold_range x m t (by omega)]
    congr 1
theorem rng3_two {m : Nat} (h : m ≤ 8) : rng3 [.int 0, .int (2 * m : Nat), .int 2] = some ((List.range m).map fun (i : Nat) => T.int ((2 * i : Nat) : Int)) := by
  have e : ∀ i : Nat, (0 + (i : Int) * 2) = ((2 * i : Nat) : Int) := by intro i; omega
  have : m = 0 ∨ m = 1 ∨ m = 2 ∨ m = 3 ∨ m = 4 ∨ m = 5 ∨ m = 6 ∨ m = 7 ∨ m = 8 := by omega
  rcases this with rfl | rfl | rfl | rfl | rfl | rfl | rfl | rfl | rfl <;> rfl
theorem foldedIn {b : Bool} {m : Nat} {t : List Int} {x : Int} (hp : PP p) (hm : m ≤ 8) (hl : t.length = 2 * m) (hx : 0 ≤ x ∧ x < p) : f_folded_in [.int p, sq b (I t), .int x] M = .ok (.lst (I (fold p x t))) M := by
  have hpl := hp.le
  have hpp := hp.pos
  have e3 := rng3_two hm
  rw [show ((2 * m : Nat) : Int) = 2 * (m : Int) by omega] at e3
  simp [f_folded_in, m_folded_in, hl, e3, seqS_ap, seqK_nx, seqK_ret, retS_ap, setS_ap, augS_ap, augK_some, asgS_ap, optS_some, ifS_ap, exprS_ap, nextS_ap, forS_ap, R.toS_ok, R.bind_ok, pureE_ap, bindE_ap, optE_some, varE_ap, op1_ap, op2_ap, opA_ap, bindO_ap, nilA_ap, consA_ap, callE_ap, andV_ap, andK_bl, orV_ap, orK_bl, ifV_ap, testE_ap, andB_ap, orB_ap, notB_ap, lstE_ap, compF_ap, dispF_ap, nilX_ap, valX_ap, ownX_ap, runF_ap, runK_ret, runK_nx, nameG_ap, forL_nil, forL_name, forK_nx, forK_ret, wipeR, lenT_tup, lenT_lst, lenT_sq, seqItems_tup, seqItems_lst, seqItems_sq, tupleT_lst, listT_lst, addT_int, subT_int, ltT_int, leT_int, gtT_int, geT_int, truT_bl, truT_int, blT_bl, notT_bl, int1T_int, addI_int, eqT_int, neT_int]
  have e4 : ∀ i : Nat, 2 * (i : Int) = ((2 * i : Nat) : Int) := by intro i; omega
  simp only [e4]
  rw [compL_name (f := fun i => T.int ((t.getD (2 * i) 0 + x * (t.getD (2 * i + 1) 0 - t.getD (2 * i) 0)) % (p : Int))) (List.range m) (fun i hi => by
    have hi := List.mem_range.mp hi
    have g1 := sub_sq (b := b) (t := t) (i := 2 * i) (by omega) (ρ := [.val (.int p), .val (sq b (I t)), .val (.int x), .val (.int (2 * i : Nat))]) (ma := varE 1) (mb := varE 3) (M := M) rfl rfl
    have g2 := sub_sq (b := b) (t := t) (i := 2 * i + 1) (by omega) (ρ := [.val (.int p), .val (sq b (I t)), .val (.int x), .val (.int (2 * i : Nat))]) (ma := varE 1) (mb := op2 (varE 3) (pureE (.int 1)) addT) (M := M) rfl rfl
    simp only [g1, g2, mulT_int (mulOk_l (i := x) (by omega)), modT_int hpp, seqS_ap, seqK_nx, seqK_ret, retS_ap, setS_ap, augS_ap, augK_some, asgS_ap, optS_some, ifS_ap, exprS_ap, nextS_ap, forS_ap, R.toS_ok, R.bind_ok, pureE_ap, bindE_ap, optE_some, varE_ap, op1_ap, op2_ap, opA_ap, bindO_ap, nilA_ap, consA_ap, callE_ap, andV_ap, andK_bl, orV_ap, orK_bl, ifV_ap, testE_ap, andB_ap, orB_ap, notB_ap, lstE_ap, compF_ap, dispF_ap, nilX_ap, valX_ap, ownX_ap, runF_ap, runK_ret, runK_nx, nameG_ap, forL_nil, forL_name, forK_nx, forK_ret, wipeR, lenT_tup, lenT_lst, lenT_sq, seqItems_tup, seqItems_lst, seqItems_sq, tupleT_lst, listT_lst, addT_int, subT_int, ltT_int, leT_int, gtT_int, geT_int, truT_bl, truT_int, blT_bl, notT_bl, int1T_int, addI_int, eqT_int, neT_int, List.map_cons, List.map_nil, List.length_cons, List.length_nil, List.cons_append, List.nil_append, List.append_nil, List.getElem?_cons_zero, List.getElem?_cons_succ, List.set_cons_zero, List.set_cons_succ, List.replicate_succ, List.replicate_zero, Nat.reduceAdd, Nat.reduceSub, if_true, ite_true, reduceIte, Nat.zero_add, Nat.zero_le, decide_true, decide_false, Bool.not_true, Bool.not_false, Bool.false_eq_true, if_false]) (by rw [List.length_range, line_eq]; omega)]
  simp only [seqS_ap, seqK_nx, seqK_ret, retS_ap, setS_ap, augS_ap, augK_some, asgS_ap, optS_some, ifS_ap, exprS_ap, nextS_ap, forS_ap, R.toS_ok, R.bind_ok, pureE_ap, bindE_ap, optE_some, varE_ap, op1_ap, op2_ap, opA_ap, bindO_ap, nilA_ap, consA_ap, callE_ap, andV_ap, andK_bl, orV_ap, orK_bl, ifV_ap, testE_ap, andB_ap, orB_ap, notB_ap, lstE_ap, compF_ap, dispF_ap, nilX_ap, valX_ap, ownX_ap, runF_ap, runK_ret, runK_nx, nameG_ap, forL_nil, forL_name, forK_nx, forK_ret, wipeR, lenT_tup, lenT_lst, lenT_sq, seqItems_tup, seqItems_lst, seqItems_sq, tupleT_lst, listT_lst, addT_int, subT_int, ltT_int, leT_int, gtT_int, geT_int, truT_bl, truT_int, blT_bl, notT_bl, int1T_int, addI_int, eqT_int, neT_int, List.map_cons, List.map_nil, List.length_cons, List.length_nil, List.cons_append, List.nil_append, List.append_nil, List.getElem?_cons_zero, List.getElem?_cons_succ, List.set_cons_zero, List.set_cons_succ, List.replicate_succ, List.replicate_zero, Nat.reduceAdd, Nat.reduceSub, if_true, ite_true, reduceIte, Nat.zero_add, Nat.zero_le, decide_true, decide_false, Bool.not_true, Bool.not_false, Bool.false_eq_true, if_false]
  rw [← fold_range x m t hl, I, List.map_map]
  rfl

/-! ### worth -/
theorem manyL_length : ∀ (zs : List Int) (t : List Int), t.length = 2 ^ zs.length → (manyL p t zs).length = 1
  | [], t, h => by simpa [manyL] using h
  | z :: zs, t, h => by
    have e : t.length = 2 * 2 ^ zs.length := by rw [h, List.length_cons, Nat.pow_succ]; omega
    exact manyL_length zs (fold p z t) (fold_length _ _ _ e)
theorem manyLoop (hp : PP p) (pt : T) : ∀ (zs : List Int) (b : Bool) (t : List Int) (s3 : Slot), t.length = 2 ^ zs.length → Rs p zs → zs.length ≤ 4 →
    ∃ b' s', forL (nameG 3) (setS 1 (callE 3 f_folded_in (consA (varE 0) (consA (varE 1) (consA (varE 3) (nilA)))))) (I zs) [.val (.int p), .val (sq b (I t)), .val pt, s3] M = .nx [.val (.int p), .val (sq b' (I (manyL p t zs))), .val pt, s'] M
  | [], b, t, s3, h, hr, hl => ⟨b, s3, rfl⟩
  | z :: zs, b, t, s3, h, hr, hl => by
    have e : t.length = 2 * 2 ^ zs.length := by rw [h, List.length_cons, Nat.pow_succ]; omega
    rw [List.length_cons] at hl
    have h8 : 2 ^ zs.length ≤ 8 := Nat.le_trans (Nat.pow_le_pow_right (by decide) (show zs.length ≤ 3 by omega)) (by decide)
    obtain ⟨b', s', ih⟩ := manyLoop hp pt zs false (fold p z t) (.val (.int z)) (fold_length _ _ _ e) (fun w hw => hr w (by simp [hw])) (by omega)
    refine ⟨b', s', ?_⟩
    have hf := foldedIn (M := M) (b := b) hp h8 e (hr z (by simp))
    simp only [I, List.map_cons] at ih hf ⊢
    simp only [hf, seqS_ap, seqK_nx, seqK_ret, retS_ap, setS_ap, augS_ap, augK_some, asgS_ap, optS_some, ifS_ap, exprS_ap, nextS_ap, forS_ap, R.toS_ok, R.bind_ok, pureE_ap, bindE_ap, optE_some, varE_ap, op1_ap, op2_ap, opA_ap, bindO_ap, nilA_ap, consA_ap, callE_ap, andV_ap, andK_bl, orV_ap, orK_bl, ifV_ap, testE_ap, andB_ap, orB_ap, notB_ap, lstE_ap, compF_ap, dispF_ap, nilX_ap, valX_ap, ownX_ap, runF_ap, runK_ret, runK_nx, nameG_ap, forL_nil, forL_name, forK_nx, forK_ret, wipeR, lenT_tup, lenT_lst, lenT_sq, seqItems_tup, seqItems_lst, seqItems_sq, tupleT_lst, listT_lst, addT_int, subT_int, ltT_int, leT_int, gtT_int, geT_int, truT_bl, truT_int, blT_bl, notT_bl, int1T_int, addI_int, eqT_int, neT_int, List.map_cons, List.map_nil, List.length_cons, List.length_nil, List.cons_append, List.nil_append, List.append_nil, List.getElem?_cons_zero, List.getElem?_cons_succ, List.set_cons_zero, List.set_cons_succ, List.replicate_succ, List.replicate_zero, Nat.reduceAdd, Nat.reduceSub, if_true, ite_true, reduceIte, Nat.zero_add, Nat.zero_le, decide_true, decide_false, Bool.not_true, Bool.not_false, Bool.false_eq_true, if_false]
    exact ih
theorem headD_getD (t : List Int) : t.getD 0 0 = t.headD 0 := by cases t <;> rfl
theorem manyIn (hp : PP p) {b : Bool} {t zs : List Int} (h : t.length = 2 ^ zs.length) (hr : Rs p zs) (hl : zs.length ≤ 4) : f_many_in [.int p, sq b (I t), .tup (I zs)] M = .ok (.int ((manyL p t zs).headD 0)) M := by
  obtain ⟨b', s', e⟩ := manyLoop (M := M) hp (.tup (I zs)) zs b t .un h hr hl
  have e2 : (0 : Nat) < (manyL p t zs).length := by rw [manyL_length zs t h]; decide
  have e3 := sub_sq (b := b') e2 (ρ := [.val (.int p), .val (sq b' (I (manyL p t zs))), .val (.tup (I zs)), s']) (ma := varE 1) (mb := pureE (.int 0)) (M := M) rfl rfl
  simp only [f_many_in, m_many_in, e, e3, seqS_ap, seqK_nx, seqK_ret, retS_ap, setS_ap, augS_ap, augK_some, asgS_ap, optS_some, ifS_ap, exprS_ap, nextS_ap, forS_ap, R.toS_ok, R.bind_ok, pureE_ap, bindE_ap, optE_some, varE_ap, op1_ap, op2_ap, opA_ap, bindO_ap, nilA_ap, consA_ap, callE_ap, andV_ap, andK_bl, orV_ap, orK_bl, ifV_ap, testE_ap, andB_ap, orB_ap, notB_ap, lstE_ap, compF_ap, dispF_ap, nilX_ap, valX_ap, ownX_ap, runF_ap, runK_ret, runK_nx, nameG_ap, forL_nil, forL_name, forK_nx, forK_ret, wipeR, lenT_tup, lenT_lst, lenT_sq, seqItems_tup, seqItems_lst, seqItems_sq, tupleT_lst, listT_lst, addT_int, subT_int, ltT_int, leT_int, gtT_int, geT_int, truT_bl, truT_int, blT_bl, notT_bl, int1T_int, addI_int, eqT_int, neT_int, List.map_cons, List.map_nil, List.length_cons, List.length_nil, List.cons_append, List.nil_append, List.append_nil, List.getElem?_cons_zero, List.getElem?_cons_succ, List.set_cons_zero, List.set_cons_succ, List.replicate_succ, List.replicate_zero, Nat.reduceAdd, Nat.reduceSub, if_true, ite_true, reduceIte, Nat.zero_add, Nat.zero_le, decide_true, decide_false, Bool.not_true, Bool.not_false, Bool.false_eq_true, if_false]
  rw [headD_getD]
theorem worthMany (hp : PP p) {t zs : List Int} (h : t.length = 2 ^ zs.length) (hr : Rs p zs) (ht : Rs p t) (hl : zs.length ≤ 4) : f_worth_many [.int p, .tup (I t), .tup (I zs)] M = .ok (.int ((manyL p t zs).headD 0)) M := by
  have hL := lettersIn (M := M) hl
  have hN := needTable (M := M) hp hl h ht
  have hP := needPoint (M := M) hr hl
  have hM := manyIn (M := M) (b := true) hp h hr hl
  rw [sq_true] at hM
  rw [← h] at hL
  simp only [f_worth_many, m_worth_many, hN, hP, hL, hM, List.length_map, seqS_ap, seqK_nx, seqK_ret, retS_ap, setS_ap, augS_ap, augK_some, asgS_ap, optS_some, ifS_ap, exprS_ap, nextS_ap, forS_ap, R.toS_ok, R.bind_ok, pureE_ap, bindE_ap, optE_some, varE_ap, op1_ap, op2_ap, opA_ap, bindO_ap, nilA_ap, consA_ap, callE_ap, andV_ap, andK_bl, orV_ap, orK_bl, ifV_ap, testE_ap, andB_ap, orB_ap, notB_ap, lstE_ap, compF_ap, dispF_ap, nilX_ap, valX_ap, ownX_ap, runF_ap, runK_ret, runK_nx, nameG_ap, forL_nil, forL_name, forK_nx, forK_ret, wipeR, lenT_tup, lenT_lst, lenT_sq, seqItems_tup, seqItems_lst, seqItems_sq, tupleT_lst, listT_lst, addT_int, subT_int, ltT_int, leT_int, gtT_int, geT_int, truT_bl, truT_int, blT_bl, notT_bl, int1T_int, addI_int, eqT_int, neT_int, List.map_cons, List.map_nil, List.length_cons, List.length_nil, List.cons_append, List.nil_append, List.append_nil, List.getElem?_cons_zero, List.getElem?_cons_succ, List.set_cons_zero, List.set_cons_succ, List.replicate_succ, List.replicate_zero, Nat.reduceAdd, Nat.reduceSub, if_true, ite_true, reduceIte, Nat.zero_add, Nat.zero_le, decide_true, decide_false, Bool.not_true, Bool.not_false, Bool.false_eq_true, if_false]
theorem manySum (hp : PP p) {n : Nat} {t : List Int} (h : t.length = 2 ^ n) (ht : Rs p t) (hl : n ≤ 4) : f_many_sum [.int p, .tup (I t)] M = .ok (.int (t.sum % p)) M := by
  have hN := needTable (M := M) hp hl h ht
  have hs : sumT [.tup (I t)] = some (.int t.sum) := sumT_tup t
  simp only [f_many_sum, m_many_sum, hN, hs, modT_int hp.pos, seqS_ap, seqK_nx, seqK_ret, retS_ap, setS_ap, augS_ap, augK_some, asgS_ap, optS_some, ifS_ap, exprS_ap, nextS_ap, forS_ap, R.toS_ok, R.bind_ok, pureE_ap, bindE_ap, optE_some, varE_ap, op1_ap, op2_ap, opA_ap, bindO_ap, nilA_ap, consA_ap, callE_ap, andV_ap, andK_bl, orV_ap, orK_bl, ifV_ap, testE_ap, andB_ap, orB_ap, notB_ap, lstE_ap, compF_ap, dispF_ap, nilX_ap, valX_ap, ownX_ap, runF_ap, runK_ret, runK_nx, nameG_ap, forL_nil, forL_name, forK_nx, forK_ret, wipeR, lenT_tup, lenT_lst, lenT_sq, seqItems_tup, seqItems_lst, seqItems_sq, tupleT_lst, listT_lst, addT_int, subT_int, ltT_int, leT_int, gtT_int, geT_int, truT_bl, truT_int, blT_bl, notT_bl, int1T_int, addI_int, eqT_int, neT_int, List.map_cons, List.map_nil, List.length_cons, List.length_nil, List.cons_append, List.nil_append, List.append_nil, List.getElem?_cons_zero, List.getElem?_cons_succ, List.set_cons_zero, List.set_cons_succ, List.replicate_succ, List.replicate_zero, Nat.reduceAdd, Nat.reduceSub, if_true, ite_true, reduceIte, Nat.zero_add, Nat.zero_le, decide_true, decide_false, Bool.not_true, Bool.not_false, Bool.false_eq_true, if_false]

/-! ### noughts -/
theorem rNoughts (hp : PP p) (k : Nat) : ∀ (n : Nat) (b : Bool) (t : List Int), n ≤ 4 → t.length = 2 ^ n → r_noughts_in (n + 1 + k) [.int p, sq b (I t)] M = .ok (.int (N p n t)) M
  | 0, b, t, _, h => by
    have e : (0 : Nat) < t.length := by omega
    have e3 := sub_sq (b := b) e (ρ := [.val (.int p), .val (sq b (I t)), .un]) (ma := varE 1) (mb := pureE (.int 0)) (M := M) rfl rfl
    rw [headD_getD] at e3
    have e4 : ((t.length : Int) = 1) := by omega
    have e5 : 0 + 1 + k = k + 1 := by omega
    rw [e5]
    simp only [r_noughts_in, m_noughts_in, e3, e4, List.length_map, decide_true, decide_eq_true_eq, seqS_ap, seqK_nx, seqK_ret, retS_ap, setS_ap, augS_ap, augK_some, asgS_ap, optS_some, ifS_ap, exprS_ap, nextS_ap, forS_ap, R.toS_ok, R.bind_ok, pureE_ap, bindE_ap, optE_some, varE_ap, op1_ap, op2_ap, opA_ap, bindO_ap, nilA_ap, consA_ap, callE_ap, andV_ap, andK_bl, orV_ap, orK_bl, ifV_ap, testE_ap, andB_ap, orB_ap, notB_ap, lstE_ap, compF_ap, dispF_ap, nilX_ap, valX_ap, ownX_ap, runF_ap, runK_ret, runK_nx, nameG_ap, forL_nil, forL_name, forK_nx, forK_ret, wipeR, lenT_tup, lenT_lst, lenT_sq, seqItems_tup, seqItems_lst, seqItems_sq, tupleT_lst, listT_lst, addT_int, subT_int, ltT_int, leT_int, gtT_int, geT_int, truT_bl, truT_int, blT_bl, notT_bl, int1T_int, addI_int, eqT_int, neT_int, List.map_cons, List.map_nil, List.length_cons, List.length_nil, List.cons_append, List.nil_append, List.append_nil, List.getElem?_cons_zero, List.getElem?_cons_succ, List.set_cons_zero, List.set_cons_succ, List.replicate_succ, List.replicate_zero, Nat.reduceAdd, Nat.reduceSub, if_true, ite_true, reduceIte, Nat.zero_add, Nat.zero_le, decide_true, decide_false, Bool.not_true, Bool.not_false, Bool.false_eq_true, if_false]
    by_cases c : t.headD 0 = 0 <;> simp only [c, N, seqS_ap, seqK_nx, seqK_ret, retS_ap, setS_ap, augS_ap, augK_some, asgS_ap, optS_some, ifS_ap, exprS_ap, nextS_ap, forS_ap, R.toS_ok, R.bind_ok, pureE_ap, bindE_ap, optE_some, varE_ap, op1_ap, op2_ap, opA_ap, bindO_ap, nilA_ap, consA_ap, callE_ap, andV_ap, andK_bl, orV_ap, orK_bl, ifV_ap, testE_ap, andB_ap, orB_ap, notB_ap, lstE_ap, compF_ap, dispF_ap, nilX_ap, valX_ap, ownX_ap, runF_ap, runK_ret, runK_nx, nameG_ap, forL_nil, forL_name, forK_nx, forK_ret, wipeR, lenT_tup, lenT_lst, lenT_sq, seqItems_tup, seqItems_lst, seqItems_sq, tupleT_lst, listT_lst, addT_int, subT_int, ltT_int, leT_int, gtT_int, geT_int, truT_bl, truT_int, blT_bl, notT_bl, int1T_int, addI_int, eqT_int, neT_int, List.map_cons, List.map_nil, List.length_cons, List.length_nil, List.cons_append, List.nil_append, List.append_nil, List.getElem?_cons_zero, List.getElem?_cons_succ, List.set_cons_zero, List.set_cons_succ, List.replicate_succ, List.replicate_zero, Nat.reduceAdd, Nat.reduceSub, if_true, ite_true, reduceIte, Nat.zero_add, Nat.zero_le, decide_true, decide_false, Bool.not_true, Bool.not_false, Bool.false_eq_true, if_false, if_false]
  | n + 1, b, t, hn, h => by
    have e : t.length = 2 * 2 ^ n := by rw [h, Nat.pow_succ]; omega
    have h8 : 2 ^ n ≤ 8 := Nat.le_trans (Nat.pow_le_pow_right (by decide) (show n ≤ 3 by omega)) (by decide)
    have hpw : 0 < 2 ^ n := Nat.pow_pos (by decide)
    have hpl := hp.le
    have e4 : ((t.length : Int) = 1) = False := by rw [eq_iff_iff, iff_false]; omega
    have e5 : n + 1 + 1 + k = (n + 1 + k) + 1 := by omega
    have hc := compL_name (ρ := [.val (.int p), .val (sq b (I t)), .un]) (M := M) (i := 2) (e := fun (i : Nat) => T.int (i : Int)) (te := callE 2 (r_noughts_in (n + 1 + k)) (consA (varE 0) (consA (callE 3 f_folded_in (consA (varE 0) (consA (varE 1) (consA (varE 2) nilA)))) nilA)))
      (f := fun (x : Nat) => T.int (N p n (fold p (x : Int) t))) (List.range p) (fun x hx => by
        have hx := List.mem_range.mp hx
        have hf := foldedIn (M := M) (b := b) hp h8 e (show 0 ≤ (x : Int) ∧ (x : Int) < p by omega)
        have ih := rNoughts hp k n false (fold p (x : Int) t) (by omega) (fold_length _ _ _ e)
        rw [sq_false] at ih
        simp only [hf, ih, seqS_ap, seqK_nx, seqK_ret, retS_ap, setS_ap, augS_ap, augK_some, asgS_ap, optS_some, ifS_ap, exprS_ap, nextS_ap, forS_ap, R.toS_ok, R.bind_ok, pureE_ap, bindE_ap, optE_some, varE_ap, op1_ap, op2_ap, opA_ap, bindO_ap, nilA_ap, consA_ap, callE_ap, andV_ap, andK_bl, orV_ap, orK_bl, ifV_ap, testE_ap, andB_ap, orB_ap, notB_ap, lstE_ap, compF_ap, dispF_ap, nilX_ap, valX_ap, ownX_ap, runF_ap, runK_ret, runK_nx, nameG_ap, forL_nil, forL_name, forK_nx, forK_ret, wipeR, lenT_tup, lenT_lst, lenT_sq, seqItems_tup, seqItems_lst, seqItems_sq, tupleT_lst, listT_lst, addT_int, subT_int, ltT_int, leT_int, gtT_int, geT_int, truT_bl, truT_int, blT_bl, notT_bl, int1T_int, addI_int, eqT_int, neT_int, List.map_cons, List.map_nil, List.length_cons, List.length_nil, List.cons_append, List.nil_append, List.append_nil, List.getElem?_cons_zero, List.getElem?_cons_succ, List.set_cons_zero, List.set_cons_succ, List.replicate_succ, List.replicate_zero, Nat.reduceAdd, Nat.reduceSub, if_true, ite_true, reduceIte, Nat.zero_add, Nat.zero_le, decide_true, decide_false, Bool.not_true, Bool.not_false, Bool.false_eq_true, if_false]) (by rw [List.length_range, line_eq]; omega)
    have hr := rng1_nat p (by omega)
    rw [e5]
    simp only [r_noughts_in, m_noughts_in, e4, hr, hc, List.length_map, decide_false, Bool.false_eq_true, if_false, seqS_ap, seqK_nx, seqK_ret, retS_ap, setS_ap, augS_ap, augK_some, asgS_ap, optS_some, ifS_ap, exprS_ap, nextS_ap, forS_ap, R.toS_ok, R.bind_ok, pureE_ap, bindE_ap, optE_some, varE_ap, op1_ap, op2_ap, opA_ap, bindO_ap, nilA_ap, consA_ap, callE_ap, andV_ap, andK_bl, orV_ap, orK_bl, ifV_ap, testE_ap, andB_ap, orB_ap, notB_ap, lstE_ap, compF_ap, dispF_ap, nilX_ap, valX_ap, ownX_ap, runF_ap, runK_ret, runK_nx, nameG_ap, forL_nil, forL_name, forK_nx, forK_ret, wipeR, lenT_tup, lenT_lst, lenT_sq, seqItems_tup, seqItems_lst, seqItems_sq, tupleT_lst, listT_lst, addT_int, subT_int, ltT_int, leT_int, gtT_int, geT_int, truT_bl, truT_int, blT_bl, notT_bl, int1T_int, addI_int, eqT_int, neT_int, List.map_cons, List.map_nil, List.length_cons, List.length_nil, List.cons_append, List.nil_append, List.append_nil, List.getElem?_cons_zero, List.getElem?_cons_succ, List.set_cons_zero, List.set_cons_succ, List.replicate_succ, List.replicate_zero, Nat.reduceAdd, Nat.reduceSub, if_true, ite_true, reduceIte, Nat.zero_add, Nat.zero_le, decide_true, decide_false, Bool.not_true, Bool.not_false, Bool.false_eq_true, if_false]
    have hs : ((List.range p).map fun (x : Nat) => T.int (N p n (fold p (x : Int) t))) = I ((List.range p).map fun (x : Nat) => N p n (fold p (x : Int) t)) := by rw [I, List.map_map]; rfl
    simp only [hs, sumT_ints, N, seqS_ap, seqK_nx, seqK_ret, retS_ap, setS_ap, augS_ap, augK_some, asgS_ap, optS_some, ifS_ap, exprS_ap, nextS_ap, forS_ap, R.toS_ok, R.bind_ok, pureE_ap, bindE_ap, optE_some, varE_ap, op1_ap, op2_ap, opA_ap, bindO_ap, nilA_ap, consA_ap, callE_ap, andV_ap, andK_bl, orV_ap, orK_bl, ifV_ap, testE_ap, andB_ap, orB_ap, notB_ap, lstE_ap, compF_ap, dispF_ap, nilX_ap, valX_ap, ownX_ap, runF_ap, runK_ret, runK_nx, nameG_ap, forL_nil, forL_name, forK_nx, forK_ret, wipeR, lenT_tup, lenT_lst, lenT_sq, seqItems_tup, seqItems_lst, seqItems_sq, tupleT_lst, listT_lst, addT_int, subT_int, ltT_int, leT_int, gtT_int, geT_int, truT_bl, truT_int, blT_bl, notT_bl, int1T_int, addI_int, eqT_int, neT_int, List.map_cons, List.map_nil, List.length_cons, List.length_nil, List.cons_append, List.nil_append, List.append_nil, List.getElem?_cons_zero, List.getElem?_cons_succ, List.set_cons_zero, List.set_cons_succ, List.replicate_succ, List.replicate_zero, Nat.reduceAdd, Nat.reduceSub, if_true, ite_true, reduceIte, Nat.zero_add, Nat.zero_le, decide_true, decide_false, Bool.not_true, Bool.not_false, Bool.false_eq_true, if_false]
theorem noughtsOf (hp : PP p) {n : Nat} {t : List Int} (hn : n ≤ 4) (h : t.length = 2 ^ n) (ht : Rs p t) : f_noughts_of [.int p, .tup (I t)] M = .ok (.int (N p n t)) M := by
  have hN := needTable (M := M) hp hn h ht
  have hr : f_noughts_in [.int p, .tup (I t)] M = .ok (.int (N p n t)) M := by
    have := rNoughts (M := M) hp (19 - n) n true t hn h
    rw [show n + 1 + (19 - n) = 20 by omega, sq_true] at this
    exact this
  simp only [f_noughts_of, m_noughts_of, hN, hr, seqS_ap, seqK_nx, seqK_ret, retS_ap, setS_ap, augS_ap, augK_some, asgS_ap, optS_some, ifS_ap, exprS_ap, nextS_ap, forS_ap, R.toS_ok, R.bind_ok, pureE_ap, bindE_ap, optE_some, varE_ap, op1_ap, op2_ap, opA_ap, bindO_ap, nilA_ap, consA_ap, callE_ap, andV_ap, andK_bl, orV_ap, orK_bl, ifV_ap, testE_ap, andB_ap, orB_ap, notB_ap, lstE_ap, compF_ap, dispF_ap, nilX_ap, valX_ap, ownX_ap, runF_ap, runK_ret, runK_nx, nameG_ap, forL_nil, forL_name, forK_nx, forK_ret, wipeR, lenT_tup, lenT_lst, lenT_sq, seqItems_tup, seqItems_lst, seqItems_sq, tupleT_lst, listT_lst, addT_int, subT_int, ltT_int, leT_int, gtT_int, geT_int, truT_bl, truT_int, blT_bl, notT_bl, int1T_int, addI_int, eqT_int, neT_int, List.map_cons, List.map_nil, List.length_cons, List.length_nil, List.cons_append, List.nil_append, List.append_nil, List.getElem?_cons_zero, List.getElem?_cons_succ, List.set_cons_zero, List.set_cons_succ, List.replicate_succ, List.replicate_zero, Nat.reduceAdd, Nat.reduceSub, if_true, ite_true, reduceIte, Nat.zero_add, Nat.zero_le, decide_true, decide_false, Bool.not_true, Bool.not_false, Bool.false_eq_true, if_false]

/-! ### lines -/
def lineI (p : Int) (t : Int) (a b : List Int) : List Int := (a.zip b).map fun q => (q.1 + t * (q.2 - q.1)) % p
theorem lineIn (hp : PP p) {a b : List Int} {t : Nat} (ha : a.length ≤ 4) (ht : t ≤ 5) : f_line_in [.int p, .tup (I a), .tup (I b), .int t] M = .ok (.tup (I (lineI p t a b))) M := by
  have hz : zip2 [.tup (I a), .tup (I b)] = some ((a.zip b).map fun q => T.tup [T.int q.1, T.int q.2]) := zip2_map (seqItems_tup _) (seqItems_tup _)
  have hc := compL_run (g := tupG 2 (consG (nameG 4) (consG (nameG 5) nilG))) (tt := yesB) (ρ := [.val (.int p), .val (.tup (I a)), .val (.tup (I b)), .val (.int t), .un, .un]) (M := M) (e := fun q : Int × Int => T.tup [T.int q.1, T.int q.2]) (te := op2 (op2 (varE 4) (op2 (varE 3) (op2 (varE 5) (varE 4) subT) mulT) addT) (varE 0) modT)
      (f := fun q : Int × Int => T.int ((q.1 + t * (q.2 - q.1)) % p)) (a.zip b) [] (fun q hq => ⟨_, tupG_two, rfl, by
        simp only [mulT_int (mulOk_l (i := (t : Int)) (by omega)), modT_int hp.pos, seqS_ap, seqK_nx, seqK_ret, retS_ap, setS_ap, augS_ap, augK_some, asgS_ap, optS_some, ifS_ap, exprS_ap, nextS_ap, forS_ap, R.toS_ok, R.bind_ok, pureE_ap, bindE_ap, optE_some, varE_ap, op1_ap, op2_ap, opA_ap, bindO_ap, nilA_ap, consA_ap, callE_ap, andV_ap, andK_bl, orV_ap, orK_bl, ifV_ap, testE_ap, andB_ap, orB_ap, notB_ap, lstE_ap, compF_ap, dispF_ap, nilX_ap, valX_ap, ownX_ap, runF_ap, runK_ret, runK_nx, nameG_ap, forL_nil, forL_name, forK_nx, forK_ret, wipeR, lenT_tup, lenT_lst, lenT_sq, seqItems_tup, seqItems_lst, seqItems_sq, tupleT_lst, listT_lst, addT_int, subT_int, ltT_int, leT_int, gtT_int, geT_int, truT_bl, truT_int, blT_bl, notT_bl, int1T_int, addI_int, eqT_int, neT_int, List.map_cons, List.map_nil, List.length_cons, List.length_nil, List.cons_append, List.nil_append, List.append_nil, List.getElem?_cons_zero, List.getElem?_cons_succ, List.set_cons_zero, List.set_cons_succ, List.replicate_succ, List.replicate_zero, Nat.reduceAdd, Nat.reduceSub, if_true, ite_true, reduceIte, Nat.zero_add, Nat.zero_le, decide_true, decide_false, Bool.not_true, Bool.not_false, Bool.false_eq_true, if_false]⟩) (by simp [line_eq]; omega)
  simp only [f_line_in, m_line_in, hz, hc, seqS_ap, seqK_nx, seqK_ret, retS_ap, setS_ap, augS_ap, augK_some, asgS_ap, optS_some, ifS_ap, exprS_ap, nextS_ap, forS_ap, R.toS_ok, R.bind_ok, pureE_ap, bindE_ap, optE_some, varE_ap, op1_ap, op2_ap, opA_ap, bindO_ap, nilA_ap, consA_ap, callE_ap, andV_ap, andK_bl, orV_ap, orK_bl, ifV_ap, testE_ap, andB_ap, orB_ap, notB_ap, lstE_ap, compF_ap, dispF_ap, nilX_ap, valX_ap, ownX_ap, runF_ap, runK_ret, runK_nx, nameG_ap, forL_nil, forL_name, forK_nx, forK_ret, wipeR, lenT_tup, lenT_lst, lenT_sq, seqItems_tup, seqItems_lst, seqItems_sq, tupleT_lst, listT_lst, addT_int, subT_int, ltT_int, leT_int, gtT_int, geT_int, truT_bl, truT_int, blT_bl, notT_bl, int1T_int, addI_int, eqT_int, neT_int, List.map_cons, List.map_nil, List.length_cons, List.length_nil, List.cons_append, List.nil_append, List.append_nil, List.getElem?_cons_zero, List.getElem?_cons_succ, List.set_cons_zero, List.set_cons_succ, List.replicate_succ, List.replicate_zero, Nat.reduceAdd, Nat.reduceSub, if_true, ite_true, reduceIte, Nat.zero_add, Nat.zero_le, decide_true, decide_false, Bool.not_true, Bool.not_false, Bool.false_eq_true, if_false]
  simp [lineI, I]
theorem alongIn (hp : PP p) {b : Bool} {t a d : List Int} (ht : t.length = 2 ^ a.length) (ha : a.length ≤ 4) (had : a.length = d.length) : f_along_in [.int p, .tup (I t), .tup (I a), .tup (I d)] M = .ok (.tup (I ((List.range (a.length + 1)).map fun (x : Nat) => (manyL p t (lineI p x a d)).headD 0))) M := by
  have hl : ∀ x : Nat, (lineI p x a d).length = a.length := by intro x; simp [lineI, had]
  have hr : ∀ x : Nat, Rs p (lineI p x a d) := by
    intro x w hw
    obtain ⟨q, _, rfl⟩ := List.mem_map.mp hw
    exact ⟨Int.emod_nonneg _ (Int.ne_of_gt hp.pos), Int.emod_lt_of_pos _ hp.pos⟩
  have hc := compL_name (ρ := [.val (.int p), .val (.tup (I t)), .val (.tup (I a)), .val (.tup (I d)), .un]) (M := M) (i := 4) (e := fun (i : Nat) => T.int (i : Int)) (te := callE 3 f_many_in (consA (varE 0) (consA (varE 1) (consA (callE 4 f_line_in (consA (varE 0) (consA (varE 2) (consA (varE 3) (consA (varE 4) (nilA)))))) (nilA)))))
      (f := fun (x : Nat) => T.int ((manyL p t (lineI p x a d)).headD 0)) (List.range (a.length + 1)) (fun x hx => by
        have hx := List.mem_range.mp hx
        have h1 := lineIn (M := M) (b := d) hp ha (show x ≤ 5 by omega)
        have h2 := manyIn (M := M) (b := true) (t := t) (zs := lineI p x a d) hp (by rw [hl]; exact ht) (hr x) (by rw [hl]; exact ha)
        rw [sq_true] at h2
        simp only [h1, h2, seqS_ap, seqK_nx, seqK_ret, retS_ap, setS_ap, augS_ap, augK_some, asgS_ap, optS_some, ifS_ap, exprS_ap, nextS_ap, forS_ap, R.toS_ok, R.bind_ok, pureE_ap, bindE_ap, optE_some, varE_ap, op1_ap, op2_ap, opA_ap, bindO_ap, nilA_ap, consA_ap, callE_ap, andV_ap, andK_bl, orV_ap, orK_bl, ifV_ap, testE_ap, andB_ap, orB_ap, notB_ap, lstE_ap, compF_ap, dispF_ap, nilX_ap, valX_ap, ownX_ap, runF_ap, runK_ret, runK_nx, nameG_ap, forL_nil, forL_name, forK_nx, forK_ret, wipeR, lenT_tup, lenT_lst, lenT_sq, seqItems_tup, seqItems_lst, seqItems_sq, tupleT_lst, listT_lst, addT_int, subT_int, ltT_int, leT_int, gtT_int, geT_int, truT_bl, truT_int, blT_bl, notT_bl, int1T_int, addI_int, eqT_int, neT_int, List.map_cons, List.map_nil, List.length_cons, List.length_nil, List.cons_append, List.nil_append, List.append_nil, List.getElem?_cons_zero, List.getElem?_cons_succ, List.set_cons_zero, List.set_cons_succ, List.replicate_succ, List.replicate_zero, Nat.reduceAdd, Nat.reduceSub, if_true, ite_true, reduceIte, Nat.zero_add, Nat.zero_le, decide_true, decide_false, Bool.not_true, Bool.not_false, Bool.false_eq_true, if_false]) (by rw [List.length_range, line_eq]; omega)
  have hr := rng1_nat (a.length + 1) (by omega)
  have e : ((a.length : Int) + 1) = ((a.length + 1 : Nat) : Int) := by omega
  simp only [f_along_in, m_along_in, e, hr, hc, List.length_map, seqS_ap, seqK_nx, seqK_ret, retS_ap, setS_ap, augS_ap, augK_some, asgS_ap, optS_some, ifS_ap, exprS_ap, nextS_ap, forS_ap, R.toS_ok, R.bind_ok, pureE_ap, bindE_ap, optE_some, varE_ap, op1_ap, op2_ap, opA_ap, bindO_ap, nilA_ap, consA_ap, callE_ap, andV_ap, andK_bl, orV_ap, orK_bl, ifV_ap, testE_ap, andB_ap, orB_ap, notB_ap, lstE_ap, compF_ap, dispF_ap, nilX_ap, valX_ap, ownX_ap, runF_ap, runK_ret, runK_nx, nameG_ap, forL_nil, forL_name, forK_nx, forK_ret, wipeR, lenT_tup, lenT_lst, lenT_sq, seqItems_tup, seqItems_lst, seqItems_sq, tupleT_lst, listT_lst, addT_int, subT_int, ltT_int, leT_int, gtT_int, geT_int, truT_bl, truT_int, blT_bl, notT_bl, int1T_int, addI_int, eqT_int, neT_int, List.map_cons, List.map_nil, List.length_cons, List.length_nil, List.cons_append, List.nil_append, List.append_nil, List.getElem?_cons_zero, List.getElem?_cons_succ, List.set_cons_zero, List.set_cons_succ, List.replicate_succ, List.replicate_zero, Nat.reduceAdd, Nat.reduceSub, if_true, ite_true, reduceIte, Nat.zero_add, Nat.zero_le, decide_true, decide_false, Bool.not_true, Bool.not_false, Bool.false_eq_true, if_false]
  rw [I, List.map_map]
  rfl

theorem weightLoop (hp : PP p) (pt : T) : ∀ (zs : List Int) (j : Nat) (w : Int) (s4 : Slot), Rs p zs →
    ∃ j' s', forL (nameG 4) (seqS (setS 3 (op2 (op2 (varE 3) (ifV (testE truT (op2 (varE 1) (pureE (.int 2)) modT)) (varE 4) (op2 (pureE (.int 1)) (varE 4) subT)) mulT) (varE 0) modT)) (augS 1 (pureE (.int 2)) fdivI)) (I zs) [.val (.int p), .val (.int j), .val pt, .val (.int w), s4] M = .nx [.val (.int p), j', .val pt, .val (.int (weigh p j w zs)), s'] M
  | [], j, w, s4, hr => ⟨_, s4, rfl⟩
  | z :: zs, j, w, s4, hr => by
    have hz := hr z (by simp)
    have hpl := hp.le
    obtain ⟨j', s', ih⟩ := weightLoop hp pt zs (j / 2) (w * (if j % 2 = 1 then z else 1 - z) % p) (.val (.int z)) (fun w hw => hr w (by simp [hw]))
    refine ⟨j', s', ?_⟩
    have h2 : ((j : Int) % 2 != 0) = decide (j % 2 = 1) := by
      by_cases c : j % 2 = 1
      · have : (j : Int) % 2 ≠ 0 := by omega
        simp [c, this]
      · have : (j : Int) % 2 = 0 := by omega
        simp [c, this]
    have h3 : (j : Int) / 2 = ((j / 2 : Nat) : Int) := by omega
    have h4 := modT_int (i := (j : Int)) (j := 2) (by decide)
    have h5 := fdivI_int (i := (j : Int)) (j := 2) (by decide)
    simp only [I, List.map_cons] at ih ⊢
    by_cases c : j % 2 = 1
    · simp only [c, if_true] at ih
      simp only [h2, h3, h4, h5, c, decide_true, mulT_int (mulOk_r (i := w) (j := z) (by omega)), modT_int hp.pos, weigh, seqS_ap, seqK_nx, seqK_ret, retS_ap, setS_ap, augS_ap, augK_some, asgS_ap, optS_some, ifS_ap, exprS_ap, nextS_ap, forS_ap, R.toS_ok, R.bind_ok, pureE_ap, bindE_ap, optE_some, varE_ap, op1_ap, op2_ap, opA_ap, bindO_ap, nilA_ap, consA_ap, callE_ap, andV_ap, andK_bl, orV_ap, orK_bl, ifV_ap, testE_ap, andB_ap, orB_ap, notB_ap, lstE_ap, compF_ap, dispF_ap, nilX_ap, valX_ap, ownX_ap, runF_ap, runK_ret, runK_nx, nameG_ap, forL_nil, forL_name, forK_nx, forK_ret, wipeR, lenT_tup, lenT_lst, lenT_sq, seqItems_tup, seqItems_lst, seqItems_sq, tupleT_lst, listT_lst, addT_int, subT_int, ltT_int, leT_int, gtT_int, geT_int, truT_bl, truT_int, blT_bl, notT_bl, int1T_int, addI_int, eqT_int, neT_int, List.map_cons, List.map_nil, List.length_cons, List.length_nil, List.cons_append, List.nil_append, List.append_nil, List.getElem?_cons_zero, List.getElem?_cons_succ, List.set_cons_zero, List.set_cons_succ, List.replicate_succ, List.replicate_zero, Nat.reduceAdd, Nat.reduceSub, if_true, ite_true, reduceIte, Nat.zero_add, Nat.zero_le, decide_true, decide_false, Bool.not_true, Bool.not_false, Bool.false_eq_true, if_false]
      exact ih
    · simp only [c, if_false] at ih
      simp only [h2, h3, h4, h5, c, decide_false, Bool.false_eq_true, if_false, mulT_int (mulOk_r (i := w) (j := 1 - z) (by omega)), modT_int hp.pos, weigh, seqS_ap, seqK_nx, seqK_ret, retS_ap, setS_ap, augS_ap, augK_some, asgS_ap, optS_some, ifS_ap, exprS_ap, nextS_ap, forS_ap, R.toS_ok, R.bind_ok, pureE_ap, bindE_ap, optE_some, varE_ap, op1_ap, op2_ap, opA_ap, bindO_ap, nilA_ap, consA_ap, callE_ap, andV_ap, andK_bl, orV_ap, orK_bl, ifV_ap, testE_ap, andB_ap, orB_ap, notB_ap, lstE_ap, compF_ap, dispF_ap, nilX_ap, valX_ap, ownX_ap, runF_ap, runK_ret, runK_nx, nameG_ap, forL_nil, forL_name, forK_nx, forK_ret, wipeR, lenT_tup, lenT_lst, lenT_sq, seqItems_tup, seqItems_lst, seqItems_sq, tupleT_lst, listT_lst, addT_int, subT_int, ltT_int, leT_int, gtT_int, geT_int, truT_bl, truT_int, blT_bl, notT_bl, int1T_int, addI_int, eqT_int, neT_int, List.map_cons, List.map_nil, List.length_cons, List.length_nil, List.cons_append, List.nil_append, List.append_nil, List.getElem?_cons_zero, List.getElem?_cons_succ, List.set_cons_zero, List.set_cons_succ, List.replicate_succ, List.replicate_zero, Nat.reduceAdd, Nat.reduceSub, if_true, ite_true, reduceIte, Nat.zero_add, Nat.zero_le, decide_true, decide_false, Bool.not_true, Bool.not_false, Bool.false_eq_true, if_false]
      exact ih
theorem cornerWeight (hp : PP p) {zs : List Int} {j : Nat} (hj : j < 2 ^ zs.length) (hr : Rs p zs) (hl : zs.length ≤ 4) : f_corner_weight [.int p, .int j, .tup (I zs)] M = .ok (.int (weigh p j 1 zs)) M := by
  obtain ⟨j', s', e⟩ := weightLoop (M := M) hp (.tup (I zs)) zs j 1 .un hr
  have hA := allRests (M := M) hr (by rw [line_eq]; omega)
  have hD := doubled (M := M) hl
  have hw : f_weight_in [.int p, .int j, .tup (I zs)] M = .ok (.int (weigh p j 1 zs)) M := by
    simp only [f_weight_in, m_weight_in, e, seqS_ap, seqK_nx, seqK_ret, retS_ap, setS_ap, augS_ap, augK_some, asgS_ap, optS_some, ifS_ap, exprS_ap, nextS_ap, forS_ap, R.toS_ok, R.bind_ok, pureE_ap, bindE_ap, optE_some, varE_ap, op1_ap, op2_ap, opA_ap, bindO_ap, nilA_ap, consA_ap, callE_ap, andV_ap, andK_bl, orV_ap, orK_bl, ifV_ap, testE_ap, andB_ap, orB_ap, notB_ap, lstE_ap, compF_ap, dispF_ap, nilX_ap, valX_ap, ownX_ap, runF_ap, runK_ret, runK_nx, nameG_ap, forL_nil, forL_name, forK_nx, forK_ret, wipeR, lenT_tup, lenT_lst, lenT_sq, seqItems_tup, seqItems_lst, seqItems_sq, tupleT_lst, listT_lst, addT_int, subT_int, ltT_int, leT_int, gtT_int, geT_int, truT_bl, truT_int, blT_bl, notT_bl, int1T_int, addI_int, eqT_int, neT_int, List.map_cons, List.map_nil, List.length_cons, List.length_nil, List.cons_append, List.nil_append, List.append_nil, List.getElem?_cons_zero, List.getElem?_cons_succ, List.set_cons_zero, List.set_cons_succ, List.replicate_succ, List.replicate_zero, Nat.reduceAdd, Nat.reduceSub, if_true, ite_true, reduceIte, Nat.zero_add, Nat.zero_le, decide_true, decide_false, Bool.not_true, Bool.not_false, Bool.false_eq_true, if_false]
  have h1 : (0 : Int) ≤ (j : Int) := by omega
  have h2 : ¬ (((2 ^ zs.length : Nat) : Int) ≤ (j : Int)) := by omega
  simp only [f_corner_weight, m_corner_weight, needPrime hp, hA, count, h1, hD, hw, h2, decide_true, decide_false, Bool.not_true, Bool.false_eq_true, if_false, List.length_map, seqS_ap, seqK_nx, seqK_ret, retS_ap, setS_ap, augS_ap, augK_some, asgS_ap, optS_some, ifS_ap, exprS_ap, nextS_ap, forS_ap, R.toS_ok, R.bind_ok, pureE_ap, bindE_ap, optE_some, varE_ap, op1_ap, op2_ap, opA_ap, bindO_ap, nilA_ap, consA_ap, callE_ap, andV_ap, andK_bl, orV_ap, orK_bl, ifV_ap, testE_ap, andB_ap, orB_ap, notB_ap, lstE_ap, compF_ap, dispF_ap, nilX_ap, valX_ap, ownX_ap, runF_ap, runK_ret, runK_nx, nameG_ap, forL_nil, forL_name, forK_nx, forK_ret, wipeR, lenT_tup, lenT_lst, lenT_sq, seqItems_tup, seqItems_lst, seqItems_sq, tupleT_lst, listT_lst, addT_int, subT_int, ltT_int, leT_int, gtT_int, geT_int, truT_bl, truT_int, blT_bl, notT_bl, int1T_int, addI_int, eqT_int, neT_int, List.map_cons, List.map_nil, List.length_cons, List.length_nil, List.cons_append, List.nil_append, List.append_nil, List.getElem?_cons_zero, List.getElem?_cons_succ, List.set_cons_zero, List.set_cons_succ, List.replicate_succ, List.replicate_zero, Nat.reduceAdd, Nat.reduceSub, if_true, ite_true, reduceIte, Nat.zero_add, Nat.zero_le, decide_true, decide_false, Bool.not_true, Bool.not_false, Bool.false_eq_true, if_false]
theorem alongLine (hp : PP p) {t a d : List Int} (ht : t.length = 2 ^ a.length) (hr : Rs p t) (hra : Rs p a) (hrd : Rs p d) (ha : a.length ≤ 4) (had : a.length = d.length) : f_along_line [.int p, .tup (I t), .tup (I a), .tup (I d)] M = .ok (.tup (I ((List.range (a.length + 1)).map fun (x : Nat) => (manyL p t (lineI p x a d)).headD 0))) M := by
  have hpl := hp.le
  have hL := lettersIn (M := M) ha
  have hN := needTable (M := M) hp ha ht hr
  have hP := needPoint (M := M) hra ha
  have hP2 := needPoint (M := M) hrd (by omega)
  rw [← had] at hP2
  have hM := alongIn (M := M) (b := true) hp ht ha had
  rw [← ht] at hL
  have h2 : ¬ ((p : Int) ≤ (a.length : Int)) := by omega
  simp only [f_along_line, m_along_line, hN, hP, hP2, hL, hM, h2, decide_false, Bool.false_eq_true, if_false, List.length_map, seqS_ap, seqK_nx, seqK_ret, retS_ap, setS_ap, augS_ap, augK_some, asgS_ap, optS_some, ifS_ap, exprS_ap, nextS_ap, forS_ap, R.toS_ok, R.bind_ok, pureE_ap, bindE_ap, optE_some, varE_ap, op1_ap, op2_ap, opA_ap, bindO_ap, nilA_ap, consA_ap, callE_ap, andV_ap, andK_bl, orV_ap, orK_bl, ifV_ap, testE_ap, andB_ap, orB_ap, notB_ap, lstE_ap, compF_ap, dispF_ap, nilX_ap, valX_ap, ownX_ap, runF_ap, runK_ret, runK_nx, nameG_ap, forL_nil, forL_name, forK_nx, forK_ret, wipeR, lenT_tup, lenT_lst, lenT_sq, seqItems_tup, seqItems_lst, seqItems_sq, tupleT_lst, listT_lst, addT_int, subT_int, ltT_int, leT_int, gtT_int, geT_int, truT_bl, truT_int, blT_bl, notT_bl, int1T_int, addI_int, eqT_int, neT_int, List.map_cons, List.map_nil, List.length_cons, List.length_nil, List.cons_append, List.nil_append, List.append_nil, List.getElem?_cons_zero, List.getElem?_cons_succ, List.set_cons_zero, List.set_cons_succ, List.replicate_succ, List.replicate_zero, Nat.reduceAdd, Nat.reduceSub, if_true, ite_true, reduceIte, Nat.zero_add, Nat.zero_le, decide_true, decide_false, Bool.not_true, Bool.not_false, Bool.false_eq_true, if_false]
theorem linePoint (hp : PP p) {a b : List Int} {t : Nat} (ha : a.length ≤ 4) (had : a.length = b.length) (hra : Rs p a) (hrd : Rs p b) (ht : t ≤ 4) : f_line_point [.int p, .tup (I a), .tup (I b), .int t] M = .ok (.tup (I (lineI p t a b))) M := by
  have hpl := hp.le
  have h1 := lineIn (M := M) (b := b) hp ha (show t ≤ 5 by omega)
  have hA := allRests (M := M) hra (by rw [line_eq]; omega)
  have hB := allRests (M := M) hrd (by rw [line_eq]; omega)
  have hn := needRest (M := M) (p := p) (x := (t : Int)) (by omega)
  have ht2 := fun (x y : T) => tupT_of (ts := [x, y]) (by decide : 2 ≤ 1000000)
  have ht1 := fun (x : T) => tupT_of (ts := [x]) (by decide : 1 ≤ 1000000)
  simp only [f_line_point, m_line_point, needPrime hp, hA, hB, hn, h1, ht2, ht1, had, decide_true, Bool.not_true, Bool.false_eq_true, if_false, List.length_map, seqS_ap, seqK_nx, seqK_ret, retS_ap, setS_ap, augS_ap, augK_some, asgS_ap, optS_some, ifS_ap, exprS_ap, nextS_ap, forS_ap, R.toS_ok, R.bind_ok, pureE_ap, bindE_ap, optE_some, varE_ap, op1_ap, op2_ap, opA_ap, bindO_ap, nilA_ap, consA_ap, callE_ap, andV_ap, andK_bl, orV_ap, orK_bl, ifV_ap, testE_ap, andB_ap, orB_ap, notB_ap, lstE_ap, compF_ap, dispF_ap, nilX_ap, valX_ap, ownX_ap, runF_ap, runK_ret, runK_nx, nameG_ap, forL_nil, forL_name, forK_nx, forK_ret, wipeR, lenT_tup, lenT_lst, lenT_sq, seqItems_tup, seqItems_lst, seqItems_sq, tupleT_lst, listT_lst, addT_int, subT_int, ltT_int, leT_int, gtT_int, geT_int, truT_bl, truT_int, blT_bl, notT_bl, int1T_int, addI_int, eqT_int, neT_int, List.map_cons, List.map_nil, List.length_cons, List.length_nil, List.cons_append, List.nil_append, List.append_nil, List.getElem?_cons_zero, List.getElem?_cons_succ, List.set_cons_zero, List.set_cons_succ, List.replicate_succ, List.replicate_zero, Nat.reduceAdd, Nat.reduceSub, if_true, ite_true, reduceIte, Nat.zero_add, Nat.zero_le, decide_true, decide_false, Bool.not_true, Bool.not_false, Bool.false_eq_true, if_false]

/-! ### the pen -/
def penM (cs : List Int) (a : Nat) (d c f : Int) : Sto := [.dK [(.inr ("cells" : Str), .lst (I cs)), (.inr ("at" : Str), .int a), (.inr ("digits" : Str), .int d), (.inr ("count" : Str), .int c), (.inr ("fold" : Str), .int f)]]
def PenOk (b : Nat) (M : Sto) : Prop := ∃ cs a d c f, M = penM cs a d c f ∧ 0 ≤ d ∧ 0 ≤ c ∧ c ≤ b ∧ 0 ≤ f ∧ f < 2 ^ 40
theorem PenOk.mono {b b' : Nat} (h : PenOk b M) (hb : b ≤ b') : PenOk b' M := by
  obtain ⟨cs, a, d, c, f, e, h1, h2, h3, h4, h5⟩ := h
  exact ⟨cs, a, d, c, f, e, h1, h2, by omega, h4, h5⟩
section
variable {cs : List Int} {a : Nat} {d c f : Int} {ρ : List Slot}
theorem penCells : subE (varE 0) (pureE (.str ("cells" : Str))) (.val (.ptr 0) :: ρ) (penM cs a d c f) = .ok (.lst (I cs)) (penM cs a d c f) := sub_dict rfl rfl rfl rfl
theorem penAt : subE (varE 0) (pureE (.str ("at" : Str))) (.val (.ptr 0) :: ρ) (penM cs a d c f) = .ok (.int a) (penM cs a d c f) := sub_dict rfl rfl rfl rfl
theorem penDigits : subE (varE 0) (pureE (.str ("digits" : Str))) (.val (.ptr 0) :: ρ) (penM cs a d c f) = .ok (.int d) (penM cs a d c f) := sub_dict rfl rfl rfl rfl
theorem penCount : subE (varE 0) (pureE (.str ("count" : Str))) (.val (.ptr 0) :: ρ) (penM cs a d c f) = .ok (.int c) (penM cs a d c f) := sub_dict rfl rfl rfl rfl
theorem penFold : subE (varE 0) (pureE (.str ("fold" : Str))) (.val (.ptr 0) :: ρ) (penM cs a d c f) = .ok (.int f) (penM cs a d c f) := sub_dict rfl rfl rfl rfl
variable {mv : EM T} {M : Sto}
theorem putAt {x : Nat} (h : mv (.val (.ptr 0) :: ρ) M = .ok (.int x) (penM cs a d c f)) : putS mv (varE 0) (pureE (.str ("at" : Str))) (.val (.ptr 0) :: ρ) M = .nx (.val (.ptr 0) :: ρ) (penM cs x d c f) := (put_dict (i := 0) (k := ("at" : Str)) (M1 := penM cs a d c f) (M2 := penM cs a d c f) (M3 := penM cs a d c f) (kvs := [(.inr ("cells" : Str), .lst (I cs)), (.inr ("at" : Str), .int a), (.inr ("digits" : Str), .int d), (.inr ("count" : Str), .int c), (.inr ("fold" : Str), .int f)]) h rfl rfl rfl (show 5 < 1000000 by decide)).trans rfl
theorem putDigits {x : Int} (h : mv (.val (.ptr 0) :: ρ) M = .ok (.int x) (penM cs a d c f)) : putS mv (varE 0) (pureE (.str ("digits" : Str))) (.val (.ptr 0) :: ρ) M = .nx (.val (.ptr 0) :: ρ) (penM cs a x c f) := (put_dict (i := 0) (k := ("digits" : Str)) (M1 := penM cs a d c f) (M2 := penM cs a d c f) (M3 := penM cs a d c f) (kvs := [(.inr ("cells" : Str), .lst (I cs)), (.inr ("at" : Str), .int a), (.inr ("digits" : Str), .int d), (.inr ("count" : Str), .int c), (.inr ("fold" : Str), .int f)]) h rfl rfl rfl (show 5 < 1000000 by decide)).trans rfl
theorem putCount {x : Int} (h : mv (.val (.ptr 0) :: ρ) M = .ok (.int x) (penM cs a d c f)) : putS mv (varE 0) (pureE (.str ("count" : Str))) (.val (.ptr 0) :: ρ) M = .nx (.val (.ptr 0) :: ρ) (penM cs a d x f) := (put_dict (i := 0) (k := ("count" : Str)) (M1 := penM cs a d c f) (M2 := penM cs a d c f) (M3 := penM cs a d c f) (kvs := [(.inr ("cells" : Str), .lst (I cs)), (.inr ("at" : Str), .int a), (.inr ("digits" : Str), .int d), (.inr ("count" : Str), .int c), (.inr ("fold" : Str), .int f)]) h rfl rfl rfl (show 5 < 1000000 by decide)).trans rfl
theorem putFold {x : Int} (h : mv (.val (.ptr 0) :: ρ) M = .ok (.int x) (penM cs a d c f)) : putS mv (varE 0) (pureE (.str ("fold" : Str))) (.val (.ptr 0) :: ρ) M = .nx (.val (.ptr 0) :: ρ) (penM cs a d c x) := (put_dict (i := 0) (k := ("fold" : Str)) (M1 := penM cs a d c f) (M2 := penM cs a d c f) (M3 := penM cs a d c f) (kvs := [(.inr ("cells" : Str), .lst (I cs)), (.inr ("at" : Str), .int a), (.inr ("digits" : Str), .int d), (.inr ("count" : Str), .int c), (.inr ("fold" : Str), .int f)]) h rfl rfl rfl (show 5 < 1000000 by decide)).trans rfl
end

/-- the first half of a draw -/
def drawA : SM := ifS (andB (testE blT (op2 (subE (varE 0) (pureE (.str ("digits" : Str)))) (pureE (.int 0)) eqT)) (testE blT (op2 (subE (varE 0) (pureE (.str ("at" : Str)))) (opA (consA (subE (varE 0) (pureE (.str ("cells" : Str)))) (nilA)) lenT) ltT))) (seqS (setS 3 (subE (subE (varE 0) (pureE (.str ("cells" : Str)))) (subE (varE 0) (pureE (.str ("at" : Str)))))) (seqS (putS (op2 (subE (varE 0) (pureE (.str ("at" : Str)))) (pureE (.int 1)) addT) (varE 0) (pureE (.str ("at" : Str)))) (ifS (testE blT (op2 (varE 3) (op2 (pureE (.int 10)) (pureE (.int 18)) powT) geT)) (putS (op2 (varE 3) (op2 (pureE (.int 10)) (pureE (.int 18)) powT) subT) (varE 0) (pureE (.str ("digits" : Str)))) (putS (op2 (opA (consA (op2 (op2 (subE (varE 0) (pureE (.str ("fold" : Str)))) (pureE (.int 60289)) mulT) (varE 3) addT) (nilA)) int1T) (pureE (.int 2147483563)) modT) (varE 0) (pureE (.str ("fold" : Str))))))) (nextS)
theorem pow18 : powT (.int 10) (.int 18) = some (.int 1000000000000000000) := by
  rw [powT_int (by decide) (by decide) (by decide)]
  rfl
theorem drawA_run {cs : List Int} {a : Nat} {d c f : Int} {many : T} (hd : 0 ≤ d) (hf : 0 ≤ f ∧ f < 2 ^ 40) : ∃ a' d' f' s3, drawA [.val (.ptr 0), .val many, .un, .un, .un] (penM cs a d c f) = .nx [.val (.ptr 0), .val many, .un, s3, .un] (penM cs a' d' c f') ∧ 0 ≤ d' ∧ 0 ≤ f' ∧ f' < 2 ^ 40 := by
  by_cases c1 : d = 0
  · by_cases c2 : a < cs.length
    · have e1 : (I cs)[a]? = some (.int (cs.getD a 0)) := by simp [I, c2]
      have g1 := sub_lst (ρ := [.val (.ptr 0), .val many, .un, .un, .un]) (M := penM cs a d c f) e1 (ma := subE (varE 0) (pureE (.str ("cells" : Str)))) (mb := subE (varE 0) (pureE (.str ("at" : Str)))) penCells penAt
      have c3 : ((a : Int) < (cs.length : Int)) := by omega
      by_cases c4 : (1000000000000000000 : Int) ≤ cs.getD a 0
      · refine ⟨a + 1, cs.getD a 0 - 1000000000000000000, f, .val (.int (cs.getD a 0)), ?_, by omega, hf.1, hf.2⟩
        have p1 := putAt (ρ := [.val many, .un, .val (.int (cs.getD a 0)), .un]) (M := penM cs a d c f) (cs := cs) (a := a) (d := d) (c := c) (f := f) (mv := op2 (subE (varE 0) (pureE (.str ("at" : Str)))) (pureE (.int 1)) addT) (x := a + 1) (by simp only [penAt, seqS_ap, seqK_nx, seqK_ret, retS_ap, setS_ap, augS_ap, augK_some, asgS_ap, optS_some, ifS_ap, exprS_ap, nextS_ap, forS_ap, R.toS_ok, R.bind_ok, pureE_ap, bindE_ap, optE_some, varE_ap, op1_ap, op2_ap, opA_ap, bindO_ap, nilA_ap, consA_ap, callE_ap, andV_ap, andK_bl, orV_ap, orK_bl, ifV_ap, testE_ap, andB_ap, orB_ap, notB_ap, lstE_ap, compF_ap, dispF_ap, nilX_ap, valX_ap, ownX_ap, runF_ap, runK_ret, runK_nx, nameG_ap, forL_nil, forL_name, forK_nx, forK_ret, wipeR, lenT_tup, lenT_lst, lenT_sq, seqItems_tup, seqItems_lst, seqItems_sq, tupleT_lst, listT_lst, addT_int, subT_int, ltT_int, leT_int, gtT_int, geT_int, truT_bl, truT_int, blT_bl, notT_bl, int1T_int, addI_int, eqT_int, neT_int, List.map_cons, List.map_nil, List.length_cons, List.length_nil, List.cons_append, List.nil_append, List.append_nil, List.getElem?_cons_zero, List.getElem?_cons_succ, List.set_cons_zero, List.set_cons_succ, List.replicate_succ, List.replicate_zero, Nat.reduceAdd, Nat.reduceSub, if_true, ite_true, reduceIte, Nat.zero_add, Nat.zero_le, decide_true, decide_false, Bool.not_true, Bool.not_false, Bool.false_eq_true, if_false]; rfl)
        have p2 := putDigits (ρ := [.val many, .un, .val (.int (cs.getD a 0)), .un]) (M := penM cs (a + 1) d c f) (cs := cs) (a := a + 1) (d := d) (c := c) (f := f) (mv := op2 (varE 3) (op2 (pureE (.int 10)) (pureE (.int 18)) powT) subT) (x := cs.getD a 0 - 1000000000000000000) (by simp only [pow18, seqS_ap, seqK_nx, seqK_ret, retS_ap, setS_ap, augS_ap, augK_some, asgS_ap, optS_some, ifS_ap, exprS_ap, nextS_ap, forS_ap, R.toS_ok, R.bind_ok, pureE_ap, bindE_ap, optE_some, varE_ap, op1_ap, op2_ap, opA_ap, bindO_ap, nilA_ap, consA_ap, callE_ap, andV_ap, andK_bl, orV_ap, orK_bl, ifV_ap, testE_ap, andB_ap, orB_ap, notB_ap, lstE_ap, compF_ap, dispF_ap, nilX_ap, valX_ap, ownX_ap, runF_ap, runK_ret, runK_nx, nameG_ap, forL_nil, forL_name, forK_nx, forK_ret, wipeR, lenT_tup, lenT_lst, lenT_sq, seqItems_tup, seqItems_lst, seqItems_sq, tupleT_lst, listT_lst, addT_int, subT_int, ltT_int, leT_int, gtT_int, geT_int, truT_bl, truT_int, blT_bl, notT_bl, int1T_int, addI_int, eqT_int, neT_int, List.map_cons, List.map_nil, List.length_cons, List.length_nil, List.cons_append, List.nil_append, List.append_nil, List.getElem?_cons_zero, List.getElem?_cons_succ, List.set_cons_zero, List.set_cons_succ, List.replicate_succ, List.replicate_zero, Nat.reduceAdd, Nat.reduceSub, if_true, ite_true, reduceIte, Nat.zero_add, Nat.zero_le, decide_true, decide_false, Bool.not_true, Bool.not_false, Bool.false_eq_true, if_false])
        simp only [drawA, penDigits, penAt, penCells, g1, p1, p2, pow18, c1, c3, c4, decide_true, List.length_map, seqS_ap, seqK_nx, seqK_ret, retS_ap, setS_ap, augS_ap, augK_some, asgS_ap, optS_some, ifS_ap, exprS_ap, nextS_ap, forS_ap, R.toS_ok, R.bind_ok, pureE_ap, bindE_ap, optE_some, varE_ap, op1_ap, op2_ap, opA_ap, bindO_ap, nilA_ap, consA_ap, callE_ap, andV_ap, andK_bl, orV_ap, orK_bl, ifV_ap, testE_ap, andB_ap, orB_ap, notB_ap, lstE_ap, compF_ap, dispF_ap, nilX_ap, valX_ap, ownX_ap, runF_ap, runK_ret, runK_nx, nameG_ap, forL_nil, forL_name, forK_nx, forK_ret, wipeR, lenT_tup, lenT_lst, lenT_sq, seqItems_tup, seqItems_lst, seqItems_sq, tupleT_lst, listT_lst, addT_int, subT_int, ltT_int, leT_int, gtT_int, geT_int, truT_bl, truT_int, blT_bl, notT_bl, int1T_int, addI_int, eqT_int, neT_int, List.map_cons, List.map_nil, List.length_cons, List.length_nil, List.cons_append, List.nil_append, List.append_nil, List.getElem?_cons_zero, List.getElem?_cons_succ, List.set_cons_zero, List.set_cons_succ, List.replicate_succ, List.replicate_zero, Nat.reduceAdd, Nat.reduceSub, if_true, ite_true, reduceIte, Nat.zero_add, Nat.zero_le, decide_true, decide_false, Bool.not_true, Bool.not_false, Bool.false_eq_true, if_false] at g1 p1 p2 ⊢
        simp only [g1, p1, p2, pow18, c4, decide_true, seqS_ap, seqK_nx, seqK_ret, retS_ap, setS_ap, augS_ap, augK_some, asgS_ap, optS_some, ifS_ap, exprS_ap, nextS_ap, forS_ap, R.toS_ok, R.bind_ok, pureE_ap, bindE_ap, optE_some, varE_ap, op1_ap, op2_ap, opA_ap, bindO_ap, nilA_ap, consA_ap, callE_ap, andV_ap, andK_bl, orV_ap, orK_bl, ifV_ap, testE_ap, andB_ap, orB_ap, notB_ap, lstE_ap, compF_ap, dispF_ap, nilX_ap, valX_ap, ownX_ap, runF_ap, runK_ret, runK_nx, nameG_ap, forL_nil, forL_name, forK_nx, forK_ret, wipeR, lenT_tup, lenT_lst, lenT_sq, seqItems_tup, seqItems_lst, seqItems_sq, tupleT_lst, listT_lst, addT_int, subT_int, ltT_int, leT_int, gtT_int, geT_int, truT_bl, truT_int, blT_bl, notT_bl, int1T_int, addI_int, eqT_int, neT_int, List.map_cons, List.map_nil, List.length_cons, List.length_nil, List.cons_append, List.nil_append, List.append_nil, List.getElem?_cons_zero, List.getElem?_cons_succ, List.set_cons_zero, List.set_cons_succ, List.replicate_succ, List.replicate_zero, Nat.reduceAdd, Nat.reduceSub, if_true, ite_true, reduceIte, Nat.zero_add, Nat.zero_le, decide_true, decide_false, Bool.not_true, Bool.not_false, Bool.false_eq_true, if_false]
      · refine ⟨a + 1, d, (f * 60289 + cs.getD a 0) % 2147483563, .val (.int (cs.getD a 0)), ?_, hd, Int.emod_nonneg _ (by decide), Int.lt_of_lt_of_le (Int.emod_lt_of_pos _ (by decide)) (by decide)⟩
        have p1 := putAt (ρ := [.val many, .un, .val (.int (cs.getD a 0)), .un]) (M := penM cs a d c f) (cs := cs) (a := a) (d := d) (c := c) (f := f) (mv := op2 (subE (varE 0) (pureE (.str ("at" : Str)))) (pureE (.int 1)) addT) (x := a + 1) (by simp only [penAt, seqS_ap, seqK_nx, seqK_ret, retS_ap, setS_ap, augS_ap, augK_some, asgS_ap, optS_some, ifS_ap, exprS_ap, nextS_ap, forS_ap, R.toS_ok, R.bind_ok, pureE_ap, bindE_ap, optE_some, varE_ap, op1_ap, op2_ap, opA_ap, bindO_ap, nilA_ap, consA_ap, callE_ap, andV_ap, andK_bl, orV_ap, orK_bl, ifV_ap, testE_ap, andB_ap, orB_ap, notB_ap, lstE_ap, compF_ap, dispF_ap, nilX_ap, valX_ap, ownX_ap, runF_ap, runK_ret, runK_nx, nameG_ap, forL_nil, forL_name, forK_nx, forK_ret, wipeR, lenT_tup, lenT_lst, lenT_sq, seqItems_tup, seqItems_lst, seqItems_sq, tupleT_lst, listT_lst, addT_int, subT_int, ltT_int, leT_int, gtT_int, geT_int, truT_bl, truT_int, blT_bl, notT_bl, int1T_int, addI_int, eqT_int, neT_int, List.map_cons, List.map_nil, List.length_cons, List.length_nil, List.cons_append, List.nil_append, List.append_nil, List.getElem?_cons_zero, List.getElem?_cons_succ, List.set_cons_zero, List.set_cons_succ, List.replicate_succ, List.replicate_zero, Nat.reduceAdd, Nat.reduceSub, if_true, ite_true, reduceIte, Nat.zero_add, Nat.zero_le, decide_true, decide_false, Bool.not_true, Bool.not_false, Bool.false_eq_true, if_false]; rfl)
        have p2 := putFold (ρ := [.val many, .un, .val (.int (cs.getD a 0)), .un]) (M := penM cs (a + 1) d c f) (cs := cs) (a := a + 1) (d := d) (c := c) (f := f) (mv := op2 (opA (consA (op2 (op2 (subE (varE 0) (pureE (.str ("fold" : Str)))) (pureE (.int 60289)) mulT) (varE 3) addT) (nilA)) int1T) (pureE (.int 2147483563)) modT) (x := (f * 60289 + cs.getD a 0) % 2147483563) (by simp only [penFold, mulT_int (mulOk_r (i := f) (j := 60289) (by decide)), modT_int (j := 2147483563) (by decide), seqS_ap, seqK_nx, seqK_ret, retS_ap, setS_ap, augS_ap, augK_some, asgS_ap, optS_some, ifS_ap, exprS_ap, nextS_ap, forS_ap, R.toS_ok, R.bind_ok, pureE_ap, bindE_ap, optE_some, varE_ap, op1_ap, op2_ap, opA_ap, bindO_ap, nilA_ap, consA_ap, callE_ap, andV_ap, andK_bl, orV_ap, orK_bl, ifV_ap, testE_ap, andB_ap, orB_ap, notB_ap, lstE_ap, compF_ap, dispF_ap, nilX_ap, valX_ap, ownX_ap, runF_ap, runK_ret, runK_nx, nameG_ap, forL_nil, forL_name, forK_nx, forK_ret, wipeR, lenT_tup, lenT_lst, lenT_sq, seqItems_tup, seqItems_lst, seqItems_sq, tupleT_lst, listT_lst, addT_int, subT_int, ltT_int, leT_int, gtT_int, geT_int, truT_bl, truT_int, blT_bl, notT_bl, int1T_int, addI_int, eqT_int, neT_int, List.map_cons, List.map_nil, List.length_cons, List.length_nil, List.cons_append, List.nil_append, List.append_nil, List.getElem?_cons_zero, List.getElem?_cons_succ, List.set_cons_zero, List.set_cons_succ, List.replicate_succ, List.replicate_zero, Nat.reduceAdd, Nat.reduceSub, if_true, ite_true, reduceIte, Nat.zero_add, Nat.zero_le, decide_true, decide_false, Bool.not_true, Bool.not_false, Bool.false_eq_true, if_false])
        simp only [drawA, penDigits, penAt, penCells, g1, p1, p2, pow18, c1, c3, c4, decide_true, decide_false, List.length_map, seqS_ap, seqK_nx, seqK_ret, retS_ap, setS_ap, augS_ap, augK_some, asgS_ap, optS_some, ifS_ap, exprS_ap, nextS_ap, forS_ap, R.toS_ok, R.bind_ok, pureE_ap, bindE_ap, optE_some, varE_ap, op1_ap, op2_ap, opA_ap, bindO_ap, nilA_ap, consA_ap, callE_ap, andV_ap, andK_bl, orV_ap, orK_bl, ifV_ap, testE_ap, andB_ap, orB_ap, notB_ap, lstE_ap, compF_ap, dispF_ap, nilX_ap, valX_ap, ownX_ap, runF_ap, runK_ret, runK_nx, nameG_ap, forL_nil, forL_name, forK_nx, forK_ret, wipeR, lenT_tup, lenT_lst, lenT_sq, seqItems_tup, seqItems_lst, seqItems_sq, tupleT_lst, listT_lst, addT_int, subT_int, ltT_int, leT_int, gtT_int, geT_int, truT_bl, truT_int, blT_bl, notT_bl, int1T_int, addI_int, eqT_int, neT_int, List.map_cons, List.map_nil, List.length_cons, List.length_nil, List.cons_append, List.nil_append, List.append_nil, List.getElem?_cons_zero, List.getElem?_cons_succ, List.set_cons_zero, List.set_cons_succ, List.replicate_succ, List.replicate_zero, Nat.reduceAdd, Nat.reduceSub, if_true, ite_true, reduceIte, Nat.zero_add, Nat.zero_le, decide_true, decide_false, Bool.not_true, Bool.not_false, Bool.false_eq_true, if_false] at g1 p1 p2 ⊢
        simp only [g1, p1, p2, pow18, c4, decide_false, Bool.false_eq_true, if_false, seqS_ap, seqK_nx, seqK_ret, retS_ap, setS_ap, augS_ap, augK_some, asgS_ap, optS_some, ifS_ap, exprS_ap, nextS_ap, forS_ap, R.toS_ok, R.bind_ok, pureE_ap, bindE_ap, optE_some, varE_ap, op1_ap, op2_ap, opA_ap, bindO_ap, nilA_ap, consA_ap, callE_ap, andV_ap, andK_bl, orV_ap, orK_bl, ifV_ap, testE_ap, andB_ap, orB_ap, notB_ap, lstE_ap, compF_ap, dispF_ap, nilX_ap, valX_ap, ownX_ap, runF_ap, runK_ret, runK_nx, nameG_ap, forL_nil, forL_name, forK_nx, forK_ret, wipeR, lenT_tup, lenT_lst, lenT_sq, seqItems_tup, seqItems_lst, seqItems_sq, tupleT_lst, listT_lst, addT_int, subT_int, ltT_int, leT_int, gtT_int, geT_int, truT_bl, truT_int, blT_bl, notT_bl, int1T_int, addI_int, eqT_int, neT_int, List.map_cons, List.map_nil, List.length_cons, List.length_nil, List.cons_append, List.nil_append, List.append_nil, List.getElem?_cons_zero, List.getElem?_cons_succ, List.set_cons_zero, List.set_cons_succ, List.replicate_succ, List.replicate_zero, Nat.reduceAdd, Nat.reduceSub, if_true, ite_true, reduceIte, Nat.zero_add, Nat.zero_le, decide_true, decide_false, Bool.not_true, Bool.not_false, Bool.false_eq_true, if_false]
    · have c3 : ¬ ((a : Int) < (cs.length : Int)) := by omega
      refine ⟨a, d, f, .un, ?_, hd, hf.1, hf.2⟩
      simp only [drawA, penDigits, penAt, penCells, c1, c3, decide_true, decide_false, Bool.false_eq_true, if_false, List.length_map, seqS_ap, seqK_nx, seqK_ret, retS_ap, setS_ap, augS_ap, augK_some, asgS_ap, optS_some, ifS_ap, exprS_ap, nextS_ap, forS_ap, R.toS_ok, R.bind_ok, pureE_ap, bindE_ap, optE_some, varE_ap, op1_ap, op2_ap, opA_ap, bindO_ap, nilA_ap, consA_ap, callE_ap, andV_ap, andK_bl, orV_ap, orK_bl, ifV_ap, testE_ap, andB_ap, orB_ap, notB_ap, lstE_ap, compF_ap, dispF_ap, nilX_ap, valX_ap, ownX_ap, runF_ap, runK_ret, runK_nx, nameG_ap, forL_nil, forL_name, forK_nx, forK_ret, wipeR, lenT_tup, lenT_lst, lenT_sq, seqItems_tup, seqItems_lst, seqItems_sq, tupleT_lst, listT_lst, addT_int, subT_int, ltT_int, leT_int, gtT_int, geT_int, truT_bl, truT_int, blT_bl, notT_bl, int1T_int, addI_int, eqT_int, neT_int, List.map_cons, List.map_nil, List.length_cons, List.length_nil, List.cons_append, List.nil_append, List.append_nil, List.getElem?_cons_zero, List.getElem?_cons_succ, List.set_cons_zero, List.set_cons_succ, List.replicate_succ, List.replicate_zero, Nat.reduceAdd, Nat.reduceSub, if_true, ite_true, reduceIte, Nat.zero_add, Nat.zero_le, decide_true, decide_false, Bool.not_true, Bool.not_false, Bool.false_eq_true, if_false]
  · refine ⟨a, d, f, .un, ?_, hd, hf.1, hf.2⟩
    simp only [drawA, penDigits, penAt, penCells, c1, decide_true, decide_false, Bool.false_eq_true, if_false, List.length_map, seqS_ap, seqK_nx, seqK_ret, retS_ap, setS_ap, augS_ap, augK_some, asgS_ap, optS_some, ifS_ap, exprS_ap, nextS_ap, forS_ap, R.toS_ok, R.bind_ok, pureE_ap, bindE_ap, optE_some, varE_ap, op1_ap, op2_ap, opA_ap, bindO_ap, nilA_ap, consA_ap, callE_ap, andV_ap, andK_bl, orV_ap, orK_bl, ifV_ap, testE_ap, andB_ap, orB_ap, notB_ap, lstE_ap, compF_ap, dispF_ap, nilX_ap, valX_ap, ownX_ap, runF_ap, runK_ret, runK_nx, nameG_ap, forL_nil, forL_name, forK_nx, forK_ret, wipeR, lenT_tup, lenT_lst, lenT_sq, seqItems_tup, seqItems_lst, seqItems_sq, tupleT_lst, listT_lst, addT_int, subT_int, ltT_int, leT_int, gtT_int, geT_int, truT_bl, truT_int, blT_bl, notT_bl, int1T_int, addI_int, eqT_int, neT_int, List.map_cons, List.map_nil, List.length_cons, List.length_nil, List.cons_append, List.nil_append, List.append_nil, List.getElem?_cons_zero, List.getElem?_cons_succ, List.set_cons_zero, List.set_cons_succ, List.replicate_succ, List.replicate_zero, Nat.reduceAdd, Nat.reduceSub, if_true, ite_true, reduceIte, Nat.zero_add, Nat.zero_le, decide_true, decide_false, Bool.not_true, Bool.not_false, Bool.false_eq_true, if_false]

theorem pow11 {i : Int} (h : i.natAbs < 2 ^ 64) : powT (.int i) (.int 11) = some (.int (i ^ 11)) := by
  rw [powT_int (by decide) (by decide) h]
  rfl
theorem draw {b : Nat} {many : Int} (hm : 0 < many ∧ many < 2 ^ 64) (hM : PenOk b M) (hb : b < 1000000) : ∃ k M', f__law_draw [.ptr 0, .int many] M = .ok (.int k) M' ∧ 0 ≤ k ∧ k < many ∧ PenOk (b + 1) M' := by
  obtain ⟨cs, a, d, c, f, rfl, hd, hc, hcb, hf⟩ := hM
  obtain ⟨a', d', f', s3, e, hd', hf'⟩ := drawA_run (cs := cs) (a := a) (d := d) (c := c + 1) (f := f) (many := .int many) hd hf
  have p1 := putCount (ρ := [.val (.int many), .un, .un, .un]) (M := penM cs a d c f) (cs := cs) (a := a) (d := d) (c := c) (f := f) (mv := op2 (subE (varE 0) (pureE (.str ("count" : Str)))) (pureE (.int 1)) addT) (x := c + 1) (by simp only [penCount, seqS_ap, seqK_nx, seqK_ret, retS_ap, setS_ap, augS_ap, augK_some, asgS_ap, optS_some, ifS_ap, exprS_ap, nextS_ap, forS_ap, R.toS_ok, R.bind_ok, pureE_ap, bindE_ap, optE_some, varE_ap, op1_ap, op2_ap, opA_ap, bindO_ap, nilA_ap, consA_ap, callE_ap, andV_ap, andK_bl, orV_ap, orK_bl, ifV_ap, testE_ap, andB_ap, orB_ap, notB_ap, lstE_ap, compF_ap, dispF_ap, nilX_ap, valX_ap, ownX_ap, runF_ap, runK_ret, runK_nx, nameG_ap, forL_nil, forL_name, forK_nx, forK_ret, wipeR, lenT_tup, lenT_lst, lenT_sq, seqItems_tup, seqItems_lst, seqItems_sq, tupleT_lst, listT_lst, addT_int, subT_int, ltT_int, leT_int, gtT_int, geT_int, truT_bl, truT_int, blT_bl, notT_bl, int1T_int, addI_int, eqT_int, neT_int, List.map_cons, List.map_nil, List.length_cons, List.length_nil, List.cons_append, List.nil_append, List.append_nil, List.getElem?_cons_zero, List.getElem?_cons_succ, List.set_cons_zero, List.set_cons_succ, List.replicate_succ, List.replicate_zero, Nat.reduceAdd, Nat.reduceSub, if_true, ite_true, reduceIte, Nat.zero_add, Nat.zero_le, decide_true, decide_false, Bool.not_true, Bool.not_false, Bool.false_eq_true, if_false])
  rw [drawA] at e
  by_cases c1 : 0 < d'
  · refine ⟨d' % many, penM cs a' (d' / many) (c + 1) f', ?_, Int.emod_nonneg _ (by omega), Int.emod_lt_of_pos _ hm.1, cs, a', d' / many, c + 1, f', rfl, Int.ediv_nonneg hd' (by omega), by omega, by omega, hf'⟩
    have p2 := putDigits (ρ := [.val (.int many), .un, s3, .val (.int (d' % many))]) (M := penM cs a' d' (c + 1) f') (cs := cs) (a := a') (d := d') (c := c + 1) (f := f') (mv := op2 (subE (varE 0) (pureE (.str ("digits" : Str)))) (varE 1) fdivT) (x := d' / many) (by simp only [penDigits, fdivT_int hm.1 hm.2, seqS_ap, seqK_nx, seqK_ret, retS_ap, setS_ap, augS_ap, augK_some, asgS_ap, optS_some, ifS_ap, exprS_ap, nextS_ap, forS_ap, R.toS_ok, R.bind_ok, pureE_ap, bindE_ap, optE_some, varE_ap, op1_ap, op2_ap, opA_ap, bindO_ap, nilA_ap, consA_ap, callE_ap, andV_ap, andK_bl, orV_ap, orK_bl, ifV_ap, testE_ap, andB_ap, orB_ap, notB_ap, lstE_ap, compF_ap, dispF_ap, nilX_ap, valX_ap, ownX_ap, runF_ap, runK_ret, runK_nx, nameG_ap, forL_nil, forL_name, forK_nx, forK_ret, wipeR, lenT_tup, lenT_lst, lenT_sq, seqItems_tup, seqItems_lst, seqItems_sq, tupleT_lst, listT_lst, addT_int, subT_int, ltT_int, leT_int, gtT_int, geT_int, truT_bl, truT_int, blT_bl, notT_bl, int1T_int, addI_int, eqT_int, neT_int, List.map_cons, List.map_nil, List.length_cons, List.length_nil, List.cons_append, List.nil_append, List.append_nil, List.getElem?_cons_zero, List.getElem?_cons_succ, List.set_cons_zero, List.set_cons_succ, List.replicate_succ, List.replicate_zero, Nat.reduceAdd, Nat.reduceSub, if_true, ite_true, reduceIte, Nat.zero_add, Nat.zero_le, decide_true, decide_false, Bool.not_true, Bool.not_false, Bool.false_eq_true, if_false])
    rw [f__law_draw, m__law_draw, runF_ap, seqS_ap]
    simp only [List.map_cons, List.map_nil, List.length_cons, List.length_nil, Nat.reduceAdd, Nat.reduceSub, List.replicate_succ, List.replicate_zero, List.cons_append, List.nil_append, p1, seqK_nx]
    rw [seqS_ap, e]
    simp only [penDigits, c1, decide_true, modT_int hm.1, p2, seqS_ap, seqK_nx, seqK_ret, retS_ap, setS_ap, augS_ap, augK_some, asgS_ap, optS_some, ifS_ap, exprS_ap, nextS_ap, forS_ap, R.toS_ok, R.bind_ok, pureE_ap, bindE_ap, optE_some, varE_ap, op1_ap, op2_ap, opA_ap, bindO_ap, nilA_ap, consA_ap, callE_ap, andV_ap, andK_bl, orV_ap, orK_bl, ifV_ap, testE_ap, andB_ap, orB_ap, notB_ap, lstE_ap, compF_ap, dispF_ap, nilX_ap, valX_ap, ownX_ap, runF_ap, runK_ret, runK_nx, nameG_ap, forL_nil, forL_name, forK_nx, forK_ret, wipeR, lenT_tup, lenT_lst, lenT_sq, seqItems_tup, seqItems_lst, seqItems_sq, tupleT_lst, listT_lst, addT_int, subT_int, ltT_int, leT_int, gtT_int, geT_int, truT_bl, truT_int, blT_bl, notT_bl, int1T_int, addI_int, eqT_int, neT_int, List.map_cons, List.map_nil, List.length_cons, List.length_nil, List.cons_append, List.nil_append, List.append_nil, List.getElem?_cons_zero, List.getElem?_cons_succ, List.set_cons_zero, List.set_cons_succ, List.replicate_succ, List.replicate_zero, Nat.reduceAdd, Nat.reduceSub, if_true, ite_true, reduceIte, Nat.zero_add, Nat.zero_le, decide_true, decide_false, Bool.not_true, Bool.not_false, Bool.false_eq_true, if_false]
  · have hbl : (f' + (c + 1) * 7907 + 67).natAbs < 2 ^ 64 := by omega
    refine ⟨(f' + (c + 1) * 7907 + 67) ^ 11 % 2305843009213693951 / 128 % many, penM cs a' d' (c + 1) f', ?_, Int.emod_nonneg _ (by omega), Int.emod_lt_of_pos _ hm.1, cs, a', d', c + 1, f', rfl, hd', by omega, by omega, hf'⟩
    rw [f__law_draw, m__law_draw, runF_ap, seqS_ap]
    simp only [List.map_cons, List.map_nil, List.length_cons, List.length_nil, Nat.reduceAdd, Nat.reduceSub, List.replicate_succ, List.replicate_zero, List.cons_append, List.nil_append, p1, seqK_nx]
    rw [seqS_ap, e]
    simp only [penDigits, penFold, penCount, c1, decide_false, Bool.false_eq_true, if_false, mulT_int (mulOk_r (i := c + 1) (j := 7907) (by decide)), pow11 hbl, modT_int (j := 2305843009213693951) (by decide), fdivT_int (j := 128) (by decide) (by decide), modT_int hm.1, seqS_ap, seqK_nx, seqK_ret, retS_ap, setS_ap, augS_ap, augK_some, asgS_ap, optS_some, ifS_ap, exprS_ap, nextS_ap, forS_ap, R.toS_ok, R.bind_ok, pureE_ap, bindE_ap, optE_some, varE_ap, op1_ap, op2_ap, opA_ap, bindO_ap, nilA_ap, consA_ap, callE_ap, andV_ap, andK_bl, orV_ap, orK_bl, ifV_ap, testE_ap, andB_ap, orB_ap, notB_ap, lstE_ap, compF_ap, dispF_ap, nilX_ap, valX_ap, ownX_ap, runF_ap, runK_ret, runK_nx, nameG_ap, forL_nil, forL_name, forK_nx, forK_ret, wipeR, lenT_tup, lenT_lst, lenT_sq, seqItems_tup, seqItems_lst, seqItems_sq, tupleT_lst, listT_lst, addT_int, subT_int, ltT_int, leT_int, gtT_int, geT_int, truT_bl, truT_int, blT_bl, notT_bl, int1T_int, addI_int, eqT_int, neT_int, List.map_cons, List.map_nil, List.length_cons, List.length_nil, List.cons_append, List.nil_append, List.append_nil, List.getElem?_cons_zero, List.getElem?_cons_succ, List.set_cons_zero, List.set_cons_succ, List.replicate_succ, List.replicate_zero, Nat.reduceAdd, Nat.reduceSub, if_true, ite_true, reduceIte, Nat.zero_add, Nat.zero_le, decide_true, decide_false, Bool.not_true, Bool.not_false, Bool.false_eq_true, if_false]
theorem pick {b : Nat} {ts : List T} (h0 : 0 < ts.length) (h1 : ts.length < 2 ^ 60) (hM : PenOk b M) (hb : b < 1000000) : ∃ t M', f__law_pick [.ptr 0, .lst ts] M = .ok t M' ∧ t ∈ ts ∧ PenOk (b + 1) M' := by
  obtain ⟨k, M', e, k0, k1, p⟩ := draw (many := (ts.length : Int)) (by omega) hM hb
  have hk : k.toNat < ts.length := by omega
  have hk2 : ((k.toNat : Nat) : Int) = k := by omega
  have g := sub_lst (ρ := [.val (.ptr 0), .val (.lst ts)]) (M := M) (M1 := M) (M2 := M') (List.getElem?_eq_getElem hk) (ma := varE 1) (mb := callE 2 f__law_draw (consA (varE 0) (consA (opA (consA (varE 1) nilA) lenT) nilA))) rfl (by simp only [e, hk2, seqS_ap, seqK_nx, seqK_ret, retS_ap, setS_ap, augS_ap, augK_some, asgS_ap, optS_some, ifS_ap, exprS_ap, nextS_ap, forS_ap, R.toS_ok, R.bind_ok, pureE_ap, bindE_ap, optE_some, varE_ap, op1_ap, op2_ap, opA_ap, bindO_ap, nilA_ap, consA_ap, callE_ap, andV_ap, andK_bl, orV_ap, orK_bl, ifV_ap, testE_ap, andB_ap, orB_ap, notB_ap, lstE_ap, compF_ap, dispF_ap, nilX_ap, valX_ap, ownX_ap, runF_ap, runK_ret, runK_nx, nameG_ap, forL_nil, forL_name, forK_nx, forK_ret, wipeR, lenT_tup, lenT_lst, lenT_sq, seqItems_tup, seqItems_lst, seqItems_sq, tupleT_lst, listT_lst, addT_int, subT_int, ltT_int, leT_int, gtT_int, geT_int, truT_bl, truT_int, blT_bl, notT_bl, int1T_int, addI_int, eqT_int, neT_int, List.map_cons, List.map_nil, List.length_cons, List.length_nil, List.cons_append, List.nil_append, List.append_nil, List.getElem?_cons_zero, List.getElem?_cons_succ, List.set_cons_zero, List.set_cons_succ, List.replicate_succ, List.replicate_zero, Nat.reduceAdd, Nat.reduceSub, if_true, ite_true, reduceIte, Nat.zero_add, Nat.zero_le, decide_true, decide_false, Bool.not_true, Bool.not_false, Bool.false_eq_true, if_false])
  refine ⟨ts[k.toNat], M', ?_, List.getElem_mem hk, p⟩
  simp only [f__law_pick, m__law_pick, g, seqS_ap, seqK_nx, seqK_ret, retS_ap, setS_ap, augS_ap, augK_some, asgS_ap, optS_some, ifS_ap, exprS_ap, nextS_ap, forS_ap, R.toS_ok, R.bind_ok, pureE_ap, bindE_ap, optE_some, varE_ap, op1_ap, op2_ap, opA_ap, bindO_ap, nilA_ap, consA_ap, callE_ap, andV_ap, andK_bl, orV_ap, orK_bl, ifV_ap, testE_ap, andB_ap, orB_ap, notB_ap, lstE_ap, compF_ap, dispF_ap, nilX_ap, valX_ap, ownX_ap, runF_ap, runK_ret, runK_nx, nameG_ap, forL_nil, forL_name, forK_nx, forK_ret, wipeR, lenT_tup, lenT_lst, lenT_sq, seqItems_tup, seqItems_lst, seqItems_sq, tupleT_lst, listT_lst, addT_int, subT_int, ltT_int, leT_int, gtT_int, geT_int, truT_bl, truT_int, blT_bl, notT_bl, int1T_int, addI_int, eqT_int, neT_int, List.map_cons, List.map_nil, List.length_cons, List.length_nil, List.cons_append, List.nil_append, List.append_nil, List.getElem?_cons_zero, List.getElem?_cons_succ, List.set_cons_zero, List.set_cons_succ, List.replicate_succ, List.replicate_zero, Nat.reduceAdd, Nat.reduceSub, if_true, ite_true, reduceIte, Nat.zero_add, Nat.zero_le, decide_true, decide_false, Bool.not_true, Bool.not_false, Bool.false_eq_true, if_false]
theorem lst4 (x y z u : T) : lstT [x, y, z, u] = some (.lst [x, y, z, u]) := lstT_of (by decide : 4 ≤ 1000000)
theorem lst3 (x y z : T) : lstT [x, y, z] = some (.lst [x, y, z]) := lstT_of (by decide : 3 ≤ 1000000)
theorem row {b n : Nat} (hp : PP p) (hn : n ≤ 4) (hM : PenOk b M) (hb : b < 500000) : ∃ zs M', f__law_row [.ptr 0, .int p, .int n] M = .ok (.tup (I zs)) M' ∧ zs.length = n ∧ Rs p zs ∧ PenOk (b + 8) M' := by
  have hpl := hp.le
  obtain ⟨ys, M', e, ⟨zs, rfl, hz, hM', hzl⟩, hl⟩ := compL_inv (g := nameG 3) (tt := yesB) (ρ := [.val (.ptr 0), .val (.int p), .val (.int n), .un]) (te := callE 2 f__law_pick (consA (varE 0) (consA (opA (consA (pureE (.int 0)) (consA (pureE (.int 1)) (consA (op2 (varE 1) (pureE (.int 1)) subT) (consA (callE 2 f__law_draw (consA (varE 0) (consA (varE 1) (nilA)))) (nilA))))) lstT) (nilA))))
    (L := n) (fun acc M => ∃ zs, acc = I zs ∧ Rs p zs ∧ PenOk (b + 2 * zs.length) M ∧ True) ((List.range n).map fun (i : Nat) => T.int (i : Int)) [] M (by simp) ⟨[], rfl, by simp [Rs], hM, trivial⟩ (fun acc t M ht hal ⟨zs, e1, h1, h2, _⟩ => by
      have hzs : b + 2 * zs.length < 900000 := by rw [e1, List.length_map] at hal; omega
      obtain ⟨k, M1, d1, k0, k1, q1⟩ := draw (many := (p : Int)) (by omega) h2 (by omega)
      obtain ⟨t2, M2, d2, m2, q2⟩ := pick (ts := [.int 0, .int 1, .int (p - 1), .int k]) (by simp) (by simp) q1 (by omega)
      refine ⟨_, rfl, rfl, ?_⟩
      have ht2 : ∃ z : Int, t2 = .int z ∧ 0 ≤ z ∧ z < p := by
        simp only [List.mem_cons, List.not_mem_nil, or_false] at m2
        rcases m2 with rfl | rfl | rfl | rfl
        · exact ⟨_, rfl, by omega, by omega⟩
        · exact ⟨_, rfl, by omega, by omega⟩
        · exact ⟨_, rfl, by omega, by omega⟩
        · exact ⟨_, rfl, by omega, by omega⟩
      obtain ⟨z, rfl, z0, z1⟩ := ht2
      refine ⟨.int z, M2, ?_, zs ++ [z], ?_, ?_, ?_, trivial⟩
      · simp only [d1, d2, lst4, seqS_ap, seqK_nx, seqK_ret, retS_ap, setS_ap, augS_ap, augK_some, asgS_ap, optS_some, ifS_ap, exprS_ap, nextS_ap, forS_ap, R.toS_ok, R.bind_ok, pureE_ap, bindE_ap, optE_some, varE_ap, op1_ap, op2_ap, opA_ap, bindO_ap, nilA_ap, consA_ap, callE_ap, andV_ap, andK_bl, orV_ap, orK_bl, ifV_ap, testE_ap, andB_ap, orB_ap, notB_ap, lstE_ap, compF_ap, dispF_ap, nilX_ap, valX_ap, ownX_ap, runF_ap, runK_ret, runK_nx, nameG_ap, forL_nil, forL_name, forK_nx, forK_ret, wipeR, lenT_tup, lenT_lst, lenT_sq, seqItems_tup, seqItems_lst, seqItems_sq, tupleT_lst, listT_lst, addT_int, subT_int, ltT_int, leT_int, gtT_int, geT_int, truT_bl, truT_int, blT_bl, notT_bl, int1T_int, addI_int, eqT_int, neT_int, List.map_cons, List.map_nil, List.length_cons, List.length_nil, List.cons_append, List.nil_append, List.append_nil, List.getElem?_cons_zero, List.getElem?_cons_succ, List.set_cons_zero, List.set_cons_succ, List.replicate_succ, List.replicate_zero, Nat.reduceAdd, Nat.reduceSub, if_true, ite_true, reduceIte, Nat.zero_add, Nat.zero_le, decide_true, decide_false, Bool.not_true, Bool.not_false, Bool.false_eq_true, if_false]
      · rw [e1]; simp [I]
      · intro w hw
        rcases List.mem_append.mp hw with hw | hw
        · exact h1 w hw
        · rw [List.mem_singleton.mp hw]; exact ⟨z0, z1⟩
      · exact q2.mono (by simp; omega)) (by rw [line_eq]; omega)
  have hr := rng1_nat n (by omega)
  simp at hl
  refine ⟨zs, M', ?_, hl, hz, hM'.mono (by omega)⟩
  simp only [f__law_row, m__law_row, hr, e, seqS_ap, seqK_nx, seqK_ret, retS_ap, setS_ap, augS_ap, augK_some, asgS_ap, optS_some, ifS_ap, exprS_ap, nextS_ap, forS_ap, R.toS_ok, R.bind_ok, pureE_ap, bindE_ap, optE_some, varE_ap, op1_ap, op2_ap, opA_ap, bindO_ap, nilA_ap, consA_ap, callE_ap, andV_ap, andK_bl, orV_ap, orK_bl, ifV_ap, testE_ap, andB_ap, orB_ap, notB_ap, lstE_ap, compF_ap, dispF_ap, nilX_ap, valX_ap, ownX_ap, runF_ap, runK_ret, runK_nx, nameG_ap, forL_nil, forL_name, forK_nx, forK_ret, wipeR, lenT_tup, lenT_lst, lenT_sq, seqItems_tup, seqItems_lst, seqItems_sq, tupleT_lst, listT_lst, addT_int, subT_int, ltT_int, leT_int, gtT_int, geT_int, truT_bl, truT_int, blT_bl, notT_bl, int1T_int, addI_int, eqT_int, neT_int, List.map_cons, List.map_nil, List.length_cons, List.length_nil, List.cons_append, List.nil_append, List.append_nil, List.getElem?_cons_zero, List.getElem?_cons_succ, List.set_cons_zero, List.set_cons_succ, List.replicate_succ, List.replicate_zero, Nat.reduceAdd, Nat.reduceSub, if_true, ite_true, reduceIte, Nat.zero_add, Nat.zero_le, decide_true, decide_false, Bool.not_true, Bool.not_false, Bool.false_eq_true, if_false]

/-! ### the law's parts -/
theorem raisedLoop {a : Int} (ha : -(2 ^ 64) < a ∧ a < 2 ^ 64) (n : T) : ∀ (l : List T) (f : Int) (s : Slot),
    ∃ s', forL (nameG 3) (setS 2 (op2 (varE 2) (varE 0) mulT)) l [.val (.int a), .val n, .val (.int f), s] M = .nx [.val (.int a), .val n, .val (.int (f * a ^ l.length)), s'] M
  | [], f, s => ⟨s, by simp [forL, nextS]⟩
  | t :: l, f, s => by
    obtain ⟨s', ih⟩ := raisedLoop ha n l (f * a) (.val t)
    refine ⟨s', ?_⟩
    simp only [mulT_int (mulOk_r (i := f) ha), seqS_ap, seqK_nx, seqK_ret, retS_ap, setS_ap, augS_ap, augK_some, asgS_ap, optS_some, ifS_ap, exprS_ap, nextS_ap, forS_ap, R.toS_ok, R.bind_ok, pureE_ap, bindE_ap, optE_some, varE_ap, op1_ap, op2_ap, opA_ap, bindO_ap, nilA_ap, consA_ap, callE_ap, andV_ap, andK_bl, orV_ap, orK_bl, ifV_ap, testE_ap, andB_ap, orB_ap, notB_ap, lstE_ap, compF_ap, dispF_ap, nilX_ap, valX_ap, ownX_ap, runF_ap, runK_ret, runK_nx, nameG_ap, forL_nil, forL_name, forK_nx, forK_ret, wipeR, lenT_tup, lenT_lst, lenT_sq, seqItems_tup, seqItems_lst, seqItems_sq, tupleT_lst, listT_lst, addT_int, subT_int, ltT_int, leT_int, gtT_int, geT_int, truT_bl, truT_int, blT_bl, notT_bl, int1T_int, addI_int, eqT_int, neT_int, List.map_cons, List.map_nil, List.length_cons, List.length_nil, List.cons_append, List.nil_append, List.append_nil, List.getElem?_cons_zero, List.getElem?_cons_succ, List.set_cons_zero, List.set_cons_succ, List.replicate_succ, List.replicate_zero, Nat.reduceAdd, Nat.reduceSub, if_true, ite_true, reduceIte, Nat.zero_add, Nat.zero_le, decide_true, decide_false, Bool.not_true, Bool.not_false, Bool.false_eq_true, if_false]
    rw [ih, Int.pow_succ]
    have : f * a * a ^ l.length = f * (a ^ l.length * a) := by grind
    rw [this]
theorem raised {a : Int} {n : Nat} (ha : -(2 ^ 64) < a ∧ a < 2 ^ 64) (hn : n ≤ 1000) : f__law_raised [.int a, .int n] M = .ok (.int (a ^ n)) M := by
  have hr := rng1_nat n (by omega)
  obtain ⟨s', e⟩ := raisedLoop (M := M) ha (.int n) ((List.range n).map fun (i : Nat) => T.int (i : Int)) 1 .un
  simp only [f__law_raised, m__law_raised, hr, e, seqS_ap, seqK_nx, seqK_ret, retS_ap, setS_ap, augS_ap, augK_some, asgS_ap, optS_some, ifS_ap, exprS_ap, nextS_ap, forS_ap, R.toS_ok, R.bind_ok, pureE_ap, bindE_ap, optE_some, varE_ap, op1_ap, op2_ap, opA_ap, bindO_ap, nilA_ap, consA_ap, callE_ap, andV_ap, andK_bl, orV_ap, orK_bl, ifV_ap, testE_ap, andB_ap, orB_ap, notB_ap, lstE_ap, compF_ap, dispF_ap, nilX_ap, valX_ap, ownX_ap, runF_ap, runK_ret, runK_nx, nameG_ap, forL_nil, forL_name, forK_nx, forK_ret, wipeR, lenT_tup, lenT_lst, lenT_sq, seqItems_tup, seqItems_lst, seqItems_sq, tupleT_lst, listT_lst, addT_int, subT_int, ltT_int, leT_int, gtT_int, geT_int, truT_bl, truT_int, blT_bl, notT_bl, int1T_int, addI_int, eqT_int, neT_int, List.map_cons, List.map_nil, List.length_cons, List.length_nil, List.cons_append, List.nil_append, List.append_nil, List.getElem?_cons_zero, List.getElem?_cons_succ, List.set_cons_zero, List.set_cons_succ, List.replicate_succ, List.replicate_zero, Nat.reduceAdd, Nat.reduceSub, if_true, ite_true, reduceIte, Nat.zero_add, Nat.zero_le, decide_true, decide_false, Bool.not_true, Bool.not_false, Bool.false_eq_true, if_false]
  simp
theorem restM (h : Pr p) : ∀ (fs : List (Int × Int)) (t : List Int), Rs p t → Rs p (fs.foldl (stepM p) t)
  | [], _, ht => ht
  | f :: fs, t, _ => restM h fs _ (by
    intro w hw
    rcases List.mem_append.mp hw with hw | hw <;>
    · obtain ⟨q, _, rfl⟩ := List.mem_map.mp hw
      exact ⟨Int.emod_nonneg _ (Int.ne_of_gt h.pos), Int.emod_lt_of_pos _ h.pos⟩)
theorem restA (h : Pr p) : ∀ (fs : List Int) (t : List Int), Rs p t → Rs p (fs.foldl (stepA p) t)
  | [], _, ht => ht
  | f :: fs, t, ht => restA h fs _ (by
    intro w hw
    rcases List.mem_append.mp hw with hw | hw
    · exact ht w hw
    · obtain ⟨q, _, rfl⟩ := List.mem_map.mp hw
      exact ⟨Int.emod_nonneg _ (Int.ne_of_gt h.pos), Int.emod_lt_of_pos _ h.pos⟩)
def Rf (p : Nat) (fs : List (Int × Int)) : Prop := ∀ f ∈ fs, 0 ≤ f.1 ∧ f.1 < p ∧ 0 ≤ f.2 ∧ f.2 < p
abbrev fT (f : Int × Int) : T := .tup [.int f.1, .int f.2]
/-- how a table of products grows -/
def prodB : SM := seqS (asgS (opA (consA (callE 2 f__law_pick (consA (varE 0) (consA (opA (consA (pureE (.int 0)) (consA (pureE (.int 1)) (consA (callE 2 f__law_draw (consA (varE 0) (consA (varE 1) (nilA)))) (nilA)))) lstT) (nilA)))) (consA (callE 2 f__law_pick (consA (varE 0) (consA (opA (consA (pureE (.int 0)) (consA (pureE (.int 1)) (consA (op2 (varE 1) (pureE (.int 1)) subT) (consA (callE 2 f__law_draw (consA (varE 0) (consA (varE 1) (nilA)))) (nilA))))) lstT) (nilA)))) (nilA))) tupT) (tupG 2 (consG (nameG 11) (consG (nameG 12) (nilG))))) (seqS (appS 5 (opA (consA (varE 11) (consA (varE 12) (nilA))) tupT)) (seqS (setS 6 (op2 (lstE (compF (bindO (varE 6) seqItems) (nameG 13) (yesB) (op2 (opA (consA (op2 (varE 13) (varE 11) mulT) (nilA)) int1T) (varE 1) modT) [13])) (lstE (compF (bindO (varE 6) seqItems) (nameG 13) (yesB) (op2 (opA (consA (op2 (varE 13) (op2 (varE 11) (varE 12) addT) mulT) (nilA)) int1T) (varE 1) modT) [13])) addT)) (setS 7 (op2 (varE 7) (ifV (testE blT (op2 (opA (consA (varE 11) (consA (varE 12) (nilA))) tupT) (opA (consA (pureE (.int 0)) (consA (pureE (.int 0)) (nilA))) tupT) eqT)) (pureE (.int 0)) (ifV (testE blT (op2 (varE 12) (pureE (.int 0)) eqT)) (varE 1) (op2 (varE 1) (pureE (.int 1)) subT))) mulT))))
theorem prodB_run {b : Nat} {n : T} {fs : List (Int × Int)} {t : List Int} {fr : Int} {s3 s11 s12 s13 : Slot} (hp : PP p) (hM : PenOk b M) (hb : b < 500000) (hfs : fs.length ≤ 100) (ht : t.length ≤ 100) :
    ∃ f s11' s12' s13' M', prodB [.val (.ptr 0), .val (.int p), .val n, s3, .un, .own (fs.map fT), .val (.lst (I t)), .val (.int fr), .un, .un, .un, s11, s12, s13] M =
      .nx [.val (.ptr 0), .val (.int p), .val n, s3, .un, .own ((fs ++ [f]).map fT), .val (.lst (I (stepM p t f))), .val (.int (fr * free1 p f)), .un, .un, .un, s11', s12', s13'] M' ∧ PenOk (b + 4) M' ∧ Rf p [f] := by
  have hpl := hp.le
  have two : ∀ k : Int, 0 ≤ k → k < p → ∀ t2, t2 ∈ [T.int 0, .int 1, .int k] → ∃ z : Int, t2 = .int z ∧ 0 ≤ z ∧ z < p := by
    intro k k0 k1 t2 m2
    simp only [List.mem_cons, List.not_mem_nil, or_false] at m2
    rcases m2 with rfl | rfl | rfl
    · exact ⟨_, rfl, by omega, by omega⟩
    · exact ⟨_, rfl, by omega, by omega⟩
    · exact ⟨_, rfl, by omega, by omega⟩
  have three : ∀ k : Int, 0 ≤ k → k < p → ∀ t2, t2 ∈ [T.int 0, .int 1, .int (p - 1), .int k] → ∃ z : Int, t2 = .int z ∧ 0 ≤ z ∧ z < p := by
    intro k k0 k1 t2 m2
    simp only [List.mem_cons, List.not_mem_nil, or_false] at m2
    rcases m2 with rfl | rfl | rfl | rfl
    · exact ⟨_, rfl, by omega, by omega⟩
    · exact ⟨_, rfl, by omega, by omega⟩
    · exact ⟨_, rfl, by omega, by omega⟩
    · exact ⟨_, rfl, by omega, by omega⟩
  obtain ⟨k, M1, d1, k0, k1, q1⟩ := draw (many := (p : Int)) (by omega) hM (by omega)
  obtain ⟨ta, M2, d2, m2, q2⟩ := pick (ts := [.int 0, .int 1, .int k]) (by simp) (by simp) q1 (by omega)
  obtain ⟨x, rfl, x0, x1⟩ := two k k0 k1 ta m2
  obtain ⟨l, M3, d3, l0, l1, q3⟩ := draw (many := (p : Int)) (by omega) q2 (by omega)
  obtain ⟨tb, M4, d4, m4, q4⟩ := pick (ts := [.int 0, .int 1, .int (p - 1), .int l]) (by simp) (by simp) q3 (by omega)
  obtain ⟨y, rfl, y0, y1⟩ := three l l0 l1 tb m4
  have c1 := compL_name (ρ := [.val (.ptr 0), .val (.int p), .val n, s3, .un, .own (fs.map fT ++ [fT (x, y)]), .val (.lst (I t)), .val (.int fr), .un, .un, .un, .val (.int x), .val (.int y), .un]) (M := M4) (i := 13) (e := T.int) (te := op2 (opA (consA (op2 (varE 13) (varE 11) mulT) (nilA)) int1T) (varE 1) modT)
    (f := fun w => T.int (w * x % p)) t (fun w hw => by simp only [mulT_int (mulOk_r (i := w) (j := x) (by omega)), modT_int hp.pos, seqS_ap, seqK_nx, seqK_ret, retS_ap, setS_ap, augS_ap, augK_some, asgS_ap, optS_some, ifS_ap, exprS_ap, nextS_ap, forS_ap, R.toS_ok, R.bind_ok, pureE_ap, bindE_ap, optE_some, varE_ap, op1_ap, op2_ap, opA_ap, bindO_ap, nilA_ap, consA_ap, callE_ap, andV_ap, andK_bl, orV_ap, orK_bl, ifV_ap, testE_ap, andB_ap, orB_ap, notB_ap, lstE_ap, compF_ap, dispF_ap, nilX_ap, valX_ap, ownX_ap, runF_ap, runK_ret, runK_nx, nameG_ap, forL_nil, forL_name, forK_nx, forK_ret, wipeR, lenT_tup, lenT_lst, lenT_sq, seqItems_tup, seqItems_lst, seqItems_sq, tupleT_lst, listT_lst, addT_int, subT_int, ltT_int, leT_int, gtT_int, geT_int, truT_bl, truT_int, blT_bl, notT_bl, int1T_int, addI_int, eqT_int, neT_int, List.map_cons, List.map_nil, List.length_cons, List.length_nil, List.cons_append, List.nil_append, List.append_nil, List.getElem?_cons_zero, List.getElem?_cons_succ, List.set_cons_zero, List.set_cons_succ, List.replicate_succ, List.replicate_zero, Nat.reduceAdd, Nat.reduceSub, if_true, ite_true, reduceIte, Nat.zero_add, Nat.zero_le, decide_true, decide_false, Bool.not_true, Bool.not_false, Bool.false_eq_true, if_false]) (by rw [line_eq]; omega)
  have c2 := compL_name (ρ := [.val (.ptr 0), .val (.int p), .val n, s3, .un, .own (fs.map fT ++ [fT (x, y)]), .val (.lst (I t)), .val (.int fr), .un, .un, .un, .val (.int x), .val (.int y), .un]) (M := M4) (i := 13) (e := T.int) (te := op2 (opA (consA (op2 (varE 13) (op2 (varE 11) (varE 12) addT) mulT) (nilA)) int1T) (varE 1) modT)
    (f := fun w => T.int (w * (x + y) % p)) t (fun w hw => by simp only [mulT_int (mulOk_r (i := w) (j := x + y) (by omega)), modT_int hp.pos, seqS_ap, seqK_nx, seqK_ret, retS_ap, setS_ap, augS_ap, augK_some, asgS_ap, optS_some, ifS_ap, exprS_ap, nextS_ap, forS_ap, R.toS_ok, R.bind_ok, pureE_ap, bindE_ap, optE_some, varE_ap, op1_ap, op2_ap, opA_ap, bindO_ap, nilA_ap, consA_ap, callE_ap, andV_ap, andK_bl, orV_ap, orK_bl, ifV_ap, testE_ap, andB_ap, orB_ap, notB_ap, lstE_ap, compF_ap, dispF_ap, nilX_ap, valX_ap, ownX_ap, runF_ap, runK_ret, runK_nx, nameG_ap, forL_nil, forL_name, forK_nx, forK_ret, wipeR, lenT_tup, lenT_lst, lenT_sq, seqItems_tup, seqItems_lst, seqItems_sq, tupleT_lst, listT_lst, addT_int, subT_int, ltT_int, leT_int, gtT_int, geT_int, truT_bl, truT_int, blT_bl, notT_bl, int1T_int, addI_int, eqT_int, neT_int, List.map_cons, List.map_nil, List.length_cons, List.length_nil, List.cons_append, List.nil_append, List.append_nil, List.getElem?_cons_zero, List.getElem?_cons_succ, List.set_cons_zero, List.set_cons_succ, List.replicate_succ, List.replicate_zero, Nat.reduceAdd, Nat.reduceSub, if_true, ite_true, reduceIte, Nat.zero_add, Nat.zero_le, decide_true, decide_false, Bool.not_true, Bool.not_false, Bool.false_eq_true, if_false]) (by rw [line_eq]; omega)
  have e1 : (t.map fun w => T.int (w * x % p)) ++ (t.map fun w => T.int (w * (x + y) % p)) = I (stepM p t (x, y)) := by simp [stepM, I, Function.comp_def]
  have ha := appS_own (i := 5) (ts := fs.map fT) (m := opA (consA (varE 11) (consA (varE 12) (nilA))) tupT) (ρ := [.val (.ptr 0), .val (.int p), .val n, s3, .un, .own (fs.map fT), .val (.lst (I t)), .val (.int fr), .un, .un, .un, .val (.int x), .val (.int y), s13]) (M := M4) rfl (by simp; omega)
  refine ⟨(x, y), .val (.int x), .val (.int y), s13, M4, ?_, q4, by simp [Rf, x0, x1, y0, y1]⟩
  have a1 := addT_lst (a := t.map fun w => T.int (w * x % p)) (b := t.map fun w => T.int (w * (x + y) % p)) (by simp; omega)
  rw [e1] at a1
  by_cases g1 : x = 0 ∧ y = 0
  · have g2 : [x, y] = [0, 0] := by simp [g1]
    have g3 : free1 p (x, y) = 0 := by simp [free1, g1]
    simp only [prodB, d1, d2, d3, d4, c1, c2, a1, g2, g3, ha, lst3, lst4, tupT_two, tupG_two, eqT_pair, decide_true, mulT_int (mulOk_r (i := fr) (j := 0) (by decide)), List.map_append, seqS_ap, seqK_nx, seqK_ret, retS_ap, setS_ap, augS_ap, augK_some, asgS_ap, optS_some, ifS_ap, exprS_ap, nextS_ap, forS_ap, R.toS_ok, R.bind_ok, pureE_ap, bindE_ap, optE_some, varE_ap, op1_ap, op2_ap, opA_ap, bindO_ap, nilA_ap, consA_ap, callE_ap, andV_ap, andK_bl, orV_ap, orK_bl, ifV_ap, testE_ap, andB_ap, orB_ap, notB_ap, lstE_ap, compF_ap, dispF_ap, nilX_ap, valX_ap, ownX_ap, runF_ap, runK_ret, runK_nx, nameG_ap, forL_nil, forL_name, forK_nx, forK_ret, wipeR, lenT_tup, lenT_lst, lenT_sq, seqItems_tup, seqItems_lst, seqItems_sq, tupleT_lst, listT_lst, addT_int, subT_int, ltT_int, leT_int, gtT_int, geT_int, truT_bl, truT_int, blT_bl, notT_bl, int1T_int, addI_int, eqT_int, neT_int, List.map_cons, List.map_nil, List.length_cons, List.length_nil, List.cons_append, List.nil_append, List.append_nil, List.getElem?_cons_zero, List.getElem?_cons_succ, List.set_cons_zero, List.set_cons_succ, List.replicate_succ, List.replicate_zero, Nat.reduceAdd, Nat.reduceSub, if_true, ite_true, reduceIte, Nat.zero_add, Nat.zero_le, decide_true, decide_false, Bool.not_true, Bool.not_false, Bool.false_eq_true, if_false]
  · have g2 : ¬ [x, y] = [0, 0] := by simpa using g1
    by_cases g4 : y = 0
    · have g3 : free1 p (x, y) = p := by
        have : (x, y) ≠ (0, 0) := by simpa using g1
        unfold free1; rw [if_neg this, if_pos g4]
      simp only [prodB, d1, d2, d3, d4, c1, c2, a1, g2, g3, ha, lst3, lst4, tupT_two, tupG_two, eqT_pair, decide_true, decide_false, Bool.false_eq_true, if_false, mulT_int (mulOk_r (i := fr) (j := p) (by omega)), List.map_append, seqS_ap, seqK_nx, seqK_ret, retS_ap, setS_ap, augS_ap, augK_some, asgS_ap, optS_some, ifS_ap, exprS_ap, nextS_ap, forS_ap, R.toS_ok, R.bind_ok, pureE_ap, bindE_ap, optE_some, varE_ap, op1_ap, op2_ap, opA_ap, bindO_ap, nilA_ap, consA_ap, callE_ap, andV_ap, andK_bl, orV_ap, orK_bl, ifV_ap, testE_ap, andB_ap, orB_ap, notB_ap, lstE_ap, compF_ap, dispF_ap, nilX_ap, valX_ap, ownX_ap, runF_ap, runK_ret, runK_nx, nameG_ap, forL_nil, forL_name, forK_nx, forK_ret, wipeR, lenT_tup, lenT_lst, lenT_sq, seqItems_tup, seqItems_lst, seqItems_sq, tupleT_lst, listT_lst, addT_int, subT_int, ltT_int, leT_int, gtT_int, geT_int, truT_bl, truT_int, blT_bl, notT_bl, int1T_int, addI_int, eqT_int, neT_int, List.map_cons, List.map_nil, List.length_cons, List.length_nil, List.cons_append, List.nil_append, List.append_nil, List.getElem?_cons_zero, List.getElem?_cons_succ, List.set_cons_zero, List.set_cons_succ, List.replicate_succ, List.replicate_zero, Nat.reduceAdd, Nat.reduceSub, if_true, ite_true, reduceIte, Nat.zero_add, Nat.zero_le, decide_true, decide_false, Bool.not_true, Bool.not_false, Bool.false_eq_true, if_false]
      simp only [g4, decide_true, mulT_int (mulOk_r (i := fr) (j := p) (by omega)), seqS_ap, seqK_nx, seqK_ret, retS_ap, setS_ap, augS_ap, augK_some, asgS_ap, optS_some, ifS_ap, exprS_ap, nextS_ap, forS_ap, R.toS_ok, R.bind_ok, pureE_ap, bindE_ap, optE_some, varE_ap, op1_ap, op2_ap, opA_ap, bindO_ap, nilA_ap, consA_ap, callE_ap, andV_ap, andK_bl, orV_ap, orK_bl, ifV_ap, testE_ap, andB_ap, orB_ap, notB_ap, lstE_ap, compF_ap, dispF_ap, nilX_ap, valX_ap, ownX_ap, runF_ap, runK_ret, runK_nx, nameG_ap, forL_nil, forL_name, forK_nx, forK_ret, wipeR, lenT_tup, lenT_lst, lenT_sq, seqItems_tup, seqItems_lst, seqItems_sq, tupleT_lst, listT_lst, addT_int, subT_int, ltT_int, leT_int, gtT_int, geT_int, truT_bl, truT_int, blT_bl, notT_bl, int1T_int, addI_int, eqT_int, neT_int, List.map_cons, List.map_nil, List.length_cons, List.length_nil, List.cons_append, List.nil_append, List.append_nil, List.getElem?_cons_zero, List.getElem?_cons_succ, List.set_cons_zero, List.set_cons_succ, List.replicate_succ, List.replicate_zero, Nat.reduceAdd, Nat.reduceSub, if_true, ite_true, reduceIte, Nat.zero_add, Nat.zero_le, decide_true, decide_false, Bool.not_true, Bool.not_false, Bool.false_eq_true, if_false]
    · have g3 : free1 p (x, y) = p - 1 := by
        have : (x, y) ≠ (0, 0) := by simpa using g1
        unfold free1; rw [if_neg this, if_neg g4]
      simp only [prodB, d1, d2, d3, d4, c1, c2, a1, g2, g3, g4, ha, lst3, lst4, tupT_two, tupG_two, eqT_pair, decide_true, decide_false, Bool.false_eq_true, if_false, mulT_int (mulOk_r (i := fr) (j := p - 1) (by omega)), List.map_append, seqS_ap, seqK_nx, seqK_ret, retS_ap, setS_ap, augS_ap, augK_some, asgS_ap, optS_some, ifS_ap, exprS_ap, nextS_ap, forS_ap, R.toS_ok, R.bind_ok, pureE_ap, bindE_ap, optE_some, varE_ap, op1_ap, op2_ap, opA_ap, bindO_ap, nilA_ap, consA_ap, callE_ap, andV_ap, andK_bl, orV_ap, orK_bl, ifV_ap, testE_ap, andB_ap, orB_ap, notB_ap, lstE_ap, compF_ap, dispF_ap, nilX_ap, valX_ap, ownX_ap, runF_ap, runK_ret, runK_nx, nameG_ap, forL_nil, forL_name, forK_nx, forK_ret, wipeR, lenT_tup, lenT_lst, lenT_sq, seqItems_tup, seqItems_lst, seqItems_sq, tupleT_lst, listT_lst, addT_int, subT_int, ltT_int, leT_int, gtT_int, geT_int, truT_bl, truT_int, blT_bl, notT_bl, int1T_int, addI_int, eqT_int, neT_int, List.map_cons, List.map_nil, List.length_cons, List.length_nil, List.cons_append, List.nil_append, List.append_nil, List.getElem?_cons_zero, List.getElem?_cons_succ, List.set_cons_zero, List.set_cons_succ, List.replicate_succ, List.replicate_zero, Nat.reduceAdd, Nat.reduceSub, if_true, ite_true, reduceIte, Nat.zero_add, Nat.zero_le, decide_true, decide_false, Bool.not_true, Bool.not_false, Bool.false_eq_true, if_false]

theorem dueLoop (hp : PP p) (s0 s2 s3 s4 s5 s6 s7 s8 : Slot) : ∀ (l : List (Int × (Int × Int))) (d : Int) (s10 s11 s12 s13 : Slot), 0 ≤ d → d < p → (∀ q ∈ l, 0 ≤ q.2.2 ∧ q.2.2 < p) →
    ∃ s10' s11' s12', forL (tupG 2 (consG (nameG 10) (consG (tupG 2 (consG (nameG 11) (consG (nameG 12) (nilG)))) (nilG)))) (setS 9 (op2 (opA (consA (op2 (varE 9) (op2 (varE 11) (op2 (varE 12) (varE 10) mulT) addT) mulT) (nilA)) int1T) (varE 1) modT)) (l.map fun q => T.tup [T.int q.1, fT q.2])
      [s0, .val (.int p), s2, s3, s4, s5, s6, s7, s8, .val (.int d), s10, s11, s12, s13] M =
    .nx [s0, .val (.int p), s2, s3, s4, s5, s6, s7, s8, .val (.int (l.foldl (fun d q => d * (q.2.1 + q.1 * q.2.2) % p) d)), s10', s11', s12', s13] M
  | [], d, s10, s11, s12, s13, _, _, _ => ⟨s10, s11, s12, rfl⟩
  | q :: l, d, s10, s11, s12, s13, h0, h1, hq => by
    have hpl := hp.le
    have hq1 := hq q (by simp)
    obtain ⟨a, b, c, ih⟩ := dueLoop hp s0 s2 s3 s4 s5 s6 s7 s8 l (d * (q.2.1 + q.1 * q.2.2) % p) (.val (.int q.1)) (.val (.int q.2.1)) (.val (.int q.2.2)) s13 (Int.emod_nonneg _ (by omega)) (Int.emod_lt_of_pos _ (by omega)) (fun x hx => hq x (by simp [hx]))
    refine ⟨a, b, c, ?_⟩
    rw [List.map_cons, forL_cons (ρ1 := [s0, .val (.int p), s2, s3, s4, s5, s6, s7, s8, .val (.int d), .val (.int q.1), .val (.int q.2.1), .val (.int q.2.2), s13]) (by rfl)]
    have e : q.2.1 + q.2.2 * q.1 = q.2.1 + q.1 * q.2.2 := by grind
    simp only [mulT_int (mulOk_l (i := q.2.2) (j := q.1) (by omega)), e, mulT_int (mulOk_l (i := d) (by omega)), modT_int hp.pos, List.foldl_cons, seqS_ap, seqK_nx, seqK_ret, retS_ap, setS_ap, augS_ap, augK_some, asgS_ap, optS_some, ifS_ap, exprS_ap, nextS_ap, forS_ap, R.toS_ok, R.bind_ok, pureE_ap, bindE_ap, optE_some, varE_ap, op1_ap, op2_ap, opA_ap, bindO_ap, nilA_ap, consA_ap, callE_ap, andV_ap, andK_bl, orV_ap, orK_bl, ifV_ap, testE_ap, andB_ap, orB_ap, notB_ap, lstE_ap, compF_ap, dispF_ap, nilX_ap, valX_ap, ownX_ap, runF_ap, runK_ret, runK_nx, nameG_ap, forL_nil, forL_name, forK_nx, forK_ret, wipeR, lenT_tup, lenT_lst, lenT_sq, seqItems_tup, seqItems_lst, seqItems_sq, tupleT_lst, listT_lst, addT_int, subT_int, ltT_int, leT_int, gtT_int, geT_int, truT_bl, truT_int, blT_bl, notT_bl, int1T_int, addI_int, eqT_int, neT_int, List.map_cons, List.map_nil, List.length_cons, List.length_nil, List.cons_append, List.nil_append, List.append_nil, List.getElem?_cons_zero, List.getElem?_cons_succ, List.set_cons_zero, List.set_cons_succ, List.replicate_succ, List.replicate_zero, Nat.reduceAdd, Nat.reduceSub, if_true, ite_true, reduceIte, Nat.zero_add, Nat.zero_le, decide_true, decide_false, Bool.not_true, Bool.not_false, Bool.false_eq_true, if_false]
    exact ih
theorem totalLoop (hp : PP p) (s0 s2 s3 s5 s6 s7 s8 s9 s10 : Slot) : ∀ (l : List (Int × Int)) (d : Int) (s11 s12 s13 : Slot), 0 ≤ d → d < p → (∀ q ∈ l, 0 ≤ q.1 ∧ q.1 < p) →
    ∃ s11' s12', forL (tupG 2 (consG (nameG 11) (consG (nameG 12) (nilG)))) (setS 4 (op2 (opA (consA (op2 (varE 4) (op2 (op2 (pureE (.int 2)) (varE 11) mulT) (varE 12) addT) mulT) (nilA)) int1T) (varE 1) modT)) (l.map fT)
      [s0, .val (.int p), s2, s3, .val (.int d), s5, s6, s7, s8, s9, s10, s11, s12, s13] M =
    .nx [s0, .val (.int p), s2, s3, .val (.int (l.foldl (fun d q => d * (2 * q.1 + q.2) % p) d)), s5, s6, s7, s8, s9, s10, s11', s12', s13] M
  | [], d, s11, s12, s13, _, _, _ => ⟨s11, s12, rfl⟩
  | q :: l, d, s11, s12, s13, h0, h1, hq => by
    have hpl := hp.le
    have hq1 := hq q (by simp)
    obtain ⟨b, c, ih⟩ := totalLoop hp s0 s2 s3 s5 s6 s7 s8 s9 s10 l (d * (2 * q.1 + q.2) % p) (.val (.int q.1)) (.val (.int q.2)) s13 (Int.emod_nonneg _ (by omega)) (Int.emod_lt_of_pos _ (by omega)) (fun x hx => hq x (by simp [hx]))
    refine ⟨b, c, ?_⟩
    rw [List.map_cons, forL_cons (ρ1 := [s0, .val (.int p), s2, s3, .val (.int d), s5, s6, s7, s8, s9, s10, .val (.int q.1), .val (.int q.2), s13]) (by rfl)]
    simp only [mulT_int (mulOk_l (i := 2) (j := q.1) (by decide)), mulT_int (mulOk_l (i := d) (by omega)), modT_int hp.pos, List.foldl_cons, seqS_ap, seqK_nx, seqK_ret, retS_ap, setS_ap, augS_ap, augK_some, asgS_ap, optS_some, ifS_ap, exprS_ap, nextS_ap, forS_ap, R.toS_ok, R.bind_ok, pureE_ap, bindE_ap, optE_some, varE_ap, op1_ap, op2_ap, opA_ap, bindO_ap, nilA_ap, consA_ap, callE_ap, andV_ap, andK_bl, orV_ap, orK_bl, ifV_ap, testE_ap, andB_ap, orB_ap, notB_ap, lstE_ap, compF_ap, dispF_ap, nilX_ap, valX_ap, ownX_ap, runF_ap, runK_ret, runK_nx, nameG_ap, forL_nil, forL_name, forK_nx, forK_ret, wipeR, lenT_tup, lenT_lst, lenT_sq, seqItems_tup, seqItems_lst, seqItems_sq, tupleT_lst, listT_lst, addT_int, subT_int, ltT_int, leT_int, gtT_int, geT_int, truT_bl, truT_int, blT_bl, notT_bl, int1T_int, addI_int, eqT_int, neT_int, List.map_cons, List.map_nil, List.length_cons, List.length_nil, List.cons_append, List.nil_append, List.append_nil, List.getElem?_cons_zero, List.getElem?_cons_succ, List.set_cons_zero, List.set_cons_succ, List.replicate_succ, List.replicate_zero, Nat.reduceAdd, Nat.reduceSub, if_true, ite_true, reduceIte, Nat.zero_add, Nat.zero_le, decide_true, decide_false, Bool.not_true, Bool.not_false, Bool.false_eq_true, if_false]
    exact ih
theorem pow_small (n : Nat) (hn : n ≤ 4) : (2 : Nat) ^ n ≤ 16 := (pow4 hn).2
theorem prodLoop {b n : Nat} (hp : PP p) (hn : n ≤ 4) (hM : PenOk b M) (hb : b < 400000) :
    ∃ fs s3 s11 s12 s13 M', forL (nameG 3) prodB ((List.range n).map fun (i : Nat) => T.int (i : Int)) [.val (.ptr 0), .val (.int p), .val (.int n), .un, .un, .own [], .val (.lst [.int 1]), .val (.int 1), .un, .un, .un, .un, .un, .un] M =
      .nx [.val (.ptr 0), .val (.int p), .val (.int n), s3, .un, .own (fs.map fT), .val (.lst (I (fs.foldl (stepM p) [1]))), .val (.int (freeM p fs)), .un, .un, .un, s11, s12, s13] M' ∧ PenOk (b + 100) M' ∧ Rf p fs ∧ fs.length = n := by
  obtain ⟨ρ', M', e, fs, s3, s11, s12, s13, rfl, h1, h2, h3⟩ := forL_inv (g := nameG 3) (body := prodB) (L := n) (fun dn ρ M => ∃ (fs : List (Int × Int)) (s3 s11 s12 s13 : Slot), ρ = [.val (.ptr 0), .val (.int p), .val (.int n), s3, .un, .own (fs.map fT), .val (.lst (I (fs.foldl (stepM p) [1]))), .val (.int (freeM p fs)), .un, .un, .un, s11, s12, s13] ∧ PenOk (b + 4 * fs.length) M ∧ Rf p fs ∧ fs.length = dn.length)
    ((List.range n).map fun (i : Nat) => T.int (i : Int)) [] [.val (.ptr 0), .val (.int p), .val (.int n), .un, .un, .own [], .val (.lst [.int 1]), .val (.int 1), .un, .un, .un, .un, .un, .un] M (by simp) ⟨[], .un, .un, .un, .un, rfl, hM, by simp [Rf], rfl⟩
    (by
      rintro dn t ρ M ht hd ⟨fs, s3, s11, s12, s13, rfl, h1, h2, h3⟩
      have hl : (fs.foldl (stepM (p : Int)) [1]).length ≤ 100 := by
        rw [lengthM, h3]
        have := pow_small dn.length (by omega)
        simp; omega
      obtain ⟨f, a, b', c, M', e, q1, q2⟩ := prodB_run (n := .int n) (fs := fs) (t := fs.foldl (stepM (p : Int)) [1]) (s3 := .val t) (s11 := s11) (s12 := s12) (s13 := s13) (fr := freeM p fs) hp h1 (by omega) (by omega) hl
      refine ⟨_, rfl, _, M', e, fs ++ [f], .val t, a, b', c, ?_, ?_, ?_, by simp [h3]⟩
      · simp [freeM, List.foldl_append]
      · exact q1.mono (by simp; omega)
      · intro g hg
        rcases List.mem_append.mp hg with hg | hg
        · exact h2 g hg
        · exact q2 g hg)
  simp at h3
  exact ⟨fs, s3, s11, s12, s13, M', e, h1.mono (by omega), h2, h3⟩
theorem productsRight {b n : Nat} (hp : PP p) (hn : n ≤ 4) (hM : PenOk b M) (hb : b < 100000) : ∃ M', f__law_products_right [.ptr 0, .int p, .int n] M = .ok (.bl true) M' ∧ PenOk (b + 200) M' := by
  have hpl := hp.le
  obtain ⟨fs, s3, s11, s12, s13, M1, e1, q1, hf, hl⟩ := prodLoop hp hn hM (by omega)
  have ht : (fs.foldl (stepM (p : Int)) [1]).length = 2 ^ n := by rw [lengthM, hl]; simp
  have hr : Rs p (fs.foldl (stepM (p : Int)) [1]) := restM hp.pr fs [1] (by intro w hw; rw [List.mem_singleton.mp hw]; omega)
  obtain ⟨zs, M2, e2, hz, hzr, q2⟩ := row hp hn q1 (by omega)
  have hN := noughtsOf (M := M1) hp hn ht hr
  have hL := lettersOf (M := M1) hp hn ht hr
  have hR := raised (M := M1) (a := (p : Int)) (n := n) (by omega) (by omega)
  have hNM := noughtsM hp.pr fs 1 hf (by omega) (by omega)
  rw [hl, if_neg (by decide)] at hNM
  have hW := worthMany (M := M2) hp (t := fs.foldl (stepM (p : Int)) [1]) (zs := zs) (by rw [ht, hz]) hzr hr (by omega)
  rw [manyM fs zs 1 (by omega)] at hW
  have hS := manySum (M := M2) hp ht hr hn
  have hrg := rng1_nat n (by omega)
  have hzip : zip2 [.tup (I zs), .lst (fs.map fT)] = some ((zs.zip fs).map fun q => T.tup [T.int q.1, fT q.2]) := zip2_map (seqItems_tup _) (seqItems_lst _)
  have hz2 : ∀ q ∈ zs.zip fs, 0 ≤ q.2.2 ∧ q.2.2 < p := by
    intro q hq
    have := hf q.2 (List.of_mem_zip hq).2
    exact this.2.2
  obtain ⟨s10', s11', s12', e3⟩ := dueLoop (M := M2) hp (.val (.ptr 0)) (.val (.int n)) s3 .un (.val (.lst (fs.map fT))) (.val (.lst (I (fs.foldl (stepM (p : Int)) [1])))) (.val (.int (freeM p fs))) (.val (.tup (I zs))) (zs.zip fs) 1 .un s11 s12 s13 (by omega) (by omega) hz2
  obtain ⟨s11'', s12'', e4⟩ := totalLoop (M := M2) hp (.val (.ptr 0)) (.val (.int n)) s3 (.val (.lst (fs.map fT))) (.val (.lst (I (fs.foldl (stepM (p : Int)) [1])))) (.val (.int (freeM p fs))) (.val (.tup (I zs))) (.val (.int ((zs.zip fs).foldl (fun d q => d * (q.2.1 + q.1 * q.2.2) % p) 1))) s10' fs 1 s11' s12' s13 (by omega) (by omega) (fun q hq => ⟨(hf q hq).1, (hf q hq).2.1⟩)
  have hsum : (fs.foldl (stepM (p : Int)) [1]).sum % p = fs.foldl (fun d q => d * (2 * q.1 + q.2) % (p : Int)) (1 : Int) := by
    have h1 : (1 : Int) % p = 1 := rest_self (by omega) (by omega)
    rcases sumM (p := (p : Int)) fs [1] with h | h
    · rw [h]; simp [h1]
    · subst h; simp [h1]
  rw [hsum] at hS
  unfold prodB at e1
  have hfz := frzS_own (i := 5) (ts := fs.map fT) (ρ := [.val (.ptr 0), .val (.int p), .val (.int n), s3, .un, .own (fs.map fT), .val (.lst (I (fs.foldl (stepM (p : Int)) [1]))), .val (.int (freeM p fs)), .val (.tup (I zs)), .val (.int 1), .un, s11, s12, s13]) (M := M2) rfl
  have hfz2 := fun (d : Int) => frzS_val (i := 5) (t := .lst (fs.map fT)) (ρ := [.val (.ptr 0), .val (.int p), .val (.int n), s3, .val (.int 1), .val (.lst (fs.map fT)), .val (.lst (I (fs.foldl (stepM (p : Int)) [1]))), .val (.int (freeM p fs)), .val (.tup (I zs)), .val (.int d), s10', s11', s12', s13]) (M := M2) rfl
  refine ⟨M2, ?_, q2.mono (by omega)⟩
  simp only [f__law_products_right, m__law_products_right, par3S_ap, par3K_ovv, par2S_ap, par2K_vv, hrg, lstT_one, seqS_ap, seqK_nx, seqK_ret, retS_ap, setS_ap, augS_ap, augK_some, asgS_ap, optS_some, ifS_ap, exprS_ap, nextS_ap, forS_ap, R.toS_ok, R.bind_ok, pureE_ap, bindE_ap, optE_some, varE_ap, op1_ap, op2_ap, opA_ap, bindO_ap, nilA_ap, consA_ap, callE_ap, andV_ap, andK_bl, orV_ap, orK_bl, ifV_ap, testE_ap, andB_ap, orB_ap, notB_ap, lstE_ap, compF_ap, dispF_ap, nilX_ap, valX_ap, ownX_ap, runF_ap, runK_ret, runK_nx, nameG_ap, forL_nil, forL_name, forK_nx, forK_ret, wipeR, lenT_tup, lenT_lst, lenT_sq, seqItems_tup, seqItems_lst, seqItems_sq, tupleT_lst, listT_lst, addT_int, subT_int, ltT_int, leT_int, gtT_int, geT_int, truT_bl, truT_int, blT_bl, notT_bl, int1T_int, addI_int, eqT_int, neT_int, List.map_cons, List.map_nil, List.length_cons, List.length_nil, List.cons_append, List.nil_append, List.append_nil, List.getElem?_cons_zero, List.getElem?_cons_succ, List.set_cons_zero, List.set_cons_succ, List.replicate_succ, List.replicate_zero, Nat.reduceAdd, Nat.reduceSub, if_true, ite_true, reduceIte, Nat.zero_add, Nat.zero_le, decide_true, decide_false, Bool.not_true, Bool.not_false, Bool.false_eq_true, if_false]
  rw [e1]
  simp only [hN, hL, hR, hNM, e2, hfz, hfz2, hzip, e3, e4, hW, hS, List.headD_cons, decide_true, Bool.not_true, Bool.false_eq_true, if_false, par2S_ap, par2K_vv, seqS_ap, seqK_nx, seqK_ret, retS_ap, setS_ap, augS_ap, augK_some, asgS_ap, optS_some, ifS_ap, exprS_ap, nextS_ap, forS_ap, R.toS_ok, R.bind_ok, pureE_ap, bindE_ap, optE_some, varE_ap, op1_ap, op2_ap, opA_ap, bindO_ap, nilA_ap, consA_ap, callE_ap, andV_ap, andK_bl, orV_ap, orK_bl, ifV_ap, testE_ap, andB_ap, orB_ap, notB_ap, lstE_ap, compF_ap, dispF_ap, nilX_ap, valX_ap, ownX_ap, runF_ap, runK_ret, runK_nx, nameG_ap, forL_nil, forL_name, forK_nx, forK_ret, wipeR, lenT_tup, lenT_lst, lenT_sq, seqItems_tup, seqItems_lst, seqItems_sq, tupleT_lst, listT_lst, addT_int, subT_int, ltT_int, leT_int, gtT_int, geT_int, truT_bl, truT_int, blT_bl, notT_bl, int1T_int, addI_int, eqT_int, neT_int, List.map_cons, List.map_nil, List.length_cons, List.length_nil, List.cons_append, List.nil_append, List.append_nil, List.getElem?_cons_zero, List.getElem?_cons_succ, List.set_cons_zero, List.set_cons_succ, List.replicate_succ, List.replicate_zero, Nat.reduceAdd, Nat.reduceSub, if_true, ite_true, reduceIte, Nat.zero_add, Nat.zero_le, decide_true, decide_false, Bool.not_true, Bool.not_false, Bool.false_eq_true, if_false]

theorem rep_flat (x : Int) : ∀ k : Nat, (List.replicate k [T.int x]).flatten = I (List.replicate k x)
  | 0 => rfl
  | k + 1 => by rw [List.replicate_succ, List.flatten_cons, rep_flat x k]; rfl
theorem mulT_rep (x : Int) {k : Nat} (h : k ≤ 1000) : mulT (.tup [.int x]) (.int k) = some (.tup (I (List.replicate k x))) := by
  rw [mulT_tup (by simp; omega) (by omega), rep_flat]
theorem rest_rep {x : Int} (k : Nat) (h : 0 ≤ x ∧ x < p) : Rs p (List.replicate k x) := by
  intro w hw; rw [(List.mem_replicate.mp hw).2]; exact h
theorem boundRight {b n : Nat} (hp : PP p) (hn : n ≤ 4) (hM : PenOk b M) (hb : b < 100000) : ∃ M', f__law_bound_right [.ptr 0, .int p, .int n] M = .ok (.bl true) M' ∧ PenOk (b + 200) M' := by
  have hpl := hp.le
  have h4 := pow4 hn
  have hR2 := raised (M := M) (a := 2) (n := n) (by decide) (by omega)
  have hsz : ((2 : Int) ^ n) = ((2 ^ n : Nat) : Int) := by push_cast; rfl
  rw [hsz] at hR2
  obtain ⟨jj, M1, d1, j0, j1, q1⟩ := draw (many := ((2 ^ n : Nat) : Int)) (by omega) hM (by omega)
  obtain ⟨k, M2, d2, k0, k1, q2⟩ := draw (many := (p : Int) - 1) (by omega) q1 (by omega)
  obtain ⟨j, rfl⟩ : ∃ j : Nat, jj = (j : Int) := ⟨jj.toNat, by omega⟩
  have hj : j < 2 ^ n := by omega
  have c0 : 0 < 1 + k := by omega
  have c1 : 1 + k < p := by omega
  have n0 := noughts0 hp.pr n
  have nC := noughtsC hp.pr c0 c1 n
  have n1 := noughts1 hp.pr n j (1 + k) hj (by omega) c1
  rw [if_neg (by omega)] at n1
  have hm := noughts_most hp.pr n
  generalize hs : 2 ^ n = size at *
  generalize hc : 1 + k = c at *
  have lone_eq : List.replicate j 0 ++ [c] ++ List.replicate (size - j - 1) 0 = lone j c size := rfl
  have lone_len : (lone j c size).length = size := by simp [lone]; omega
  have lone_rest : Rs p (lone j c size) := by
    intro w hw
    simp only [lone, List.mem_append, List.mem_replicate, List.mem_singleton] at hw
    rcases hw with (⟨_, rfl⟩ | rfl) | ⟨_, rfl⟩ <;> omega
  have t1 := mulT_rep 0 (k := j) (by omega)
  have t2 := mulT_rep 0 (k := size - j - 1) (by omega)
  rw [show ((size - j - 1 : Nat) : Int) = (size : Int) - j - 1 by omega] at t2
  have t3 := mulT_rep 0 (k := size) (by omega)
  have t4 := mulT_rep c (k := size) (by omega)
  have t5 := addT_tup (a := I (List.replicate j 0)) (b := [T.int c]) (by simp; omega)
  have t6 := addT_tup (a := I (List.replicate j 0) ++ [T.int c]) (b := I (List.replicate (size - j - 1) 0)) (by simp; omega)
  have t7 : I (List.replicate j 0) ++ [T.int c] ++ I (List.replicate (size - j - 1) 0) = I (lone j c size) := by simp [lone, I]
  rw [t7] at t6
  have hRp := fun (M : Sto) => raised (M := M) (a := (p : Int)) (n := n) (by omega) (by omega)
  have hRq := fun (M : Sto) => raised (M := M) (a := (p : Int) - 1) (n := n) (by omega) (by omega)
  have hN1 := noughtsOf (M := M2) hp (n := n) hn (t := lone j c size) (by rw [lone_len, hs]) lone_rest
  have hN2 := noughtsOf (M := M2) hp (n := n) hn (t := List.replicate size 0) (by rw [List.length_replicate, hs]) (rest_rep _ (by omega))
  have hN3 := noughtsOf (M := M2) hp (n := n) hn (t := List.replicate size c) (by rw [List.length_replicate, hs]) (rest_rep _ (by omega))
  rw [n1] at hN1
  rw [n0] at hN2
  rw [nC] at hN3
  obtain ⟨ys, M3, e3, ⟨zs, rfl, hz, hM', _⟩, hl⟩ := compL_inv (g := nameG 10) (tt := yesB) (ρ := [.val (.ptr 0), .val (.int p), .val (.int n), .val (.int size), .val (.tup (I (lone j c size))), .val (.int ((p : Int) ^ n - ((p : Int) - 1) ^ n)), .un, .un, .val (.int j), .val (.int c), .un]) (te := callE 2 f__law_pick (consA (varE 0) (consA (opA (consA (pureE (.int 0)) (consA (pureE (.int 0)) (consA (callE 2 f__law_draw (consA (varE 0) (consA (varE 1) (nilA)))) (nilA)))) lstT) (nilA))))
    (L := size) (fun acc M => ∃ zs, acc = I zs ∧ Rs p zs ∧ PenOk (b + 2 + 2 * zs.length) M ∧ True) ((List.range size).map fun (i : Nat) => T.int (i : Int)) [] M2 (by simp) ⟨[], rfl, by simp [Rs], q2, trivial⟩ (fun acc t M ht hal ⟨zs, e1, h1, h2, _⟩ => by
      have hzs : b + 2 + 2 * zs.length < 900000 := by rw [e1, List.length_map] at hal; omega
      obtain ⟨k, M1, d1, k0, k1, q1⟩ := draw (many := (p : Int)) (by omega) h2 (by omega)
      obtain ⟨t2, M2, d2, m2, q2⟩ := pick (ts := [.int 0, .int 0, .int k]) (by simp) (by simp) q1 (by omega)
      refine ⟨_, rfl, rfl, ?_⟩
      have ht2 : ∃ z : Int, t2 = .int z ∧ 0 ≤ z ∧ z < p := by
        simp only [List.mem_cons, List.not_mem_nil, or_false] at m2
        rcases m2 with rfl | rfl | rfl
        · exact ⟨_, rfl, by omega, by omega⟩
        · exact ⟨_, rfl, by omega, by omega⟩
        · exact ⟨_, rfl, by omega, by omega⟩
      obtain ⟨z, rfl, z0, z1⟩ := ht2
      refine ⟨.int z, M2, ?_, zs ++ [z], ?_, ?_, ?_, trivial⟩
      · simp only [d1, d2, lst3, seqS_ap, seqK_nx, seqK_ret, retS_ap, setS_ap, augS_ap, augK_some, asgS_ap, optS_some, ifS_ap, exprS_ap, nextS_ap, forS_ap, R.toS_ok, R.bind_ok, pureE_ap, bindE_ap, optE_some, varE_ap, op1_ap, op2_ap, opA_ap, bindO_ap, nilA_ap, consA_ap, callE_ap, andV_ap, andK_bl, orV_ap, orK_bl, ifV_ap, testE_ap, andB_ap, orB_ap, notB_ap, lstE_ap, compF_ap, dispF_ap, nilX_ap, valX_ap, ownX_ap, runF_ap, runK_ret, runK_nx, nameG_ap, forL_nil, forL_name, forK_nx, forK_ret, wipeR, lenT_tup, lenT_lst, lenT_sq, seqItems_tup, seqItems_lst, seqItems_sq, tupleT_lst, listT_lst, addT_int, subT_int, ltT_int, leT_int, gtT_int, geT_int, truT_bl, truT_int, blT_bl, notT_bl, int1T_int, addI_int, eqT_int, neT_int, List.map_cons, List.map_nil, List.length_cons, List.length_nil, List.cons_append, List.nil_append, List.append_nil, List.getElem?_cons_zero, List.getElem?_cons_succ, List.set_cons_zero, List.set_cons_succ, List.replicate_succ, List.replicate_zero, Nat.reduceAdd, Nat.reduceSub, if_true, ite_true, reduceIte, Nat.zero_add, Nat.zero_le, decide_true, decide_false, Bool.not_true, Bool.not_false, Bool.false_eq_true, if_false]
      · rw [e1]; simp [I]
      · intro w hw
        rcases List.mem_append.mp hw with hw | hw
        · exact h1 w hw
        · rw [List.mem_singleton.mp hw]; exact ⟨z0, z1⟩
      · exact q2.mono (by simp; omega)) (by rw [line_eq]; omega)
  rw [List.length_map] at hl
  have hrg := rng1_nat size (by omega)
  obtain ⟨pt, M4, e4, hpt, hptr, q4⟩ := row hp hn (hM'.mono (b' := b + 100) (by omega)) (by omega)
  have hW := worthMany (M := M4) hp (t := lone j c size) (zs := pt) (by rw [lone_len, hpt, hs]) hptr lone_rest (by omega)
  have hcw := cornerWeight (M := M4) hp (zs := pt) (j := j) (by rw [hpt, hs]; exact hj) hptr (by omega)
  have hml := manyL_lone (p : Int) c pt j 1 (by rw [hpt, hs]; exact hj)
  rw [hpt, hs, Int.mul_one, rest_self (by omega) c1] at hml
  rw [hml] at hW
  have hNt := noughtsOf (M := M3) hp (n := n) hn (t := zs) (by rw [hl, hs]) hz
  have hne := neT_tup zs (List.replicate size 0)
  refine ⟨M4, ?_, q4.mono (by omega)⟩
  by_cases g : zs = List.replicate size 0
  · have hne' : neT (.tup (I (List.replicate size 0))) (.tup (I (List.replicate size 0))) = some (.bl false) := by rw [neT_tup]; simp
    simp only [f__law_bound_right, m__law_bound_right, par2S_ap, par2K_vv, hR2, d1, d2, hc, t1, t2, t3, t4, t5, t6, tupT_one, hRp, hRq, hN1, hN2, hN3, hrg, e3, hne', g, e4, hW, hcw, mulT_int (mulOk_l (i := c) (by omega)), modT_int hp.pos, List.headD_cons, seqS_ap, seqK_nx, seqK_ret, retS_ap, setS_ap, augS_ap, augK_some, asgS_ap, optS_some, ifS_ap, exprS_ap, nextS_ap, forS_ap, R.toS_ok, R.bind_ok, pureE_ap, bindE_ap, optE_some, varE_ap, op1_ap, op2_ap, opA_ap, bindO_ap, nilA_ap, consA_ap, callE_ap, andV_ap, andK_bl, orV_ap, orK_bl, ifV_ap, testE_ap, andB_ap, orB_ap, notB_ap, lstE_ap, compF_ap, dispF_ap, nilX_ap, valX_ap, ownX_ap, runF_ap, runK_ret, runK_nx, nameG_ap, forL_nil, forL_name, forK_nx, forK_ret, wipeR, lenT_tup, lenT_lst, lenT_sq, seqItems_tup, seqItems_lst, seqItems_sq, tupleT_lst, listT_lst, addT_int, subT_int, ltT_int, leT_int, gtT_int, geT_int, truT_bl, truT_int, blT_bl, notT_bl, int1T_int, addI_int, eqT_int, neT_int, List.map_cons, List.map_nil, List.length_cons, List.length_nil, List.cons_append, List.nil_append, List.append_nil, List.getElem?_cons_zero, List.getElem?_cons_succ, List.set_cons_zero, List.set_cons_succ, List.replicate_succ, List.replicate_zero, Nat.reduceAdd, Nat.reduceSub, if_true, ite_true, reduceIte, Nat.zero_add, Nat.zero_le, decide_true, decide_false, Bool.not_true, Bool.not_false, Bool.false_eq_true, if_false]
  · have hle : N p n zs ≤ (p : Int) ^ n - ((p : Int) - 1) ^ n := by
      refine hm zs hl hz ?_
      false_or_by_contra
      rename_i hh
      apply g
      rw [List.eq_replicate_iff]
      refine ⟨hl, fun w hw => ?_⟩
      false_or_by_contra
      rename_i h2
      exact hh ⟨w, hw, h2⟩
    have hle2 : ¬ ((p : Int) ^ n - ((p : Int) - 1) ^ n < N p n zs) := by omega
    simp only [f__law_bound_right, m__law_bound_right, par2S_ap, par2K_vv, hR2, d1, d2, hc, t1, t2, t3, t4, t5, t6, tupT_one, hRp, hRq, hN1, hN2, hN3, hrg, e3, hne, g, e4, hW, hcw, hNt, hle2, mulT_int (mulOk_l (i := c) (by omega)), modT_int hp.pos, List.headD_cons, seqS_ap, seqK_nx, seqK_ret, retS_ap, setS_ap, augS_ap, augK_some, asgS_ap, optS_some, ifS_ap, exprS_ap, nextS_ap, forS_ap, R.toS_ok, R.bind_ok, pureE_ap, bindE_ap, optE_some, varE_ap, op1_ap, op2_ap, opA_ap, bindO_ap, nilA_ap, consA_ap, callE_ap, andV_ap, andK_bl, orV_ap, orK_bl, ifV_ap, testE_ap, andB_ap, orB_ap, notB_ap, lstE_ap, compF_ap, dispF_ap, nilX_ap, valX_ap, ownX_ap, runF_ap, runK_ret, runK_nx, nameG_ap, forL_nil, forL_name, forK_nx, forK_ret, wipeR, lenT_tup, lenT_lst, lenT_sq, seqItems_tup, seqItems_lst, seqItems_sq, tupleT_lst, listT_lst, addT_int, subT_int, ltT_int, leT_int, gtT_int, geT_int, truT_bl, truT_int, blT_bl, notT_bl, int1T_int, addI_int, eqT_int, neT_int, List.map_cons, List.map_nil, List.length_cons, List.length_nil, List.cons_append, List.nil_append, List.append_nil, List.getElem?_cons_zero, List.getElem?_cons_succ, List.set_cons_zero, List.set_cons_succ, List.replicate_succ, List.replicate_zero, Nat.reduceAdd, Nat.reduceSub, if_true, ite_true, reduceIte, Nat.zero_add, Nat.zero_le, decide_true, decide_false, Bool.not_true, Bool.not_false, Bool.false_eq_true, if_false]

/-! ### sums of letters -/
theorem sumsLoop (hp : PP p) (s0 s2 s5 s6 s7 s8 s9 s10 s11 s12 s13 s14 s15 s16 s18 s19 : Slot) : ∀ (l : List Int) (t : List Int) (s4 s17 : Slot), t.length * 2 ^ l.length ≤ 100000 →
    ∃ s4', forL (nameG 4) (setS 3 (op2 (varE 3) (lstE (compF (bindO (varE 3) seqItems) (nameG 17) (yesB) (op2 (opA (consA (op2 (varE 17) (varE 4) addT) (nilA)) int1T) (varE 1) modT) [17])) addT)) (I l)
      [s0, .val (.int p), s2, .val (.lst (I t)), s4, s5, s6, s7, s8, s9, s10, s11, s12, s13, s14, s15, s16, s17, s18, s19] M =
    .nx [s0, .val (.int p), s2, .val (.lst (I (l.foldl (stepA p) t))), s4', s5, s6, s7, s8, s9, s10, s11, s12, s13, s14, s15, s16, s17, s18, s19] M
  | [], t, s4, s17, h => ⟨s4, rfl⟩
  | f :: l, t, s4, s17, h => by
    have hpw : 0 < 2 ^ l.length := Nat.pow_pos (by decide)
    have h' : (stepA (p : Int) t f).length * 2 ^ l.length ≤ 100000 := by
      rw [stepA_length]
      rw [List.length_cons, Nat.pow_succ] at h
      have : 2 * t.length * 2 ^ l.length = t.length * (2 ^ l.length * 2) := by grind
      omega
    have ht : t.length ≤ 100000 := Nat.le_trans (Nat.le_mul_of_pos_right _ (Nat.pow_pos (by decide))) h
    obtain ⟨s4', ih⟩ := sumsLoop hp s0 s2 s5 s6 s7 s8 s9 s10 s11 s12 s13 s14 s15 s16 s18 s19 l (stepA p t f) (.val (.int f)) s17 h'
    refine ⟨s4', ?_⟩
    have c1 := compL_name (ρ := [s0, .val (.int p), s2, .val (.lst (I t)), .val (.int f), s5, s6, s7, s8, s9, s10, s11, s12, s13, s14, s15, s16, .un, s18, s19]) (M := M) (i := 17) (e := T.int) (te := op2 (opA (consA (op2 (varE 17) (varE 4) addT) (nilA)) int1T) (varE 1) modT)
      (f := fun w => T.int ((w + f) % p)) t (fun w hw => by simp only [modT_int hp.pos, seqS_ap, seqK_nx, seqK_ret, retS_ap, setS_ap, augS_ap, augK_some, asgS_ap, optS_some, ifS_ap, exprS_ap, nextS_ap, forS_ap, R.toS_ok, R.bind_ok, pureE_ap, bindE_ap, optE_some, varE_ap, op1_ap, op2_ap, opA_ap, bindO_ap, nilA_ap, consA_ap, callE_ap, andV_ap, andK_bl, orV_ap, orK_bl, ifV_ap, testE_ap, andB_ap, orB_ap, notB_ap, lstE_ap, compF_ap, dispF_ap, nilX_ap, valX_ap, ownX_ap, runF_ap, runK_ret, runK_nx, nameG_ap, forL_nil, forL_name, forK_nx, forK_ret, wipeR, lenT_tup, lenT_lst, lenT_sq, seqItems_tup, seqItems_lst, seqItems_sq, tupleT_lst, listT_lst, addT_int, subT_int, ltT_int, leT_int, gtT_int, geT_int, truT_bl, truT_int, blT_bl, notT_bl, int1T_int, addI_int, eqT_int, neT_int, List.map_cons, List.map_nil, List.length_cons, List.length_nil, List.cons_append, List.nil_append, List.append_nil, List.getElem?_cons_zero, List.getElem?_cons_succ, List.set_cons_zero, List.set_cons_succ, List.replicate_succ, List.replicate_zero, Nat.reduceAdd, Nat.reduceSub, if_true, ite_true, reduceIte, Nat.zero_add, Nat.zero_le, decide_true, decide_false, Bool.not_true, Bool.not_false, Bool.false_eq_true, if_false]) (by rw [line_eq]; omega)
    have a1 := addT_lst (a := I t) (b := t.map fun w => T.int ((w + f) % p)) (by simp; omega)
    have e1 : I t ++ (t.map fun w => T.int ((w + f) % p)) = I (stepA p t f) := by simp [stepA, I, Function.comp_def]
    rw [e1] at a1
    rw [I, List.map_cons]
    simp only [c1, a1, seqS_ap, seqK_nx, seqK_ret, retS_ap, setS_ap, augS_ap, augK_some, asgS_ap, optS_some, ifS_ap, exprS_ap, nextS_ap, forS_ap, R.toS_ok, R.bind_ok, pureE_ap, bindE_ap, optE_some, varE_ap, op1_ap, op2_ap, opA_ap, bindO_ap, nilA_ap, consA_ap, callE_ap, andV_ap, andK_bl, orV_ap, orK_bl, ifV_ap, testE_ap, andB_ap, orB_ap, notB_ap, lstE_ap, compF_ap, dispF_ap, nilX_ap, valX_ap, ownX_ap, runF_ap, runK_ret, runK_nx, nameG_ap, forL_nil, forL_name, forK_nx, forK_ret, wipeR, lenT_tup, lenT_lst, lenT_sq, seqItems_tup, seqItems_lst, seqItems_sq, tupleT_lst, listT_lst, addT_int, subT_int, ltT_int, leT_int, gtT_int, geT_int, truT_bl, truT_int, blT_bl, notT_bl, int1T_int, addI_int, eqT_int, neT_int, List.map_cons, List.map_nil, List.length_cons, List.length_nil, List.cons_append, List.nil_append, List.append_nil, List.getElem?_cons_zero, List.getElem?_cons_succ, List.set_cons_zero, List.set_cons_succ, List.replicate_succ, List.replicate_zero, Nat.reduceAdd, Nat.reduceSub, if_true, ite_true, reduceIte, Nat.zero_add, Nat.zero_le, decide_true, decide_false, Bool.not_true, Bool.not_false, Bool.false_eq_true, if_false]
    exact ih
theorem zip_mul : ∀ fs zs : List Int, ((fs.zip zs).map fun q => T.int (q.1 * q.2)) = I (List.zipWith (· * ·) fs zs)
  | [], _ => by simp
  | _ :: _, [] => by simp
  | f :: fs, z :: zs => by
    have ih := zip_mul fs zs
    simp only [I, List.zip_cons_cons, List.map_cons, List.zipWith_cons_cons] at ih ⊢
    rw [ih]
theorem line0 (h : Pr p) : ∀ a b : List Int, a.length = b.length → Rs p a → lineI p 0 a b = a
  | [], [], _, _ => rfl
  | x :: a, y :: b, hl, hr => by
    have ih := line0 h a b (by simpa using hl) (fun w hw => hr w (by simp [hw]))
    have hx := hr x (by simp)
    unfold lineI at ih ⊢
    rw [List.zip_cons_cons, List.map_cons, ih]
    simp [rest_self hx.1 hx.2]
theorem line1 (h : Pr p) : ∀ a b : List Int, a.length = b.length → Rs p b → lineI p 1 a b = b
  | [], [], _, _ => rfl
  | x :: a, y :: b, hl, hr => by
    have ih := line1 h a b (by simpa using hl) (fun w hw => hr w (by simp [hw]))
    have hx := hr y (by simp)
    unfold lineI at ih ⊢
    rw [List.zip_cons_cons, List.map_cons, ih]
    have : x + 1 * (y - x) = y := by omega
    simp only [this, rest_self hx.1 hx.2]
theorem lineSum (x : Int) : ∀ fs a b : List Int, fs.length = a.length → a.length = b.length → ∃ k : Int, (List.zipWith (· * ·) fs (lineI p x a b)).sum = (List.zipWith (· * ·) fs a).sum + x * ((List.zipWith (· * ·) fs b).sum - (List.zipWith (· * ·) fs a).sum) + p * k
  | [], [], [], _, _ => ⟨0, by simp [lineI]⟩
  | f :: fs, u :: a, v :: b, h1, h2 => by
    obtain ⟨k, ih⟩ := lineSum x fs a b (by simpa using h1) (by simpa using h2)
    unfold lineI at ih ⊢
    refine ⟨k - f * ((u + x * (v - u)) / p), ?_⟩
    simp only [List.zip_cons_cons, List.map_cons, List.zipWith_cons_cons, List.sum_cons]
    rw [ih, mod_eq (u + x * (v - u)) p]
    generalize (u + x * (v - u)) / ↑p = w
    generalize (List.zipWith (· * ·) fs a).sum = sa
    generalize (List.zipWith (· * ·) fs b).sum = sb
    grind
theorem sumsRight {b n : Nat} (hp : PP p) (hn : n ≤ 4) (hM : PenOk b M) (hb : b < 100000) : ∃ M', f__law_sums_right [.ptr 0, .int p, .int n] M = .ok (.bl true) M' ∧ PenOk (b + 200) M' := by
  have hpl := hp.le
  have h4 := pow4 hn
  have hR2 := raised (M := M) (a := 2) (n := n) (by decide) (by omega)
  have hsz : ((2 : Int) ^ n) = ((2 ^ n : Nat) : Int) := by push_cast; rfl
  rw [hsz] at hR2
  obtain ⟨c, M1, d1, c0, c1, q1⟩ := draw (many := (p : Int)) (by omega) hM (by omega)
  obtain ⟨ys, M2, e2, ⟨fs, rfl, hf, hM', _⟩, hl⟩ := compL_inv (g := nameG 15) (tt := yesB) (ρ := [.val (.ptr 0), .val (.int p), .val (.int n), .un, .un, .un, .un, .un, .un, .un, .un, .un, .un, .un, .un, .un, .un, .un, .un, .un]) (te := op2 (pureE (.int 1)) (callE 2 f__law_draw (consA (varE 0) (consA (op2 (varE 1) (pureE (.int 1)) subT) (nilA)))) addT)
    (L := n) (fun acc M => ∃ fs : List Int, acc = I fs ∧ (∀ f ∈ fs, 0 < f ∧ f < p) ∧ PenOk (b + 1 + 2 * fs.length) M ∧ True) ((List.range n).map fun (i : Nat) => T.int (i : Int)) [] M1 (by simp) ⟨[], rfl, by simp, q1, trivial⟩ (fun acc t M ht hal ⟨fs, e1, h1, h2, _⟩ => by
      have hzs : b + 1 + 2 * fs.length < 900000 := by rw [e1, List.length_map] at hal; omega
      obtain ⟨k, M1, d1, k0, k1, q1⟩ := draw (many := (p : Int) - 1) (by omega) h2 (by omega)
      refine ⟨_, rfl, rfl, .int (1 + k), M1, ?_, fs ++ [1 + k], ?_, ?_, ?_, trivial⟩
      · simp only [d1, seqS_ap, seqK_nx, seqK_ret, retS_ap, setS_ap, augS_ap, augK_some, asgS_ap, optS_some, ifS_ap, exprS_ap, nextS_ap, forS_ap, R.toS_ok, R.bind_ok, pureE_ap, bindE_ap, optE_some, varE_ap, op1_ap, op2_ap, opA_ap, bindO_ap, nilA_ap, consA_ap, callE_ap, andV_ap, andK_bl, orV_ap, orK_bl, ifV_ap, testE_ap, andB_ap, orB_ap, notB_ap, lstE_ap, compF_ap, dispF_ap, nilX_ap, valX_ap, ownX_ap, runF_ap, runK_ret, runK_nx, nameG_ap, forL_nil, forL_name, forK_nx, forK_ret, wipeR, lenT_tup, lenT_lst, lenT_sq, seqItems_tup, seqItems_lst, seqItems_sq, tupleT_lst, listT_lst, addT_int, subT_int, ltT_int, leT_int, gtT_int, geT_int, truT_bl, truT_int, blT_bl, notT_bl, int1T_int, addI_int, eqT_int, neT_int, List.map_cons, List.map_nil, List.length_cons, List.length_nil, List.cons_append, List.nil_append, List.append_nil, List.getElem?_cons_zero, List.getElem?_cons_succ, List.set_cons_zero, List.set_cons_succ, List.replicate_succ, List.replicate_zero, Nat.reduceAdd, Nat.reduceSub, if_true, ite_true, reduceIte, Nat.zero_add, Nat.zero_le, decide_true, decide_false, Bool.not_true, Bool.not_false, Bool.false_eq_true, if_false]
      · rw [e1]; simp [I]
      · intro w hw
        rcases List.mem_append.mp hw with hw | hw
        · exact h1 w hw
        · rw [List.mem_singleton.mp hw]; omega
      · exact q1.mono (by simp; omega)) (by rw [line_eq]; omega)
  rw [List.length_map] at hl
  have ht : (fs.foldl (stepA (p : Int)) [c]).length = 2 ^ n := by rw [lengthA, hl]; simp
  have hr : Rs p (fs.foldl (stepA (p : Int)) [c]) := restA hp.pr fs [c] (by intro w hw; rw [List.mem_singleton.mp hw]; omega)
  have hN := noughtsOf (M := M2) hp hn ht hr
  have hNA := noughtsA hp.pr fs c hf c0 c1
  rw [hl] at hNA
  have hW := fun (M : Sto) (zs : List Int) (hz : zs.length = n) (hzr : Rs p zs) => worthMany (M := M) hp (t := fs.foldl (stepA (p : Int)) [c]) (zs := zs) (by rw [ht, hz]) hzr hr (by omega)
  have hmA := fun (zs : List Int) (hz : zs.length = n) => manyA (p := (p : Int)) fs zs c (by omega) c0 c1
  obtain ⟨one, M3, e3, ho, hor, q3⟩ := row hp hn (hM'.mono (b' := b + 50) (by omega)) (by omega)
  obtain ⟨two, M4, e4, hw, hwr, q4⟩ := row hp hn q3 (by omega)
  have hAL := alongLine (M := M4) hp (t := fs.foldl (stepA (p : Int)) [c]) (a := one) (d := two) (by rw [ht, ho]) hr hor hwr (by omega) (by omega)
  have hL0 := linePoint (M := M4) hp (a := one) (b := two) (t := 0) (by omega) (by omega) hor hwr (by omega)
  have hL1 := linePoint (M := M4) hp (a := one) (b := two) (t := 1) (by omega) (by omega) hor hwr (by omega)
  rw [show (((0 : Nat) : Int)) = 0 from rfl, line0 hp.pr one two (by omega) hor] at hL0
  rw [show (((1 : Nat) : Int)) = 1 from rfl, line1 hp.pr one two (by omega) hwr] at hL1
  have hW1 := hW M4 one ho hor
  rw [hmA one ho] at hW1
  have hst : ∃ st, (c + (List.zipWith (· * ·) fs one).sum) % p = st := ⟨_, rfl⟩
  have hen : ∃ en, (c + (List.zipWith (· * ·) fs two).sum) % p = en := ⟨_, rfl⟩
  obtain ⟨st, hst⟩ := hst
  obtain ⟨en, hen⟩ := hen
  have st0 : 0 ≤ st ∧ st < p := by rw [← hst]; exact ⟨Int.emod_nonneg _ (by omega), Int.emod_lt_of_pos _ (by omega)⟩
  have en0 : 0 ≤ en ∧ en < p := by rw [← hen]; exact ⟨Int.emod_nonneg _ (by omega), Int.emod_lt_of_pos _ (by omega)⟩
  have hAL2 : ((List.range (one.length + 1)).map fun (x : Nat) => (manyL p (fs.foldl (stepA (p : Int)) [c]) (lineI p x one two)).headD 0) = (List.range (n + 1)).map fun (x : Nat) => (st + (x : Int) * (en - st)) % p := by
    rw [ho]
    refine List.map_congr_left fun x hx => ?_
    rw [hmA _ (by simp [lineI]; omega), List.headD_cons]
    obtain ⟨k, hk⟩ := lineSum (p := p) (x : Int) fs one two (by omega) (by omega)
    rw [hk, ← hst, ← hen, mod_eq (c + (List.zipWith (· * ·) fs one).sum) p, mod_eq (c + (List.zipWith (· * ·) fs two).sum) p]
    generalize (List.zipWith (· * ·) fs one).sum = sa
    generalize (List.zipWith (· * ·) fs two).sum = sb
    generalize (c + sa) / ↑p = u
    generalize (c + sb) / ↑p = v
    refine mod_of (k + u + x * (v - u)) ?_
    grind
  rw [hAL2] at hAL
  rw [hst] at hW1
  obtain ⟨s4', e5⟩ := sumsLoop (M := M2) hp (.val (.ptr 0)) (.val (.int n)) .un .un (.val (.int (2 ^ n : Nat))) (.val (.int c)) (.val (.lst (I fs))) .un .un .un .un .un .un .un .un .un fs [c] .un .un (by rw [hl]; simp; omega)
  have hrg := rng1_nat n (by omega)
  have hrg1 : rng1 [.int ((n : Int) + 1)] = some ((List.range (n + 1)).map fun (i : Nat) => T.int (i : Int)) := by
    rw [show ((n : Int) + 1) = ((n + 1 : Nat) : Int) by omega]; exact rng1_nat (n + 1) (by omega)
  have hin := fun zs : List Int => compL_run (g := tupG 2 (consG (nameG 18) (consG (nameG 19) (nilG)))) (tt := yesB) (ρ := [.val (.ptr 0), .val (.int p), .val (.int n), .val (.lst (I (fs.foldl (stepA (p : Int)) [c]))), s4', .un, .un, .val (.int (2 ^ n : Nat)), .val (.int c), .val (.lst (I fs)), .val (.tup (I one)), .val (.tup (I two)), .un, .un, .val (.tup (I zs)), .un, .un, .un, .un, .un]) (M := M4)
    (e := fun q : Int × Int => T.tup [T.int q.1, T.int q.2]) (te := op2 (varE 18) (varE 19) mulT) (f := fun q : Int × Int => T.int (q.1 * q.2)) (fs.zip zs) [] (fun q hq => ⟨_, tupG_two, rfl, by
      have := hf q.1 (List.of_mem_zip hq).1
      simp only [mulT_int (mulOk_l (i := q.1) (j := q.2) (by omega)), seqS_ap, seqK_nx, seqK_ret, retS_ap, setS_ap, augS_ap, augK_some, asgS_ap, optS_some, ifS_ap, exprS_ap, nextS_ap, forS_ap, R.toS_ok, R.bind_ok, pureE_ap, bindE_ap, optE_some, varE_ap, op1_ap, op2_ap, opA_ap, bindO_ap, nilA_ap, consA_ap, callE_ap, andV_ap, andK_bl, orV_ap, orK_bl, ifV_ap, testE_ap, andB_ap, orB_ap, notB_ap, lstE_ap, compF_ap, dispF_ap, nilX_ap, valX_ap, ownX_ap, runF_ap, runK_ret, runK_nx, nameG_ap, forL_nil, forL_name, forK_nx, forK_ret, wipeR, lenT_tup, lenT_lst, lenT_sq, seqItems_tup, seqItems_lst, seqItems_sq, tupleT_lst, listT_lst, addT_int, subT_int, ltT_int, leT_int, gtT_int, geT_int, truT_bl, truT_int, blT_bl, notT_bl, int1T_int, addI_int, eqT_int, neT_int, List.map_cons, List.map_nil, List.length_cons, List.length_nil, List.cons_append, List.nil_append, List.append_nil, List.getElem?_cons_zero, List.getElem?_cons_succ, List.set_cons_zero, List.set_cons_succ, List.replicate_succ, List.replicate_zero, Nat.reduceAdd, Nat.reduceSub, if_true, ite_true, reduceIte, Nat.zero_add, Nat.zero_le, decide_true, decide_false, Bool.not_true, Bool.not_false, Bool.false_eq_true, if_false]⟩) (by simp [line_eq]; omega)
  have hzip := fun zs : List Int => zip2_map (x := .lst (I fs)) (y := .tup (I zs)) (seqItems_lst _) (seqItems_tup _)
  have hout := compL_name (ρ := [.val (.ptr 0), .val (.int p), .val (.int n), .val (.lst (I (fs.foldl (stepA (p : Int)) [c]))), s4', .un, .un, .val (.int (2 ^ n : Nat)), .val (.int c), .val (.lst (I fs)), .val (.tup (I one)), .val (.tup (I two)), .un, .un, .un, .un, .un, .un, .un, .un]) (M := M4) (i := 14) (e := fun zs : List Int => T.tup (I zs))
    (te := op2 (opA (consA (op2 (varE 8) (opA (consA (lstE (compF (bindO (consA (varE 9) (consA (varE 14) (nilA))) zip2) (tupG 2 (consG (nameG 18) (consG (nameG 19) (nilG)))) (yesB) (op2 (varE 18) (varE 19) mulT) [18, 19])) (nilA)) sumT) addT) (nilA)) int1T) (varE 1) modT)
    (f := fun zs => T.int ((c + (List.zipWith (· * ·) fs zs).sum) % p)) [one, two] (fun zs hzs => by
      simp only [hzip, hin, zip_mul, sumT_ints, modT_int hp.pos, seqS_ap, seqK_nx, seqK_ret, retS_ap, setS_ap, augS_ap, augK_some, asgS_ap, optS_some, ifS_ap, exprS_ap, nextS_ap, forS_ap, R.toS_ok, R.bind_ok, pureE_ap, bindE_ap, optE_some, varE_ap, op1_ap, op2_ap, opA_ap, bindO_ap, nilA_ap, consA_ap, callE_ap, andV_ap, andK_bl, orV_ap, orK_bl, ifV_ap, testE_ap, andB_ap, orB_ap, notB_ap, lstE_ap, compF_ap, dispF_ap, nilX_ap, valX_ap, ownX_ap, runF_ap, runK_ret, runK_nx, nameG_ap, forL_nil, forL_name, forK_nx, forK_ret, wipeR, lenT_tup, lenT_lst, lenT_sq, seqItems_tup, seqItems_lst, seqItems_sq, tupleT_lst, listT_lst, addT_int, subT_int, ltT_int, leT_int, gtT_int, geT_int, truT_bl, truT_int, blT_bl, notT_bl, int1T_int, addI_int, eqT_int, neT_int, List.map_cons, List.map_nil, List.length_cons, List.length_nil, List.cons_append, List.nil_append, List.append_nil, List.getElem?_cons_zero, List.getElem?_cons_succ, List.set_cons_zero, List.set_cons_succ, List.replicate_succ, List.replicate_zero, Nat.reduceAdd, Nat.reduceSub, if_true, ite_true, reduceIte, Nat.zero_add, Nat.zero_le, decide_true, decide_false, Bool.not_true, Bool.not_false, Bool.false_eq_true, if_false]) (by rw [line_eq]; simp)
  simp only [List.map_cons, List.map_nil, hst, hen] at hout
  have hdue := compL_name (ρ := [.val (.ptr 0), .val (.int p), .val (.int n), .val (.lst (I (fs.foldl (stepA (p : Int)) [c]))), s4', .un, .un, .val (.int (2 ^ n : Nat)), .val (.int c), .val (.lst (I fs)), .val (.tup (I one)), .val (.tup (I two)), .val (.int st), .val (.int en), .un, .un, .un, .un, .un, .un]) (M := M4) (i := 16) (e := fun (i : Nat) => T.int (i : Int))
    (te := op2 (opA (consA (op2 (varE 12) (op2 (varE 16) (op2 (varE 13) (varE 12) subT) mulT) addT) (nilA)) int1T) (varE 1) modT)
    (f := fun (x : Nat) => T.int ((st + (x : Int) * (en - st)) % p)) (List.range (n + 1)) (fun x hx => by
      simp only [mulT_int (mulOk_r (i := (x : Int)) (j := en - st) (by omega)), modT_int hp.pos, seqS_ap, seqK_nx, seqK_ret, retS_ap, setS_ap, augS_ap, augK_some, asgS_ap, optS_some, ifS_ap, exprS_ap, nextS_ap, forS_ap, R.toS_ok, R.bind_ok, pureE_ap, bindE_ap, optE_some, varE_ap, op1_ap, op2_ap, opA_ap, bindO_ap, nilA_ap, consA_ap, callE_ap, andV_ap, andK_bl, orV_ap, orK_bl, ifV_ap, testE_ap, andB_ap, orB_ap, notB_ap, lstE_ap, compF_ap, dispF_ap, nilX_ap, valX_ap, ownX_ap, runF_ap, runK_ret, runK_nx, nameG_ap, forL_nil, forL_name, forK_nx, forK_ret, wipeR, lenT_tup, lenT_lst, lenT_sq, seqItems_tup, seqItems_lst, seqItems_sq, tupleT_lst, listT_lst, addT_int, subT_int, ltT_int, leT_int, gtT_int, geT_int, truT_bl, truT_int, blT_bl, notT_bl, int1T_int, addI_int, eqT_int, neT_int, List.map_cons, List.map_nil, List.length_cons, List.length_nil, List.cons_append, List.nil_append, List.append_nil, List.getElem?_cons_zero, List.getElem?_cons_succ, List.set_cons_zero, List.set_cons_succ, List.replicate_succ, List.replicate_zero, Nat.reduceAdd, Nat.reduceSub, if_true, ite_true, reduceIte, Nat.zero_add, Nat.zero_le, decide_true, decide_false, Bool.not_true, Bool.not_false, Bool.false_eq_true, if_false]) (by rw [List.length_range, line_eq]; omega)
  have hdI : ((List.range (n + 1)).map fun (x : Nat) => T.int ((st + (x : Int) * (en - st)) % p)) = I ((List.range (n + 1)).map fun (x : Nat) => (st + (x : Int) * (en - st)) % p) := by simp [I, Function.comp_def]
  rw [hdI] at hdue
  refine ⟨M4, ?_, q4.mono (by omega)⟩
  generalize hD : ((List.range (n + 1)).map fun (x : Nat) => (st + (x : Int) * (en - st)) % (p : Int)) = D at *
  have hne := neT_tup D D
  have hlen : ((fs.foldl (stepA (p : Int)) [c]).length : Int) = ((2 ^ n : Nat) : Int) := by rw [ht]
  have eo := eqT_tup one one
  have ew := eqT_tup two two
  by_cases hn0 : 0 < n
  · have hn1 : (0 : Int) < (n : Int) := by omega
    have hRn := raised (M := M2) (a := (p : Int)) (n := n - 1) (by omega) (by omega)
    rw [show ((n - 1 : Nat) : Int) = (n : Int) - 1 by omega] at hRn
    rw [if_pos hn0] at hNA
    have hDl : D.length = n + 1 := by rw [← hD]; simp
    have hD0 : D.getD 0 0 = st := by rw [← hD]; simp [rest_self st0.1 st0.2]
    have hD1 : D.getD 1 0 = en := by
      rw [← hD]
      have : st + 1 * (en - st) = en := by omega
      have h1 : 1 < n + 1 := by omega
      simp only [List.getD_eq_getElem?_getD, List.getElem?_map, List.getElem?_range h1, Option.map_some, Option.getD_some]
      rw [show ((1 : Nat) : Int) = 1 from rfl, this, rest_self en0.1 en0.2]
    have g0 := sub_sq (b := true) (t := D) (i := 0) (by omega) (ρ := [.val (.ptr 0), .val (.int p), .val (.int n), .val (.lst (I (fs.foldl (stepA (p : Int)) [c]))), s4', .val (.tup (I D)), .val (.tup (I D)), .val (.int (2 ^ n : Nat)), .val (.int c), .val (.lst (I fs)), .val (.tup (I one)), .val (.tup (I two)), .val (.int st), .val (.int en), .un, .un, .un, .un, .un, .un]) (M := M4) (ma := varE 6) (mb := pureE (.int 0)) rfl rfl
    have g1 := sub_sq (b := true) (t := D) (i := 1) (by omega) (ρ := [.val (.ptr 0), .val (.int p), .val (.int n), .val (.lst (I (fs.foldl (stepA (p : Int)) [c]))), s4', .val (.tup (I D)), .val (.tup (I D)), .val (.int (2 ^ n : Nat)), .val (.int c), .val (.lst (I fs)), .val (.tup (I one)), .val (.tup (I two)), .val (.int st), .val (.int en), .un, .un, .un, .un, .un, .un]) (M := M4) (ma := varE 6) (mb := pureE (.int 1)) rfl rfl
    rw [hD0] at g0
    rw [hD1] at g1
    simp only [f__law_sums_right, m__law_sums_right, hR2, d1, hrg, e2, tupT_three, tupG_three, lstT_one, lstT_two, seqS_ap, seqK_nx, seqK_ret, retS_ap, setS_ap, augS_ap, augK_some, asgS_ap, optS_some, ifS_ap, exprS_ap, nextS_ap, forS_ap, R.toS_ok, R.bind_ok, pureE_ap, bindE_ap, optE_some, varE_ap, op1_ap, op2_ap, opA_ap, bindO_ap, nilA_ap, consA_ap, callE_ap, andV_ap, andK_bl, orV_ap, orK_bl, ifV_ap, testE_ap, andB_ap, orB_ap, notB_ap, lstE_ap, compF_ap, dispF_ap, nilX_ap, valX_ap, ownX_ap, runF_ap, runK_ret, runK_nx, nameG_ap, forL_nil, forL_name, forK_nx, forK_ret, wipeR, lenT_tup, lenT_lst, lenT_sq, seqItems_tup, seqItems_lst, seqItems_sq, tupleT_lst, listT_lst, addT_int, subT_int, ltT_int, leT_int, gtT_int, geT_int, truT_bl, truT_int, blT_bl, notT_bl, int1T_int, addI_int, eqT_int, neT_int, List.map_cons, List.map_nil, List.length_cons, List.length_nil, List.cons_append, List.nil_append, List.append_nil, List.getElem?_cons_zero, List.getElem?_cons_succ, List.set_cons_zero, List.set_cons_succ, List.replicate_succ, List.replicate_zero, Nat.reduceAdd, Nat.reduceSub, if_true, ite_true, reduceIte, Nat.zero_add, Nat.zero_le, decide_true, decide_false, Bool.not_true, Bool.not_false, Bool.false_eq_true, if_false]
    rw [show [T.int c] = I [c] from rfl, e5]
    simp only [hN, hNA, hn1, hRn, e3, e4, par2S_ap, par2K_vv, lstT_two, hout, seqG_two, hW1, hlen, hrg1, hdue, hAL, hne, g0, g1, tupT_two, neT_pair, hL0, hL1, eo, ew, List.headD_cons, List.length_map, seqS_ap, seqK_nx, seqK_ret, retS_ap, setS_ap, augS_ap, augK_some, asgS_ap, optS_some, ifS_ap, exprS_ap, nextS_ap, forS_ap, R.toS_ok, R.bind_ok, pureE_ap, bindE_ap, optE_some, varE_ap, op1_ap, op2_ap, opA_ap, bindO_ap, nilA_ap, consA_ap, callE_ap, andV_ap, andK_bl, orV_ap, orK_bl, ifV_ap, testE_ap, andB_ap, orB_ap, notB_ap, lstE_ap, compF_ap, dispF_ap, nilX_ap, valX_ap, ownX_ap, runF_ap, runK_ret, runK_nx, nameG_ap, forL_nil, forL_name, forK_nx, forK_ret, wipeR, lenT_tup, lenT_lst, lenT_sq, seqItems_tup, seqItems_lst, seqItems_sq, tupleT_lst, listT_lst, addT_int, subT_int, ltT_int, leT_int, gtT_int, geT_int, truT_bl, truT_int, blT_bl, notT_bl, int1T_int, addI_int, eqT_int, neT_int, List.map_cons, List.map_nil, List.length_cons, List.length_nil, List.cons_append, List.nil_append, List.append_nil, List.getElem?_cons_zero, List.getElem?_cons_succ, List.set_cons_zero, List.set_cons_succ, List.replicate_succ, List.replicate_zero, Nat.reduceAdd, Nat.reduceSub, if_true, ite_true, reduceIte, Nat.zero_add, Nat.zero_le, decide_true, decide_false, Bool.not_true, Bool.not_false, Bool.false_eq_true, if_false]
  · have h0 : n = 0 := by omega
    subst h0
    have hn1 : ¬ ((0 : Int) < ((0 : Nat) : Int)) := by decide
    rw [if_neg (by decide)] at hNA
    simp only [f__law_sums_right, m__law_sums_right, hR2, d1, hrg, e2, tupT_three, tupG_three, lstT_one, lstT_two, seqS_ap, seqK_nx, seqK_ret, retS_ap, setS_ap, augS_ap, augK_some, asgS_ap, optS_some, ifS_ap, exprS_ap, nextS_ap, forS_ap, R.toS_ok, R.bind_ok, pureE_ap, bindE_ap, optE_some, varE_ap, op1_ap, op2_ap, opA_ap, bindO_ap, nilA_ap, consA_ap, callE_ap, andV_ap, andK_bl, orV_ap, orK_bl, ifV_ap, testE_ap, andB_ap, orB_ap, notB_ap, lstE_ap, compF_ap, dispF_ap, nilX_ap, valX_ap, ownX_ap, runF_ap, runK_ret, runK_nx, nameG_ap, forL_nil, forL_name, forK_nx, forK_ret, wipeR, lenT_tup, lenT_lst, lenT_sq, seqItems_tup, seqItems_lst, seqItems_sq, tupleT_lst, listT_lst, addT_int, subT_int, ltT_int, leT_int, gtT_int, geT_int, truT_bl, truT_int, blT_bl, notT_bl, int1T_int, addI_int, eqT_int, neT_int, List.map_cons, List.map_nil, List.length_cons, List.length_nil, List.cons_append, List.nil_append, List.append_nil, List.getElem?_cons_zero, List.getElem?_cons_succ, List.set_cons_zero, List.set_cons_succ, List.replicate_succ, List.replicate_zero, Nat.reduceAdd, Nat.reduceSub, if_true, ite_true, reduceIte, Nat.zero_add, Nat.zero_le, decide_true, decide_false, Bool.not_true, Bool.not_false, Bool.false_eq_true, if_false]
    rw [show [T.int c] = I [c] from rfl, e5]
    by_cases hc0 : c = 0
    · have hcd : decide (c = 0) = true := decide_eq_true hc0
      rw [if_pos hc0] at hNA
      simp only [hN, hNA, hn1, hcd, e3, e4, par2S_ap, par2K_vv, lstT_two, hout, seqG_two, hW1, hlen, hrg1, hdue, hAL, hne, hL0, hL1, eo, ew, List.headD_cons, List.length_map, seqS_ap, seqK_nx, seqK_ret, retS_ap, setS_ap, augS_ap, augK_some, asgS_ap, optS_some, ifS_ap, exprS_ap, nextS_ap, forS_ap, R.toS_ok, R.bind_ok, pureE_ap, bindE_ap, optE_some, varE_ap, op1_ap, op2_ap, opA_ap, bindO_ap, nilA_ap, consA_ap, callE_ap, andV_ap, andK_bl, orV_ap, orK_bl, ifV_ap, testE_ap, andB_ap, orB_ap, notB_ap, lstE_ap, compF_ap, dispF_ap, nilX_ap, valX_ap, ownX_ap, runF_ap, runK_ret, runK_nx, nameG_ap, forL_nil, forL_name, forK_nx, forK_ret, wipeR, lenT_tup, lenT_lst, lenT_sq, seqItems_tup, seqItems_lst, seqItems_sq, tupleT_lst, listT_lst, addT_int, subT_int, ltT_int, leT_int, gtT_int, geT_int, truT_bl, truT_int, blT_bl, notT_bl, int1T_int, addI_int, eqT_int, neT_int, List.map_cons, List.map_nil, List.length_cons, List.length_nil, List.cons_append, List.nil_append, List.append_nil, List.getElem?_cons_zero, List.getElem?_cons_succ, List.set_cons_zero, List.set_cons_succ, List.replicate_succ, List.replicate_zero, Nat.reduceAdd, Nat.reduceSub, if_true, ite_true, reduceIte, Nat.zero_add, Nat.zero_le, decide_true, decide_false, Bool.not_true, Bool.not_false, Bool.false_eq_true, if_false]
    · simp only [hN, hNA, hn1, hc0, e3, e4, par2S_ap, par2K_vv, lstT_two, hout, seqG_two, hW1, hlen, hrg1, hdue, hAL, hne, hL0, hL1, eo, ew, List.headD_cons, List.length_map, seqS_ap, seqK_nx, seqK_ret, retS_ap, setS_ap, augS_ap, augK_some, asgS_ap, optS_some, ifS_ap, exprS_ap, nextS_ap, forS_ap, R.toS_ok, R.bind_ok, pureE_ap, bindE_ap, optE_some, varE_ap, op1_ap, op2_ap, opA_ap, bindO_ap, nilA_ap, consA_ap, callE_ap, andV_ap, andK_bl, orV_ap, orK_bl, ifV_ap, testE_ap, andB_ap, orB_ap, notB_ap, lstE_ap, compF_ap, dispF_ap, nilX_ap, valX_ap, ownX_ap, runF_ap, runK_ret, runK_nx, nameG_ap, forL_nil, forL_name, forK_nx, forK_ret, wipeR, lenT_tup, lenT_lst, lenT_sq, seqItems_tup, seqItems_lst, seqItems_sq, tupleT_lst, listT_lst, addT_int, subT_int, ltT_int, leT_int, gtT_int, geT_int, truT_bl, truT_int, blT_bl, notT_bl, int1T_int, addI_int, eqT_int, neT_int, List.map_cons, List.map_nil, List.length_cons, List.length_nil, List.cons_append, List.nil_append, List.append_nil, List.getElem?_cons_zero, List.getElem?_cons_succ, List.set_cons_zero, List.set_cons_succ, List.replicate_succ, List.replicate_zero, Nat.reduceAdd, Nat.reduceSub, if_true, ite_true, reduceIte, Nat.zero_add, Nat.zero_le, decide_true, decide_false, Bool.not_true, Bool.not_false, Bool.false_eq_true, if_false]

/-! ### the law -/
theorem penLoop (cs : T) : ∀ (l : List Int) (f : Int) (s2 : Slot), 0 ≤ f → f < 1000000409 →
    ∃ f' s2', forL (nameG 2) (setS 1 (op2 (opA (consA (op2 (op2 (varE 1) (pureE (.int 211)) mulT) (varE 2) addT) (nilA)) int1T) (pureE (.int 1000000409)) modT)) (I l) [.val cs, .val (.int f), s2] M = .nx [.val cs, .val (.int f'), s2'] M ∧ 0 ≤ f' ∧ f' < 1000000409
  | [], f, s2, h0, h1 => ⟨f, s2, rfl, h0, h1⟩
  | x :: l, f, s2, h0, h1 => by
    obtain ⟨f', s2', ih, a, b⟩ := penLoop cs l ((f * 211 + x) % 1000000409) (.val (.int x)) (Int.emod_nonneg _ (by decide)) (Int.emod_lt_of_pos _ (by decide))
    refine ⟨f', s2', ?_, a, b⟩
    rw [I, List.map_cons]
    simp only [mulT_int (mulOk_r (i := f) (j := 211) (by decide)), modT_int (j := 1000000409) (by decide), seqS_ap, seqK_nx, seqK_ret, retS_ap, setS_ap, augS_ap, augK_some, asgS_ap, optS_some, ifS_ap, exprS_ap, nextS_ap, forS_ap, R.toS_ok, R.bind_ok, pureE_ap, bindE_ap, optE_some, varE_ap, op1_ap, op2_ap, opA_ap, bindO_ap, nilA_ap, consA_ap, callE_ap, andV_ap, andK_bl, orV_ap, orK_bl, ifV_ap, testE_ap, andB_ap, orB_ap, notB_ap, lstE_ap, compF_ap, dispF_ap, nilX_ap, valX_ap, ownX_ap, runF_ap, runK_ret, runK_nx, nameG_ap, forL_nil, forL_name, forK_nx, forK_ret, wipeR, lenT_tup, lenT_lst, lenT_sq, seqItems_tup, seqItems_lst, seqItems_sq, tupleT_lst, listT_lst, addT_int, subT_int, ltT_int, leT_int, gtT_int, geT_int, truT_bl, truT_int, blT_bl, notT_bl, int1T_int, addI_int, eqT_int, neT_int, List.map_cons, List.map_nil, List.length_cons, List.length_nil, List.cons_append, List.nil_append, List.append_nil, List.getElem?_cons_zero, List.getElem?_cons_succ, List.set_cons_zero, List.set_cons_succ, List.replicate_succ, List.replicate_zero, Nat.reduceAdd, Nat.reduceSub, if_true, ite_true, reduceIte, Nat.zero_add, Nat.zero_le, decide_true, decide_false, Bool.not_true, Bool.not_false, Bool.false_eq_true, if_false]
    exact ih
theorem lawPen (ns : List Int) : ∃ M', f__law_pen [.lst (I ns)] [] = .ok (.ptr 0) M' ∧ PenOk 0 M' := by
  obtain ⟨f, s2, e, h0, h1⟩ := penLoop (M := []) (.lst (I ns)) ns 0 .un (by decide) (by decide)
  refine ⟨penM ns 0 0 0 f, ?_, ns, 0, 0, 0, f, rfl, by decide, by decide, by decide, h0, by omega⟩
  simp only [f__law_pen, m__law_pen, e, seqS_ap, seqK_nx, seqK_ret, retS_ap, setS_ap, augS_ap, augK_some, asgS_ap, optS_some, ifS_ap, exprS_ap, nextS_ap, forS_ap, R.toS_ok, R.bind_ok, pureE_ap, bindE_ap, optE_some, varE_ap, op1_ap, op2_ap, opA_ap, bindO_ap, nilA_ap, consA_ap, callE_ap, andV_ap, andK_bl, orV_ap, orK_bl, ifV_ap, testE_ap, andB_ap, orB_ap, notB_ap, lstE_ap, compF_ap, dispF_ap, nilX_ap, valX_ap, ownX_ap, runF_ap, runK_ret, runK_nx, nameG_ap, forL_nil, forL_name, forK_nx, forK_ret, wipeR, lenT_tup, lenT_lst, lenT_sq, seqItems_tup, seqItems_lst, seqItems_sq, tupleT_lst, listT_lst, addT_int, subT_int, ltT_int, leT_int, gtT_int, geT_int, truT_bl, truT_int, blT_bl, notT_bl, int1T_int, addI_int, eqT_int, neT_int, List.map_cons, List.map_nil, List.length_cons, List.length_nil, List.cons_append, List.nil_append, List.append_nil, List.getElem?_cons_zero, List.getElem?_cons_succ, List.set_cons_zero, List.set_cons_succ, List.replicate_succ, List.replicate_zero, Nat.reduceAdd, Nat.reduceSub, if_true, ite_true, reduceIte, Nat.zero_add, Nat.zero_le, decide_true, decide_false, Bool.not_true, Bool.not_false, Bool.false_eq_true, if_false]
  simp only [dictE, pairsE, seqS_ap, seqK_nx, seqK_ret, retS_ap, setS_ap, augS_ap, augK_some, asgS_ap, optS_some, ifS_ap, exprS_ap, nextS_ap, forS_ap, R.toS_ok, R.bind_ok, pureE_ap, bindE_ap, optE_some, varE_ap, op1_ap, op2_ap, opA_ap, bindO_ap, nilA_ap, consA_ap, callE_ap, andV_ap, andK_bl, orV_ap, orK_bl, ifV_ap, testE_ap, andB_ap, orB_ap, notB_ap, lstE_ap, compF_ap, dispF_ap, nilX_ap, valX_ap, ownX_ap, runF_ap, runK_ret, runK_nx, nameG_ap, forL_nil, forL_name, forK_nx, forK_ret, wipeR, lenT_tup, lenT_lst, lenT_sq, seqItems_tup, seqItems_lst, seqItems_sq, tupleT_lst, listT_lst, addT_int, subT_int, ltT_int, leT_int, gtT_int, geT_int, truT_bl, truT_int, blT_bl, notT_bl, int1T_int, addI_int, eqT_int, neT_int, List.map_cons, List.map_nil, List.length_cons, List.length_nil, List.cons_append, List.nil_append, List.append_nil, List.getElem?_cons_zero, List.getElem?_cons_succ, List.set_cons_zero, List.set_cons_succ, List.replicate_succ, List.replicate_zero, Nat.reduceAdd, Nat.reduceSub, if_true, ite_true, reduceIte, Nat.zero_add, Nat.zero_le, decide_true, decide_false, Bool.not_true, Bool.not_false, Bool.false_eq_true, if_false]
  rw [if_pos (by refine ⟨by decide, ?_⟩; decide)]
  rfl
theorem choices {t : T} (h : t ∈ [T.tup [.int 5, .int 0], .tup [.int 5, .int 3], .tup [.int 5, .int 4], .tup [.int 7, .int 3], .tup [.int 7, .int 4], .tup [.int 11, .int 2], .tup [.int 13, .int 3], .tup [.int 101, .int 1], .tup [.int 101, .int 2], .tup [.int 17, .int 3]]) :
    ∃ p n : Nat, t = .tup [.int p, .int n] ∧ PP p ∧ n ≤ 4 := by
  simp only [List.mem_cons, List.not_mem_nil, or_false] at h
  rcases h with rfl | rfl | rfl | rfl | rfl | rfl | rfl | rfl | rfl | rfl
  · exact ⟨5, 0, rfl, by simp [PP], by decide⟩
  · exact ⟨5, 3, rfl, by simp [PP], by decide⟩
  · exact ⟨5, 4, rfl, by simp [PP], by decide⟩
  · exact ⟨7, 3, rfl, by simp [PP], by decide⟩
  · exact ⟨7, 4, rfl, by simp [PP], by decide⟩
  · exact ⟨11, 2, rfl, by simp [PP], by decide⟩
  · exact ⟨13, 3, rfl, by simp [PP], by decide⟩
  · exact ⟨101, 1, rfl, by simp [PP], by decide⟩
  · exact ⟨101, 2, rfl, by simp [PP], by decide⟩
  · exact ⟨17, 3, rfl, by simp [PP], by decide⟩
end
theorem law_true (ns : List Int) (h : ns.length ≤ 63) : ∃ M, f_law [.lst (ns.map T.int)] [] = .ok (.bl true) M := by
  obtain ⟨M0, e0, q0⟩ := lawPen ns
  have hrg : rng1 [.int 4] = some ((List.range 4).map fun (i : Nat) => T.int (i : Int)) := rng1_nat 4 (by decide)
  have hl10 : lstT [T.tup [.int 5, .int 0], .tup [.int 5, .int 3], .tup [.int 5, .int 4], .tup [.int 7, .int 3], .tup [.int 7, .int 4], .tup [.int 11, .int 2], .tup [.int 13, .int 3], .tup [.int 101, .int 1], .tup [.int 101, .int 2], .tup [.int 17, .int 3]] = some (.lst [T.tup [.int 5, .int 0], .tup [.int 5, .int 3], .tup [.int 5, .int 4], .tup [.int 7, .int 3], .tup [.int 7, .int 4], .tup [.int 11, .int 2], .tup [.int 13, .int 3], .tup [.int 101, .int 1], .tup [.int 101, .int 2], .tup [.int 17, .int 3]]) := lstT_of (by simp)
  obtain ⟨ρ', M', e, s2, s3, s4, rfl, _⟩ := forL_inv (g := nameG 2) (body := seqS (asgS (callE 2 f__law_pick (consA (varE 1) (consA (opA (consA (opA (consA (pureE (.int 5)) (consA (pureE (.int 0)) (nilA))) tupT) (consA (opA (consA (pureE (.int 5)) (consA (pureE (.int 3)) (nilA))) tupT) (consA (opA (consA (pureE (.int 5)) (consA (pureE (.int 4)) (nilA))) tupT) (consA (opA (consA (pureE (.int 7)) (consA (pureE (.int 3)) (nilA))) tupT) (consA (opA (consA (pureE (.int 7)) (consA (pureE (.int 4)) (nilA))) tupT) (consA (opA (consA (pureE (.int 11)) (consA (pureE (.int 2)) (nilA))) tupT) (consA (opA (consA (pureE (.int 13)) (consA (pureE (.int 3)) (nilA))) tupT) (consA (opA (consA (pureE (.int 101)) (consA (pureE (.int 1)) (nilA))) tupT) (consA (opA (consA (pureE (.int 101)) (consA (pureE (.int 2)) (nilA))) tupT) (consA (opA (consA (pureE (.int 17)) (consA (pureE (.int 3)) (nilA))) tupT) (nilA))))))))))) lstT) (nilA)))) (tupG 2 (consG (nameG 3) (consG (nameG 4) (nilG))))) (ifS (orB (notB (testE truT (callE 3 f__law_products_right (consA (varE 1) (consA (varE 3) (consA (varE 4) (nilA))))))) (orB (notB (testE truT (callE 3 f__law_bound_right (consA (varE 1) (consA (varE 3) (consA (varE 4) (nilA))))))) (notB (testE truT (callE 3 f__law_sums_right (consA (varE 1) (consA (varE 3) (consA (varE 4) (nilA))))))))) (retS (pureE (.bl false))) (nextS)))
    (L := 4) (fun dn ρ M => ∃ s2 s3 s4, ρ = [.val (.lst (I ns)), .val (.ptr 0), s2, s3, s4] ∧ PenOk (1000 * dn.length) M) ((List.range 4).map fun (i : Nat) => T.int (i : Int)) [] [.val (.lst (I ns)), .val (.ptr 0), .un, .un, .un] M0 (by simp) ⟨.un, .un, .un, rfl, q0⟩
    (by
      rintro dn t ρ M ht hd ⟨s2, s3, s4, rfl, q⟩
      obtain ⟨tp, M1, e1, m1, q1⟩ := pick (ts := [T.tup [.int 5, .int 0], .tup [.int 5, .int 3], .tup [.int 5, .int 4], .tup [.int 7, .int 3], .tup [.int 7, .int 4], .tup [.int 11, .int 2], .tup [.int 13, .int 3], .tup [.int 101, .int 1], .tup [.int 101, .int 2], .tup [.int 17, .int 3]]) (by simp) (by simp) q (by omega)
      obtain ⟨p, n, rfl, hp, hn⟩ := choices m1
      obtain ⟨M2, e2, q2⟩ := productsRight hp hn q1 (by omega)
      obtain ⟨M3, e3, q3⟩ := boundRight hp hn q2 (by omega)
      obtain ⟨M4, e4, q4⟩ := sumsRight hp hn q3 (by omega)
      refine ⟨_, rfl, [.val (.lst (I ns)), .val (.ptr 0), .val t, .val (.int p), .val (.int n)], M4, ?_, .val t, .val (.int p), .val (.int n), rfl, q4.mono (by simp; omega)⟩
      simp only [e1, e2, e3, e4, tupT_two, tupG_two, hl10, seqS_ap, seqK_nx, seqK_ret, retS_ap, setS_ap, augS_ap, augK_some, asgS_ap, optS_some, ifS_ap, exprS_ap, nextS_ap, forS_ap, R.toS_ok, R.bind_ok, pureE_ap, bindE_ap, optE_some, varE_ap, op1_ap, op2_ap, opA_ap, bindO_ap, nilA_ap, consA_ap, callE_ap, andV_ap, andK_bl, orV_ap, orK_bl, ifV_ap, testE_ap, andB_ap, orB_ap, notB_ap, lstE_ap, compF_ap, dispF_ap, nilX_ap, valX_ap, ownX_ap, runF_ap, runK_ret, runK_nx, nameG_ap, forL_nil, forL_name, forK_nx, forK_ret, wipeR, lenT_tup, lenT_lst, lenT_sq, seqItems_tup, seqItems_lst, seqItems_sq, tupleT_lst, listT_lst, addT_int, subT_int, ltT_int, leT_int, gtT_int, geT_int, truT_bl, truT_int, blT_bl, notT_bl, int1T_int, addI_int, eqT_int, neT_int, List.map_cons, List.map_nil, List.length_cons, List.length_nil, List.cons_append, List.nil_append, List.append_nil, List.getElem?_cons_zero, List.getElem?_cons_succ, List.set_cons_zero, List.set_cons_succ, List.replicate_succ, List.replicate_zero, Nat.reduceAdd, Nat.reduceSub, if_true, ite_true, reduceIte, Nat.zero_add, Nat.zero_le, decide_true, decide_false, Bool.not_true, Bool.not_false, Bool.false_eq_true, if_false])
  exact ⟨M', by simp only [f_law, m_law, e0, hrg, e, seqS_ap, seqK_nx, seqK_ret, retS_ap, setS_ap, augS_ap, augK_some, asgS_ap, optS_some, ifS_ap, exprS_ap, nextS_ap, forS_ap, R.toS_ok, R.bind_ok, pureE_ap, bindE_ap, optE_some, varE_ap, op1_ap, op2_ap, opA_ap, bindO_ap, nilA_ap, consA_ap, callE_ap, andV_ap, andK_bl, orV_ap, orK_bl, ifV_ap, testE_ap, andB_ap, orB_ap, notB_ap, lstE_ap, compF_ap, dispF_ap, nilX_ap, valX_ap, ownX_ap, runF_ap, runK_ret, runK_nx, nameG_ap, forL_nil, forL_name, forK_nx, forK_ret, wipeR, lenT_tup, lenT_lst, lenT_sq, seqItems_tup, seqItems_lst, seqItems_sq, tupleT_lst, listT_lst, addT_int, subT_int, ltT_int, leT_int, gtT_int, geT_int, truT_bl, truT_int, blT_bl, notT_bl, int1T_int, addI_int, eqT_int, neT_int, List.map_cons, List.map_nil, List.length_cons, List.length_nil, List.cons_append, List.nil_append, List.append_nil, List.getElem?_cons_zero, List.getElem?_cons_succ, List.set_cons_zero, List.set_cons_succ, List.replicate_succ, List.replicate_zero, Nat.reduceAdd, Nat.reduceSub, if_true, ite_true, reduceIte, Nat.zero_add, Nat.zero_le, decide_true, decide_false, Bool.not_true, Bool.not_false, Bool.false_eq_true, if_false]⟩
end K27
end
section
set_option Elab.async false
set_option linter.all false
set_option maxRecDepth 100000
set_option maxHeartbeats 2000000
/-! The walks of the defs, printed by gen.py. -/
namespace K27
open PySem PySem.Spec PyProof.Rows L2 TL

def topS (i : Nat) : Stmt := PySem.Challenge.pw_believedruns_k27_whole_noughts_known_ahe.main.body.getD i (.Pass ⟨0, 0, 0, 0⟩)
abbrev s_is_whole : Stmt := topS 7
theorem sc_is_whole : FnScope ["value"] ["value"] (defScope s_is_whole) := ⟨rfl, rfl, rfl, by decide +kernel, rfl, by decide +kernel, by decide +kernel⟩
abbrev s_is_count : Stmt := topS 8
theorem sc_is_count : FnScope ["value"] ["value"] (defScope s_is_count) := ⟨rfl, rfl, rfl, by decide +kernel, rfl, by decide +kernel, by decide +kernel⟩
abbrev s_is_prime : Stmt := topS 11
theorem sc_is_prime : FnScope ["value", "part"] ["value"] (defScope s_is_prime) := ⟨rfl, rfl, rfl, by decide +kernel, rfl, by decide +kernel, by decide +kernel⟩
abbrev s_need_prime : Stmt := topS 12
theorem sc_need_prime : FnScope ["p"] ["p"] (defScope s_need_prime) := ⟨rfl, rfl, rfl, by decide +kernel, rfl, by decide +kernel, by decide +kernel⟩
abbrev s_is_rest_in : Stmt := topS 13
theorem sc_is_rest_in : FnScope ["p", "value"] ["p", "value"] (defScope s_is_rest_in) := ⟨rfl, rfl, rfl, by decide +kernel, rfl, by decide +kernel, by decide +kernel⟩
abbrev s_need_rests : Stmt := topS 14
theorem sc_need_rests : FnScope ["p", "row", "value"] ["p", "row"] (defScope s_need_rests) := ⟨rfl, rfl, rfl, by decide +kernel, rfl, by decide +kernel, by decide +kernel⟩
abbrev s_doubled : Stmt := topS 15
theorem sc_doubled : FnScope ["many", "found", "lap"] ["many"] (defScope s_doubled) := ⟨rfl, rfl, rfl, by decide +kernel, rfl, by decide +kernel, by decide +kernel⟩
abbrev s_letters_in : Stmt := topS 16
theorem sc_letters_in : FnScope ["n", "found", "corners"] ["n"] (defScope s_letters_in) := ⟨rfl, rfl, rfl, by decide +kernel, rfl, by decide +kernel, by decide +kernel⟩
abbrev s_are_all_rests : Stmt := topS 18
theorem sc_are_all_rests : FnScope ["p", "value", "item"] ["p", "value"] (defScope s_are_all_rests) := ⟨rfl, rfl, rfl, by decide +kernel, rfl, by decide +kernel, by decide +kernel⟩
abbrev s_is_table_in : Stmt := topS 20
theorem sc_is_table_in : FnScope ["p", "value"] ["p", "value"] (defScope s_is_table_in) := ⟨rfl, rfl, rfl, by decide +kernel, rfl, by decide +kernel, by decide +kernel⟩
abbrev s_need_table : Stmt := topS 21
theorem sc_need_table : FnScope ["p", "table"] ["p", "table"] (defScope s_need_table) := ⟨rfl, rfl, rfl, by decide +kernel, rfl, by decide +kernel, by decide +kernel⟩
abbrev s_need_point : Stmt := topS 22
theorem sc_need_point : FnScope ["p", "point", "many"] ["p", "point", "many"] (defScope s_need_point) := ⟨rfl, rfl, rfl, by decide +kernel, rfl, by decide +kernel, by decide +kernel⟩
abbrev s_letters_of : Stmt := topS 23
theorem sc_letters_of : FnScope ["p", "table"] ["p", "table"] (defScope s_letters_of) := ⟨rfl, rfl, rfl, by decide +kernel, rfl, by decide +kernel, by decide +kernel⟩
abbrev s_weight_in : Stmt := topS 24
theorem sc_weight_in : FnScope ["p", "j", "point", "found", "z"] ["p", "j", "point"] (defScope s_weight_in) := ⟨rfl, rfl, rfl, by decide +kernel, rfl, by decide +kernel, by decide +kernel⟩
abbrev s_corner_weight : Stmt := topS 25
theorem sc_corner_weight : FnScope ["p", "j", "point"] ["p", "j", "point"] (defScope s_corner_weight) := ⟨rfl, rfl, rfl, by decide +kernel, rfl, by decide +kernel, by decide +kernel⟩
abbrev s_folded_in : Stmt := topS 26
theorem sc_folded_in : FnScope ["p", "table", "x", "j"] ["p", "table", "x"] (defScope s_folded_in) := ⟨rfl, rfl, rfl, by decide +kernel, rfl, by decide +kernel, by decide +kernel⟩
abbrev s_many_in : Stmt := topS 27
theorem sc_many_in : FnScope ["p", "table", "point", "z"] ["p", "table", "point"] (defScope s_many_in) := ⟨rfl, rfl, rfl, by decide +kernel, rfl, by decide +kernel, by decide +kernel⟩
abbrev s_worth_many : Stmt := topS 28
theorem sc_worth_many : FnScope ["p", "table", "point"] ["p", "table", "point"] (defScope s_worth_many) := ⟨rfl, rfl, rfl, by decide +kernel, rfl, by decide +kernel, by decide +kernel⟩
abbrev s_many_sum : Stmt := topS 29
theorem sc_many_sum : FnScope ["p", "table"] ["p", "table"] (defScope s_many_sum) := ⟨rfl, rfl, rfl, by decide +kernel, rfl, by decide +kernel, by decide +kernel⟩
abbrev s_line_in : Stmt := topS 30
theorem sc_line_in : FnScope ["p", "one", "two", "t", "a", "b"] ["p", "one", "two", "t"] (defScope s_line_in) := ⟨rfl, rfl, rfl, by decide +kernel, rfl, by decide +kernel, by decide +kernel⟩
abbrev s_line_point : Stmt := topS 31
theorem sc_line_point : FnScope ["p", "one", "two", "t", "point"] ["p", "one", "two", "t"] (defScope s_line_point) := ⟨rfl, rfl, rfl, by decide +kernel, rfl, by decide +kernel, by decide +kernel⟩
abbrev s_along_in : Stmt := topS 32
theorem sc_along_in : FnScope ["p", "table", "one", "two", "t"] ["p", "table", "one", "two"] (defScope s_along_in) := ⟨rfl, rfl, rfl, by decide +kernel, rfl, by decide +kernel, by decide +kernel⟩
abbrev s_along_line : Stmt := topS 33
theorem sc_along_line : FnScope ["p", "table", "one", "two", "many"] ["p", "table", "one", "two"] (defScope s_along_line) := ⟨rfl, rfl, rfl, by decide +kernel, rfl, by decide +kernel, by decide +kernel⟩
abbrev s_noughts_in : Stmt := topS 34
theorem sc_noughts_in : FnScope ["p", "table", "x"] ["p", "table"] (defScope s_noughts_in) := ⟨rfl, rfl, rfl, by decide +kernel, rfl, by decide +kernel, by decide +kernel⟩
abbrev s_noughts_of : Stmt := topS 35
theorem sc_noughts_of : FnScope ["p", "table"] ["p", "table"] (defScope s_noughts_of) := ⟨rfl, rfl, rfl, by decide +kernel, rfl, by decide +kernel, by decide +kernel⟩
abbrev s__law_pen : Stmt := topS 37
theorem sc__law_pen : FnScope ["script", "fold", "cell"] ["script"] (defScope s__law_pen) := ⟨rfl, rfl, rfl, by decide +kernel, rfl, by decide +kernel, by decide +kernel⟩
abbrev s__law_draw : Stmt := topS 38
theorem sc__law_draw : FnScope ["pen", "many", "blend", "cell", "digit"] ["pen", "many"] (defScope s__law_draw) := ⟨rfl, rfl, rfl, by decide +kernel, rfl, by decide +kernel, by decide +kernel⟩
abbrev s__law_pick : Stmt := topS 39
theorem sc__law_pick : FnScope ["pen", "some"] ["pen", "some"] (defScope s__law_pick) := ⟨rfl, rfl, rfl, by decide +kernel, rfl, by decide +kernel, by decide +kernel⟩
abbrev s__law_row : Stmt := topS 40
theorem sc__law_row : FnScope ["pen", "p", "many", "k"] ["pen", "p", "many"] (defScope s__law_row) := ⟨rfl, rfl, rfl, by decide +kernel, rfl, by decide +kernel, by decide +kernel⟩
abbrev s__law_raised : Stmt := topS 41
theorem sc__law_raised : FnScope ["a", "n", "found", "lap"] ["a", "n"] (defScope s__law_raised) := ⟨rfl, rfl, rfl, by decide +kernel, rfl, by decide +kernel, by decide +kernel⟩
abbrev s__law_products_right : Stmt := topS 42
theorem sc__law_products_right : FnScope ["pen", "p", "n", "lap", "total", "factors", "table", "free", "point", "due", "z", "a", "b", "w"] ["pen", "p", "n"] (defScope s__law_products_right) := ⟨rfl, rfl, rfl, by decide +kernel, rfl, by decide +kernel, by decide +kernel⟩
abbrev s__law_bound_right : Stmt := topS 43
theorem sc__law_bound_right : FnScope ["pen", "p", "n", "size", "lone", "most", "table", "point", "j", "c", "entry"] ["pen", "p", "n"] (defScope s__law_bound_right) := ⟨rfl, rfl, rfl, by decide +kernel, rfl, by decide +kernel, by decide +kernel⟩
abbrev s__law_sums_right : Stmt := topS 44
theorem sc__law_sums_right : FnScope ["pen", "p", "n", "table", "factor", "due", "told", "size", "c", "factors", "one", "two", "start", "end", "point", "k", "t", "entry", "f", "z"] ["pen", "p", "n"] (defScope s__law_sums_right) := ⟨rfl, rfl, rfl, by decide +kernel, rfl, by decide +kernel, by decide +kernel⟩
abbrev s_law : Stmt := topS 45
theorem sc_law : FnScope ["script", "pen", "lap", "p", "n"] ["script"] (defScope s_law) := ⟨rfl, rfl, rfl, by decide +kernel, rfl, by decide +kernel, by decide +kernel⟩
/-- what the top has laid -/
structure Txt (K : PySem.W.Frag) (mg : Str → Option Value) : Prop where
  z_isinstance : mg "isinstance" = none
  z_int : mg "int" = none
  z_bool : mg "bool" = none
  z_range : mg "range" = none
  z_tuple : mg "tuple" = none
  z_all : mg "all" = none
  z_len : mg "len" = none
  z_sum : mg "sum" = none
  z_zip : mg "zip" = none
  z_list : mg "list" = none
  c_MOST : ∃ u, mg "MOST" = some (.int 999999937 u)
  d_is_whole : At K mg "is_whole" s_is_whole
  d_is_count : At K mg "is_count" s_is_count
  d_is_prime : At K mg "is_prime" s_is_prime
  d_need_prime : At K mg "need_prime" s_need_prime
  d_is_rest_in : At K mg "is_rest_in" s_is_rest_in
  d_need_rests : At K mg "need_rests" s_need_rests
  d_doubled : At K mg "doubled" s_doubled
  d_letters_in : At K mg "letters_in" s_letters_in
  d_are_all_rests : At K mg "are_all_rests" s_are_all_rests
  d_is_table_in : At K mg "is_table_in" s_is_table_in
  d_need_table : At K mg "need_table" s_need_table
  d_need_point : At K mg "need_point" s_need_point
  d_letters_of : At K mg "letters_of" s_letters_of
  d_weight_in : At K mg "weight_in" s_weight_in
  d_corner_weight : At K mg "corner_weight" s_corner_weight
  d_folded_in : At K mg "folded_in" s_folded_in
  d_many_in : At K mg "many_in" s_many_in
  d_worth_many : At K mg "worth_many" s_worth_many
  d_many_sum : At K mg "many_sum" s_many_sum
  d_line_in : At K mg "line_in" s_line_in
  d_line_point : At K mg "line_point" s_line_point
  d_along_in : At K mg "along_in" s_along_in
  d_along_line : At K mg "along_line" s_along_line
  d_noughts_in : At K mg "noughts_in" s_noughts_in
  d_noughts_of : At K mg "noughts_of" s_noughts_of
  d__law_pen : At K mg "_law_pen" s__law_pen
  d__law_draw : At K mg "_law_draw" s__law_draw
  d__law_pick : At K mg "_law_pick" s__law_pick
  d__law_row : At K mg "_law_row" s__law_row
  d__law_raised : At K mg "_law_raised" s__law_raised
  d__law_products_right : At K mg "_law_products_right" s__law_products_right
  d__law_bound_right : At K mg "_law_bound_right" s__law_bound_right
  d__law_sums_right : At K mg "_law_sums_right" s__law_sums_right
  d_law : At K mg "law" s_law
section
variable {P : Program} {w : World} {K : PySem.W.Frag} {mg : Str → Option Value}
theorem bd_is_whole : Bd "is_whole" s_is_whole ["value"] := fun _ _ _ _ _ _ us hl => match us, hl with | [_], _ => rfl
theorem cal_is_whole (T : Txt K mg) : Cal P w K mg 1 "is_whole" ["value"] f_is_whole := by
  refine cal_of (P := P) (w := w) (N := ["value"]) (ps := ["value"]) (k := 0) (m := m_is_whole) (B := ?B) (Sc := ?S) T.d_is_whole sc_is_whole bd_is_whole ?h1 ?h2 ?h3
  case h1 => conv => lhs; whnf
  case h2 => conv => lhs; whnf
  intro base f cdv A outer s H E hr
  exact (jss_one (js_ret (je_and (je_callB call_isi isiT_ok rfl T.z_isinstance (by decide +kernel) (ja_cons (je_var 0) (ja_cons (je_ty rfl T.z_int (by decide +kernel)) (ja_nil)))) (je_one (je_not (je_callB call_isi isiT_ok rfl T.z_isinstance (by decide +kernel) (ja_cons (je_var 0) (ja_cons (je_ty rfl T.z_bool (by decide +kernel)) (ja_nil)))))))))
theorem bd_is_count : Bd "is_count" s_is_count ["value"] := fun _ _ _ _ _ _ us hl => match us, hl with | [_], _ => rfl
theorem cal_is_count (T : Txt K mg) : Cal P w K mg 2 "is_count" ["value"] f_is_count := by
  have C_is_whole : Cal P w K mg 1 "is_whole" ["value"] f_is_whole := (cal_is_whole T).mono (by decide)
  refine cal_of (P := P) (w := w) (N := ["value"]) (ps := ["value"]) (k := 1) (m := m_is_count) (B := ?B) (Sc := ?S) T.d_is_count sc_is_count bd_is_count ?h1 ?h2 ?h3
  case h1 => conv => lhs; whnf
  case h2 => conv => lhs; whnf
  intro base f cdv A outer s H E hr
  exact (jss_one (js_ret (je_and (je_callC C_is_whole hr rfl (ja_cons (je_var 0) (ja_nil))) (je_one (je_cmp op_ge geT_ok (je_var 0) (je_int) (nomark _))))))
theorem bd_is_prime : Bd "is_prime" s_is_prime ["value"] := fun _ _ _ _ _ _ us hl => match us, hl with | [_], _ => rfl
theorem cal_is_prime (T : Txt K mg) : Cal P w K mg 3 "is_prime" ["value"] f_is_prime := by
  have C_is_count : Cal P w K mg 2 "is_count" ["value"] f_is_count := (cal_is_count T).mono (by decide)
  refine cal_of (P := P) (w := w) (N := ["value", "part"]) (ps := ["value"]) (k := 2) (m := m_is_prime) (B := ?B) (Sc := ?S) T.d_is_prime sc_is_prime bd_is_prime ?h1 ?h2 ?h3
  case h1 => conv => lhs; whnf
  case h2 => conv => lhs; whnf
  intro base f cdv A outer s H E hr
  exact (jss_cons (js_if (jw_jt (jw_or (jt_not (jt_truth (je_callC C_is_count hr rfl (ja_cons (je_var 0) (ja_nil))))) (jw_or (jt_not (jt_chain op_le op_le leT_ok leT_ok (je_int) (je_var 0) (je_globIx rfl T.c_MOST))) (jw_or (jt_cmp (op_eqD hr.units) eqT_ok (je_op op_mod modT_ok (je_var 0) (je_int)) (je_int) (nomark _)) (jw_or1 (jt_cmp (op_eqD hr.units) eqT_ok (je_op op_mod modT_ok (je_var 0) (je_int)) (je_int) (nomark _))))))) (jss_one (js_ret (je_bl))) (jss_nil)) (jss_cons (js_set (i := 1) sc_is_prime.nd rfl (by first | exact Or.inl rfl | exact Or.inr rfl) (je_int)) (jss_cons (js_while (n := fuel) (passes_of rfl) (jt_cmp op_le leT_ok (je_op op_mulA mulT_ok (je_var 1) (je_var 1)) (je_var 0) (nomark _)) (jss_cons (js_if (jw_jt (jw_or (jt_cmp (op_eqD hr.units) eqT_ok (je_op op_mod modT_ok (je_var 0) (je_var 1)) (je_int) (nomark _)) (jw_or1 (jt_cmp (op_eqD hr.units) eqT_ok (je_op op_mod modT_ok (je_var 0) (je_op op_addA addT_ok (je_var 1) (je_int))) (je_int) (nomark _))))) (jss_one (js_ret (je_bl))) (jss_nil)) (jss_one (js_aug (i := 1) sc_is_prime.nd rfl (by first | exact Or.inl rfl | exact Or.inr rfl) (je_int) iop_add addI_ok)))) (jss_one (js_ret (je_bl))))))
theorem bd_need_prime : Bd "need_prime" s_need_prime ["p"] := fun _ _ _ _ _ _ us hl => match us, hl with | [_], _ => rfl
theorem cal_need_prime (T : Txt K mg) : Cal P w K mg 4 "need_prime" ["p"] f_need_prime := by
  have C_is_prime : Cal P w K mg 3 "is_prime" ["value"] f_is_prime := (cal_is_prime T).mono (by decide)
  refine cal_of (P := P) (w := w) (N := ["p"]) (ps := ["p"]) (k := 3) (m := m_need_prime) (B := ?B) (Sc := ?S) T.d_need_prime sc_need_prime bd_need_prime ?h1 ?h2 ?h3
  case h1 => conv => lhs; whnf
  case h2 => conv => lhs; whnf
  intro base f cdv A outer s H E hr
  exact (jss_one (js_if (jt_not (jt_truth (je_callC C_is_prime hr rfl (ja_cons (je_var 0) (ja_nil))))) (jss_one (js_never)) (jss_nil)))
theorem bd_is_rest_in : Bd "is_rest_in" s_is_rest_in ["p", "value"] := fun _ _ _ _ _ _ us hl => match us, hl with | [_, _], _ => rfl
theorem cal_is_rest_in (T : Txt K mg) : Cal P w K mg 3 "is_rest_in" ["p", "value"] f_is_rest_in := by
  have C_is_count : Cal P w K mg 2 "is_count" ["value"] f_is_count := (cal_is_count T).mono (by decide)
  refine cal_of (P := P) (w := w) (N := ["p", "value"]) (ps := ["p", "value"]) (k := 2) (m := m_is_rest_in) (B := ?B) (Sc := ?S) T.d_is_rest_in sc_is_rest_in bd_is_rest_in ?h1 ?h2 ?h3
  case h1 => conv => lhs; whnf
  case h2 => conv => lhs; whnf
  intro base f cdv A outer s H E hr
  exact (jss_one (js_ret (je_and (je_callC C_is_count hr rfl (ja_cons (je_var 1) (ja_nil))) (je_one (je_cmp op_lt ltT_ok (je_var 1) (je_var 0) (nomark _))))))
theorem bd_need_rests : Bd "need_rests" s_need_rests ["p", "row"] := fun _ _ _ _ _ _ us hl => match us, hl with | [_, _], _ => rfl
theorem cal_need_rests (T : Txt K mg) : Cal P w K mg 4 "need_rests" ["p", "row"] f_need_rests := by
  have C_is_rest_in : Cal P w K mg 3 "is_rest_in" ["p", "value"] f_is_rest_in := (cal_is_rest_in T).mono (by decide)
  refine cal_of (P := P) (w := w) (N := ["p", "row", "value"]) (ps := ["p", "row"]) (k := 3) (m := m_need_rests) (B := ?B) (Sc := ?S) T.d_need_rests sc_need_rests bd_need_rests ?h1 ?h2 ?h3
  case h1 => conv => lhs; whnf
  case h2 => conv => lhs; whnf
  intro base f cdv A outer s H E hr
  exact (jss_one (js_for (passes_of rfl) rfl (ji_seq (je_var 1)) (jg_name (i := 2) sc_need_rests.nd rfl (by first | exact Or.inl rfl | exact Or.inr rfl)) (jss_one (js_if (jt_not (jt_truth (je_callC C_is_rest_in hr rfl (ja_cons (je_var 0) (ja_cons (je_var 2) (ja_nil)))))) (jss_one (js_never)) (jss_nil)))))
theorem bd_doubled : Bd "doubled" s_doubled ["many"] := fun _ _ _ _ _ _ us hl => match us, hl with | [_], _ => rfl
theorem cal_doubled (T : Txt K mg) : Cal P w K mg 1 "doubled" ["many"] f_doubled := by
  refine cal_of (P := P) (w := w) (N := ["many", "found", "lap"]) (ps := ["many"]) (k := 0) (m := m_doubled) (B := ?B) (Sc := ?S) T.d_doubled sc_doubled bd_doubled ?h1 ?h2 ?h3
  case h1 => conv => lhs; whnf
  case h2 => conv => lhs; whnf
  intro base f cdv A outer s H E hr
  exact (jss_cons (js_set (i := 1) sc_doubled.nd rfl (by first | exact Or.inl rfl | exact Or.inr rfl) (je_int)) (jss_cons (js_for (passes_of rfl) rfl (ji_range1 rfl T.z_range (ja_cons (je_var 0) (ja_nil))) (jg_name (i := 2) sc_doubled.nd rfl (by first | exact Or.inl rfl | exact Or.inr rfl)) (jss_one (js_aug (i := 1) sc_doubled.nd rfl (by first | exact Or.inl rfl | exact Or.inr rfl) (je_int) iop_mul mulI_ok))) (jss_one (js_ret (je_var 1)))))
theorem bd_letters_in : Bd "letters_in" s_letters_in ["n"] := fun _ _ _ _ _ _ us hl => match us, hl with | [_], _ => rfl
theorem cal_letters_in (T : Txt K mg) : Cal P w K mg 1 "letters_in" ["n"] f_letters_in := by
  refine cal_of (P := P) (w := w) (N := ["n", "found", "corners"]) (ps := ["n"]) (k := 0) (m := m_letters_in) (B := ?B) (Sc := ?S) T.d_letters_in sc_letters_in bd_letters_in ?h1 ?h2 ?h3
  case h1 => conv => lhs; whnf
  case h2 => conv => lhs; whnf
  intro base f cdv A outer s H E hr
  exact (jss_cons (js_asg (je_tup (ja_cons (je_int) (ja_cons (je_int) (ja_nil)))) (jg_tup rfl (jgs_cons (jg_name (i := 1) sc_letters_in.nd rfl (by first | exact Or.inl rfl | exact Or.inr rfl)) (jgs_cons (jg_name (i := 2) sc_letters_in.nd rfl (by first | exact Or.inl rfl | exact Or.inr rfl)) (jgs_nil))))) (jss_cons (js_while (n := fuel) (passes_of rfl) (jt_cmp op_lt ltT_ok (je_var 2) (je_var 0) (nomark _)) (jss_one (js_par2X (i := 1) (j := 2) rfl sc_letters_in.nd rfl rfl (by decide) rfl rfl (jx_val (je_op op_addA addT_ok (je_var 1) (je_int)) (jx_val (je_op op_mulA mulT_ok (je_int) (je_var 2)) (jx_nil))) (by rfl)))) (jss_one (js_ret (je_var 1)))))
theorem bd_are_all_rests : Bd "are_all_rests" s_are_all_rests ["p", "value"] := fun _ _ _ _ _ _ us hl => match us, hl with | [_, _], _ => rfl
theorem cal_are_all_rests (T : Txt K mg) : Cal P w K mg 4 "are_all_rests" ["p", "value"] f_are_all_rests := by
  have C_is_rest_in : Cal P w K mg 3 "is_rest_in" ["p", "value"] f_is_rest_in := (cal_is_rest_in T).mono (by decide)
  refine cal_of (P := P) (w := w) (N := ["p", "value", "item"]) (ps := ["p", "value"]) (k := 3) (m := m_are_all_rests) (B := ?B) (Sc := ?S) T.d_are_all_rests sc_are_all_rests bd_are_all_rests ?h1 ?h2 ?h3
  case h1 => conv => lhs; whnf
  case h2 => conv => lhs; whnf
  intro base f cdv A outer s H E hr
  exact (jss_one (js_ret (je_and (je_callB call_isi isiT_ok rfl T.z_isinstance (by decide +kernel) (ja_cons (je_var 1) (ja_cons (je_ty rfl T.z_tuple (by decide +kernel)) (ja_nil)))) (je_one (je_callB (cr_all rfl) allT_ok rfl T.z_all (by decide +kernel) (ja_cons (je_jf (jf_comp (own := [(("item" : Str), 2)]) rfl sc_are_all_rests.nd (ji_seq (je_var 1)) (blkOk_by (N := ["p", "value", "item"]) (sc := defScope s_are_all_rests) (by decide +kernel)) (by decide) (fun _ _ _ _ _ => jg_name (i := 2) sc_are_all_rests.nd rfl (by first | exact Or.inl rfl | exact Or.inr rfl)) (fun _ _ _ _ _ => jts_nil) (fun _ _ _ _ _ => je_callC C_is_rest_in hr rfl (ja_cons (je_var 0) (ja_cons (je_var 2) (ja_nil)))))) (ja_nil)))))))
theorem bd_is_table_in : Bd "is_table_in" s_is_table_in ["p", "value"] := fun _ _ _ _ _ _ us hl => match us, hl with | [_, _], _ => rfl
theorem cal_is_table_in (T : Txt K mg) : Cal P w K mg 5 "is_table_in" ["p", "value"] f_is_table_in := by
  have C_are_all_rests : Cal P w K mg 4 "are_all_rests" ["p", "value"] f_are_all_rests := (cal_are_all_rests T).mono (by decide)
  have C_letters_in : Cal P w K mg 4 "letters_in" ["n"] f_letters_in := (cal_letters_in T).mono (by decide)
  have C_doubled : Cal P w K mg 4 "doubled" ["many"] f_doubled := (cal_doubled T).mono (by decide)
  refine cal_of (P := P) (w := w) (N := ["p", "value"]) (ps := ["p", "value"]) (k := 4) (m := m_is_table_in) (B := ?B) (Sc := ?S) T.d_is_table_in sc_is_table_in bd_is_table_in ?h1 ?h2 ?h3
  case h1 => conv => lhs; whnf
  case h2 => conv => lhs; whnf
  intro base f cdv A outer s H E hr
  exact (jss_one (js_ret (je_and (je_callC C_are_all_rests hr rfl (ja_cons (je_var 0) (ja_cons (je_var 1) (ja_nil)))) (je_and (je_cmp op_gt gtT_ok (je_callB call_len lenT_ok rfl T.z_len (by decide +kernel) (ja_cons (je_var 1) (ja_nil))) (je_int) (nomark _)) (je_one (je_cmp (op_eqD hr.units) eqT_ok (je_callC C_doubled hr rfl (ja_cons (je_callC C_letters_in hr rfl (ja_cons (je_callB call_len lenT_ok rfl T.z_len (by decide +kernel) (ja_cons (je_var 1) (ja_nil))) (ja_nil))) (ja_nil))) (je_callB call_len lenT_ok rfl T.z_len (by decide +kernel) (ja_cons (je_var 1) (ja_nil))) (nomark _)))))))
theorem bd_need_table : Bd "need_table" s_need_table ["p", "table"] := fun _ _ _ _ _ _ us hl => match us, hl with | [_, _], _ => rfl
theorem cal_need_table (T : Txt K mg) : Cal P w K mg 6 "need_table" ["p", "table"] f_need_table := by
  have C_need_prime : Cal P w K mg 5 "need_prime" ["p"] f_need_prime := (cal_need_prime T).mono (by decide)
  have C_is_table_in : Cal P w K mg 5 "is_table_in" ["p", "value"] f_is_table_in := (cal_is_table_in T).mono (by decide)
  refine cal_of (P := P) (w := w) (N := ["p", "table"]) (ps := ["p", "table"]) (k := 5) (m := m_need_table) (B := ?B) (Sc := ?S) T.d_need_table sc_need_table bd_need_table ?h1 ?h2 ?h3
  case h1 => conv => lhs; whnf
  case h2 => conv => lhs; whnf
  intro base f cdv A outer s H E hr
  exact (jss_cons (js_expr (je_callC C_need_prime hr rfl (ja_cons (je_var 0) (ja_nil)))) (jss_one (js_if (jt_not (jt_truth (je_callC C_is_table_in hr rfl (ja_cons (je_var 0) (ja_cons (je_var 1) (ja_nil)))))) (jss_one (js_never)) (jss_nil))))
theorem bd_need_point : Bd "need_point" s_need_point ["p", "point", "many"] := fun _ _ _ _ _ _ us hl => match us, hl with | [_, _, _], _ => rfl
theorem cal_need_point (T : Txt K mg) : Cal P w K mg 5 "need_point" ["p", "point", "many"] f_need_point := by
  have C_are_all_rests : Cal P w K mg 4 "are_all_rests" ["p", "value"] f_are_all_rests := (cal_are_all_rests T).mono (by decide)
  refine cal_of (P := P) (w := w) (N := ["p", "point", "many"]) (ps := ["p", "point", "many"]) (k := 4) (m := m_need_point) (B := ?B) (Sc := ?S) T.d_need_point sc_need_point bd_need_point ?h1 ?h2 ?h3
  case h1 => conv => lhs; whnf
  case h2 => conv => lhs; whnf
  intro base f cdv A outer s H E hr
  exact (jss_one (js_if (jw_jt (jw_or (jt_not (jt_truth (je_callC C_are_all_rests hr rfl (ja_cons (je_var 0) (ja_cons (je_var 1) (ja_nil)))))) (jw_or1 (jt_cmp (op_neD hr.units) neT_ok (je_callB call_len lenT_ok rfl T.z_len (by decide +kernel) (ja_cons (je_var 1) (ja_nil))) (je_var 2) (nomark _))))) (jss_one (js_never)) (jss_nil)))
theorem bd_letters_of : Bd "letters_of" s_letters_of ["p", "table"] := fun _ _ _ _ _ _ us hl => match us, hl with | [_, _], _ => rfl
theorem cal_letters_of (T : Txt K mg) : Cal P w K mg 7 "letters_of" ["p", "table"] f_letters_of := by
  have C_need_table : Cal P w K mg 6 "need_table" ["p", "table"] f_need_table := (cal_need_table T).mono (by decide)
  have C_letters_in : Cal P w K mg 6 "letters_in" ["n"] f_letters_in := (cal_letters_in T).mono (by decide)
  refine cal_of (P := P) (w := w) (N := ["p", "table"]) (ps := ["p", "table"]) (k := 6) (m := m_letters_of) (B := ?B) (Sc := ?S) T.d_letters_of sc_letters_of bd_letters_of ?h1 ?h2 ?h3
  case h1 => conv => lhs; whnf
  case h2 => conv => lhs; whnf
  intro base f cdv A outer s H E hr
  exact (jss_cons (js_expr (je_callC C_need_table hr rfl (ja_cons (je_var 0) (ja_cons (je_var 1) (ja_nil))))) (jss_one (js_ret (je_callC C_letters_in hr rfl (ja_cons (je_callB call_len lenT_ok rfl T.z_len (by decide +kernel) (ja_cons (je_var 1) (ja_nil))) (ja_nil))))))
theorem bd_weight_in : Bd "weight_in" s_weight_in ["p", "j", "point"] := fun _ _ _ _ _ _ us hl => match us, hl with | [_, _, _], _ => rfl
theorem cal_weight_in (T : Txt K mg) : Cal P w K mg 1 "weight_in" ["p", "j", "point"] f_weight_in := by
  refine cal_of (P := P) (w := w) (N := ["p", "j", "point", "found", "z"]) (ps := ["p", "j", "point"]) (k := 0) (m := m_weight_in) (B := ?B) (Sc := ?S) T.d_weight_in sc_weight_in bd_weight_in ?h1 ?h2 ?h3
  case h1 => conv => lhs; whnf
  case h2 => conv => lhs; whnf
  intro base f cdv A outer s H E hr
  exact (jss_cons (js_set (i := 3) sc_weight_in.nd rfl (by first | exact Or.inl rfl | exact Or.inr rfl) (je_int)) (jss_cons (js_for (passes_of rfl) rfl (ji_seq (je_var 2)) (jg_name (i := 4) sc_weight_in.nd rfl (by first | exact Or.inl rfl | exact Or.inr rfl)) (jss_cons (js_set (i := 3) sc_weight_in.nd rfl (by first | exact Or.inl rfl | exact Or.inr rfl) (je_op op_mod modT_ok (je_op op_mulA mulT_ok (je_var 3) (je_ifExp (jt_truth (je_op op_mod modT_ok (je_var 1) (je_int))) (je_var 4) (je_op op_sub subT_ok (je_int) (je_var 4)))) (je_var 0))) (jss_one (js_aug (i := 1) sc_weight_in.nd rfl (by first | exact Or.inl rfl | exact Or.inr rfl) (je_int) iop_fdiv fdivI_ok)))) (jss_one (js_ret (je_var 3)))))
theorem bd_corner_weight : Bd "corner_weight" s_corner_weight ["p", "j", "point"] := fun _ _ _ _ _ _ us hl => match us, hl with | [_, _, _], _ => rfl
theorem cal_corner_weight (T : Txt K mg) : Cal P w K mg 5 "corner_weight" ["p", "j", "point"] f_corner_weight := by
  have C_need_prime : Cal P w K mg 4 "need_prime" ["p"] f_need_prime := (cal_need_prime T).mono (by decide)
  have C_are_all_rests : Cal P w K mg 4 "are_all_rests" ["p", "value"] f_are_all_rests := (cal_are_all_rests T).mono (by decide)
  have C_is_count : Cal P w K mg 4 "is_count" ["value"] f_is_count := (cal_is_count T).mono (by decide)
  have C_doubled : Cal P w K mg 4 "doubled" ["many"] f_doubled := (cal_doubled T).mono (by decide)
  have C_weight_in : Cal P w K mg 4 "weight_in" ["p", "j", "point"] f_weight_in := (cal_weight_in T).mono (by decide)
  refine cal_of (P := P) (w := w) (N := ["p", "j", "point"]) (ps := ["p", "j", "point"]) (k := 4) (m := m_corner_weight) (B := ?B) (Sc := ?S) T.d_corner_weight sc_corner_weight bd_corner_weight ?h1 ?h2 ?h3
  case h1 => conv => lhs; whnf
  case h2 => conv => lhs; whnf
  intro base f cdv A outer s H E hr
  exact (jss_cons (js_expr (je_callC C_need_prime hr rfl (ja_cons (je_var 0) (ja_nil)))) (jss_cons (js_if (jt_not (jt_truth (je_callC C_are_all_rests hr rfl (ja_cons (je_var 0) (ja_cons (je_var 2) (ja_nil)))))) (jss_one (js_never)) (jss_nil)) (jss_cons (js_if (jw_jt (jw_or (jt_not (jt_truth (je_callC C_is_count hr rfl (ja_cons (je_var 1) (ja_nil))))) (jw_or1 (jt_cmp op_ge geT_ok (je_var 1) (je_callC C_doubled hr rfl (ja_cons (je_callB call_len lenT_ok rfl T.z_len (by decide +kernel) (ja_cons (je_var 2) (ja_nil))) (ja_nil))) (nomark _))))) (jss_one (js_never)) (jss_nil)) (jss_one (js_ret (je_callC C_weight_in hr rfl (ja_cons (je_var 0) (ja_cons (je_var 1) (ja_cons (je_var 2) (ja_nil))))))))))
theorem bd_folded_in : Bd "folded_in" s_folded_in ["p", "table", "x"] := fun _ _ _ _ _ _ us hl => match us, hl with | [_, _, _], _ => rfl
theorem cal_folded_in (T : Txt K mg) : Cal P w K mg 1 "folded_in" ["p", "table", "x"] f_folded_in := by
  refine cal_of (P := P) (w := w) (N := ["p", "table", "x", "j"]) (ps := ["p", "table", "x"]) (k := 0) (m := m_folded_in) (B := ?B) (Sc := ?S) T.d_folded_in sc_folded_in bd_folded_in ?h1 ?h2 ?h3
  case h1 => conv => lhs; whnf
  case h2 => conv => lhs; whnf
  intro base f cdv A outer s H E hr
  exact (jss_one (js_ret (je_jf (jf_comp (own := [(("j" : Str), 3)]) rfl sc_folded_in.nd (ji_range3 rfl T.z_range (ja_cons (je_int) (ja_cons (je_callB call_len lenT_ok rfl T.z_len (by decide +kernel) (ja_cons (je_var 1) (ja_nil))) (ja_cons (je_int) (ja_nil))))) (blkOk_by (N := ["p", "table", "x", "j"]) (sc := defScope s_folded_in) (by decide +kernel)) (by decide) (fun _ _ _ _ _ => jg_name (i := 3) sc_folded_in.nd rfl (by first | exact Or.inl rfl | exact Or.inr rfl)) (fun _ _ _ _ _ => jts_nil) (fun _ _ _ _ _ => je_op op_mod modT_ok (je_op op_addA addT_ok (je_sub (hu_of hr) (je_var 1) (je_var 3)) (je_op op_mulA mulT_ok (je_var 2) (je_op op_sub subT_ok (je_sub (hu_of hr) (je_var 1) (je_op op_addA addT_ok (je_var 3) (je_int))) (je_sub (hu_of hr) (je_var 1) (je_var 3))))) (je_var 0))))))
theorem bd_many_in : Bd "many_in" s_many_in ["p", "table", "point"] := fun _ _ _ _ _ _ us hl => match us, hl with | [_, _, _], _ => rfl
theorem cal_many_in (T : Txt K mg) : Cal P w K mg 2 "many_in" ["p", "table", "point"] f_many_in := by
  have C_folded_in : Cal P w K mg 1 "folded_in" ["p", "table", "x"] f_folded_in := (cal_folded_in T).mono (by decide)
  refine cal_of (P := P) (w := w) (N := ["p", "table", "point", "z"]) (ps := ["p", "table", "point"]) (k := 1) (m := m_many_in) (B := ?B) (Sc := ?S) T.d_many_in sc_many_in bd_many_in ?h1 ?h2 ?h3
  case h1 => conv => lhs; whnf
  case h2 => conv => lhs; whnf
  intro base f cdv A outer s H E hr
  exact (jss_cons (js_for (passes_of rfl) rfl (ji_seq (je_var 2)) (jg_name (i := 3) sc_many_in.nd rfl (by first | exact Or.inl rfl | exact Or.inr rfl)) (jss_one (js_set (i := 1) sc_many_in.nd rfl (by first | exact Or.inl rfl | exact Or.inr rfl) (je_callC C_folded_in hr rfl (ja_cons (je_var 0) (ja_cons (je_var 1) (ja_cons (je_var 3) (ja_nil)))))))) (jss_one (js_ret (je_sub (hu_of hr) (je_var 1) (je_int)))))
theorem bd_worth_many : Bd "worth_many" s_worth_many ["p", "table", "point"] := fun _ _ _ _ _ _ us hl => match us, hl with | [_, _, _], _ => rfl
theorem cal_worth_many (T : Txt K mg) : Cal P w K mg 7 "worth_many" ["p", "table", "point"] f_worth_many := by
  have C_need_table : Cal P w K mg 6 "need_table" ["p", "table"] f_need_table := (cal_need_table T).mono (by decide)
  have C_letters_in : Cal P w K mg 6 "letters_in" ["n"] f_letters_in := (cal_letters_in T).mono (by decide)
  have C_need_point : Cal P w K mg 6 "need_point" ["p", "point", "many"] f_need_point := (cal_need_point T).mono (by decide)
  have C_many_in : Cal P w K mg 6 "many_in" ["p", "table", "point"] f_many_in := (cal_many_in T).mono (by decide)
  refine cal_of (P := P) (w := w) (N := ["p", "table", "point"]) (ps := ["p", "table", "point"]) (k := 6) (m := m_worth_many) (B := ?B) (Sc := ?S) T.d_worth_many sc_worth_many bd_worth_many ?h1 ?h2 ?h3
  case h1 => conv => lhs; whnf
  case h2 => conv => lhs; whnf
  intro base f cdv A outer s H E hr
  exact (jss_cons (js_expr (je_callC C_need_table hr rfl (ja_cons (je_var 0) (ja_cons (je_var 1) (ja_nil))))) (jss_cons (js_expr (je_callC C_need_point hr rfl (ja_cons (je_var 0) (ja_cons (je_var 2) (ja_cons (je_callC C_letters_in hr rfl (ja_cons (je_callB call_len lenT_ok rfl T.z_len (by decide +kernel) (ja_cons (je_var 1) (ja_nil))) (ja_nil))) (ja_nil)))))) (jss_one (js_ret (je_callC C_many_in hr rfl (ja_cons (je_var 0) (ja_cons (je_var 1) (ja_cons (je_var 2) (ja_nil)))))))))
theorem bd_many_sum : Bd "many_sum" s_many_sum ["p", "table"] := fun _ _ _ _ _ _ us hl => match us, hl with | [_, _], _ => rfl
theorem cal_many_sum (T : Txt K mg) : Cal P w K mg 7 "many_sum" ["p", "table"] f_many_sum := by
  have C_need_table : Cal P w K mg 6 "need_table" ["p", "table"] f_need_table := (cal_need_table T).mono (by decide)
  refine cal_of (P := P) (w := w) (N := ["p", "table"]) (ps := ["p", "table"]) (k := 6) (m := m_many_sum) (B := ?B) (Sc := ?S) T.d_many_sum sc_many_sum bd_many_sum ?h1 ?h2 ?h3
  case h1 => conv => lhs; whnf
  case h2 => conv => lhs; whnf
  intro base f cdv A outer s H E hr
  exact (jss_cons (js_expr (je_callC C_need_table hr rfl (ja_cons (je_var 0) (ja_cons (je_var 1) (ja_nil))))) (jss_one (js_ret (je_op op_mod modT_ok (je_callB (cr_sumA rfl) sumT_ok rfl T.z_sum (by decide +kernel) (ja_cons (je_var 1) (ja_nil))) (je_var 0)))))
theorem bd_line_in : Bd "line_in" s_line_in ["p", "one", "two", "t"] := fun _ _ _ _ _ _ us hl => match us, hl with | [_, _, _, _], _ => rfl
theorem cal_line_in (T : Txt K mg) : Cal P w K mg 1 "line_in" ["p", "one", "two", "t"] f_line_in := by
  refine cal_of (P := P) (w := w) (N := ["p", "one", "two", "t", "a", "b"]) (ps := ["p", "one", "two", "t"]) (k := 0) (m := m_line_in) (B := ?B) (Sc := ?S) T.d_line_in sc_line_in bd_line_in ?h1 ?h2 ?h3
  case h1 => conv => lhs; whnf
  case h2 => conv => lhs; whnf
  intro base f cdv A outer s H E hr
  exact (jss_one (js_ret (je_callTy call_tuple_of tupleT_ok rfl T.z_tuple (by decide +kernel) (ja_cons (je_jf (jf_comp (own := [(("a" : Str), 4), (("b" : Str), 5)]) rfl sc_line_in.nd (ji_zip rfl T.z_zip (ja_cons (je_var 1) (ja_cons (je_var 2) (ja_nil)))) (blkOk_by (N := ["p", "one", "two", "t", "a", "b"]) (sc := defScope s_line_in) (by decide +kernel)) (by decide) (fun _ _ _ _ _ => jg_tup rfl (jgs_cons (jg_name (i := 4) sc_line_in.nd rfl (by first | exact Or.inl rfl | exact Or.inr rfl)) (jgs_cons (jg_name (i := 5) sc_line_in.nd rfl (by first | exact Or.inl rfl | exact Or.inr rfl)) (jgs_nil)))) (fun _ _ _ _ _ => jts_nil) (fun _ _ _ _ _ => je_op op_mod modT_ok (je_op op_addA addT_ok (je_var 4) (je_op op_mulA mulT_ok (je_var 3) (je_op op_sub subT_ok (je_var 5) (je_var 4)))) (je_var 0)))) (ja_nil)))))
theorem bd_line_point : Bd "line_point" s_line_point ["p", "one", "two", "t"] := fun _ _ _ _ _ _ us hl => match us, hl with | [_, _, _, _], _ => rfl
theorem cal_line_point (T : Txt K mg) : Cal P w K mg 5 "line_point" ["p", "one", "two", "t"] f_line_point := by
  have C_need_prime : Cal P w K mg 4 "need_prime" ["p"] f_need_prime := (cal_need_prime T).mono (by decide)
  have C_are_all_rests : Cal P w K mg 4 "are_all_rests" ["p", "value"] f_are_all_rests := (cal_are_all_rests T).mono (by decide)
  have C_need_rests : Cal P w K mg 4 "need_rests" ["p", "row"] f_need_rests := (cal_need_rests T).mono (by decide)
  have C_line_in : Cal P w K mg 4 "line_in" ["p", "one", "two", "t"] f_line_in := (cal_line_in T).mono (by decide)
  refine cal_of (P := P) (w := w) (N := ["p", "one", "two", "t", "point"]) (ps := ["p", "one", "two", "t"]) (k := 4) (m := m_line_point) (B := ?B) (Sc := ?S) T.d_line_point sc_line_point bd_line_point ?h1 ?h2 ?h3
  case h1 => conv => lhs; whnf
  case h2 => conv => lhs; whnf
  intro base f cdv A outer s H E hr
  exact (jss_cons (js_expr (je_callC C_need_prime hr rfl (ja_cons (je_var 0) (ja_nil)))) (jss_cons (js_for (passes_of rfl) rfl (ji_seq (je_tup (ja_cons (je_var 1) (ja_cons (je_var 2) (ja_nil))))) (jg_name (i := 4) sc_line_point.nd rfl (by first | exact Or.inl rfl | exact Or.inr rfl)) (jss_one (js_if (jt_not (jt_truth (je_callC C_are_all_rests hr rfl (ja_cons (je_var 0) (ja_cons (je_var 4) (ja_nil)))))) (jss_one (js_never)) (jss_nil)))) (jss_cons (js_expr (je_callC C_need_rests hr rfl (ja_cons (je_var 0) (ja_cons (je_tup (ja_cons (je_var 3) (ja_nil))) (ja_nil))))) (jss_cons (js_if (jt_cmp (op_neD hr.units) neT_ok (je_callB call_len lenT_ok rfl T.z_len (by decide +kernel) (ja_cons (je_var 1) (ja_nil))) (je_callB call_len lenT_ok rfl T.z_len (by decide +kernel) (ja_cons (je_var 2) (ja_nil))) (nomark _)) (jss_one (js_never)) (jss_nil)) (jss_one (js_ret (je_callC C_line_in hr rfl (ja_cons (je_var 0) (ja_cons (je_var 1) (ja_cons (je_var 2) (ja_cons (je_var 3) (ja_nil))))))))))))
theorem bd_along_in : Bd "along_in" s_along_in ["p", "table", "one", "two"] := fun _ _ _ _ _ _ us hl => match us, hl with | [_, _, _, _], _ => rfl
theorem cal_along_in (T : Txt K mg) : Cal P w K mg 3 "along_in" ["p", "table", "one", "two"] f_along_in := by
  have C_line_in : Cal P w K mg 2 "line_in" ["p", "one", "two", "t"] f_line_in := (cal_line_in T).mono (by decide)
  have C_many_in : Cal P w K mg 2 "many_in" ["p", "table", "point"] f_many_in := (cal_many_in T).mono (by decide)
  refine cal_of (P := P) (w := w) (N := ["p", "table", "one", "two", "t"]) (ps := ["p", "table", "one", "two"]) (k := 2) (m := m_along_in) (B := ?B) (Sc := ?S) T.d_along_in sc_along_in bd_along_in ?h1 ?h2 ?h3
  case h1 => conv => lhs; whnf
  case h2 => conv => lhs; whnf
  intro base f cdv A outer s H E hr
  exact (jss_one (js_ret (je_callTy call_tuple_of tupleT_ok rfl T.z_tuple (by decide +kernel) (ja_cons (je_jf (jf_comp (own := [(("t" : Str), 4)]) rfl sc_along_in.nd (ji_range1 rfl T.z_range (ja_cons (je_op op_addA addT_ok (je_callB call_len lenT_ok rfl T.z_len (by decide +kernel) (ja_cons (je_var 2) (ja_nil))) (je_int)) (ja_nil))) (blkOk_by (N := ["p", "table", "one", "two", "t"]) (sc := defScope s_along_in) (by decide +kernel)) (by decide) (fun _ _ _ _ _ => jg_name (i := 4) sc_along_in.nd rfl (by first | exact Or.inl rfl | exact Or.inr rfl)) (fun _ _ _ _ _ => jts_nil) (fun _ _ _ _ _ => je_callC C_many_in hr rfl (ja_cons (je_var 0) (ja_cons (je_var 1) (ja_cons (je_callC C_line_in hr rfl (ja_cons (je_var 0) (ja_cons (je_var 2) (ja_cons (je_var 3) (ja_cons (je_var 4) (ja_nil)))))) (ja_nil))))))) (ja_nil)))))
theorem bd_along_line : Bd "along_line" s_along_line ["p", "table", "one", "two"] := fun _ _ _ _ _ _ us hl => match us, hl with | [_, _, _, _], _ => rfl
theorem cal_along_line (T : Txt K mg) : Cal P w K mg 7 "along_line" ["p", "table", "one", "two"] f_along_line := by
  have C_need_table : Cal P w K mg 6 "need_table" ["p", "table"] f_need_table := (cal_need_table T).mono (by decide)
  have C_letters_in : Cal P w K mg 6 "letters_in" ["n"] f_letters_in := (cal_letters_in T).mono (by decide)
  have C_need_point : Cal P w K mg 6 "need_point" ["p", "point", "many"] f_need_point := (cal_need_point T).mono (by decide)
  have C_along_in : Cal P w K mg 6 "along_in" ["p", "table", "one", "two"] f_along_in := (cal_along_in T).mono (by decide)
  refine cal_of (P := P) (w := w) (N := ["p", "table", "one", "two", "many"]) (ps := ["p", "table", "one", "two"]) (k := 6) (m := m_along_line) (B := ?B) (Sc := ?S) T.d_along_line sc_along_line bd_along_line ?h1 ?h2 ?h3
  case h1 => conv => lhs; whnf
  case h2 => conv => lhs; whnf
  intro base f cdv A outer s H E hr
  exact (jss_cons (js_expr (je_callC C_need_table hr rfl (ja_cons (je_var 0) (ja_cons (je_var 1) (ja_nil))))) (jss_cons (js_set (i := 4) sc_along_line.nd rfl (by first | exact Or.inl rfl | exact Or.inr rfl) (je_callC C_letters_in hr rfl (ja_cons (je_callB call_len lenT_ok rfl T.z_len (by decide +kernel) (ja_cons (je_var 1) (ja_nil))) (ja_nil)))) (jss_cons (js_expr (je_callC C_need_point hr rfl (ja_cons (je_var 0) (ja_cons (je_var 2) (ja_cons (je_var 4) (ja_nil)))))) (jss_cons (js_expr (je_callC C_need_point hr rfl (ja_cons (je_var 0) (ja_cons (je_var 3) (ja_cons (je_var 4) (ja_nil)))))) (jss_cons (js_if (jt_cmp op_ge geT_ok (je_var 4) (je_var 0) (nomark _)) (jss_one (js_never)) (jss_nil)) (jss_one (js_ret (je_callC C_along_in hr rfl (ja_cons (je_var 0) (ja_cons (je_var 1) (ja_cons (je_var 2) (ja_cons (je_var 3) (ja_nil)))))))))))))
theorem bd_noughts_in : Bd "noughts_in" s_noughts_in ["p", "table"] := fun _ _ _ _ _ _ us hl => match us, hl with | [_, _], _ => rfl
theorem rec_noughts_in (T : Txt K mg) : ∀ n : Nat, Cal P w K mg (1 + n) "noughts_in" ["p", "table"] (r_noughts_in n)
  | 0 => cal_stuck T.d_noughts_in bd_noughts_in
  | n + 1 => by
    have C_folded_in : Cal P w K mg (1 + n) "folded_in" ["p", "table", "x"] f_folded_in := (cal_folded_in T).mono (by omega)
    have C_rec := rec_noughts_in T n
    refine cal_of (P := P) (w := w) (N := ["p", "table", "x"]) (ps := ["p", "table"]) (k := 1 + n) (m := m_noughts_in (r_noughts_in n)) (B := ?B) (Sc := ?S) T.d_noughts_in sc_noughts_in bd_noughts_in ?h1 ?h2 ?h3
    case h1 => conv => lhs; whnf
    case h2 => conv => lhs; whnf
    intro base f cdv A outer s H E hr
    exact (jss_cons (js_if (jt_cmp (op_eqD hr.units) eqT_ok (je_callB call_len lenT_ok rfl T.z_len (by decide +kernel) (ja_cons (je_var 1) (ja_nil))) (je_int) (nomark _)) (jss_one (js_ret (je_ifExp (jt_cmp (op_eqD hr.units) eqT_ok (je_sub (hu_of hr) (je_var 1) (je_int)) (je_int) (nomark _)) (je_int) (je_int)))) (jss_nil)) (jss_one (js_ret (je_callB (cr_sumA rfl) sumT_ok rfl T.z_sum (by decide +kernel) (ja_cons (je_jf (jf_comp (own := [(("x" : Str), 2)]) rfl sc_noughts_in.nd (ji_range1 rfl T.z_range (ja_cons (je_var 0) (ja_nil))) (blkOk_by (N := ["p", "table", "x"]) (sc := defScope s_noughts_in) (by decide +kernel)) (by decide) (fun _ _ _ _ _ => jg_name (i := 2) sc_noughts_in.nd rfl (by first | exact Or.inl rfl | exact Or.inr rfl)) (fun _ _ _ _ _ => jts_nil) (fun _ _ _ _ _ => je_callC (C_rec.mono (by omega)) hr rfl (ja_cons (je_var 0) (ja_cons (je_callC C_folded_in hr rfl (ja_cons (je_var 0) (ja_cons (je_var 1) (ja_cons (je_var 2) (ja_nil))))) (ja_nil)))))) (ja_nil))))))
theorem cal_noughts_in (T : Txt K mg) : Cal P w K mg 21 "noughts_in" ["p", "table"] f_noughts_in := rec_noughts_in T 20
theorem bd_noughts_of : Bd "noughts_of" s_noughts_of ["p", "table"] := fun _ _ _ _ _ _ us hl => match us, hl with | [_, _], _ => rfl
theorem cal_noughts_of (T : Txt K mg) : Cal P w K mg 22 "noughts_of" ["p", "table"] f_noughts_of := by
  have C_need_table : Cal P w K mg 21 "need_table" ["p", "table"] f_need_table := (cal_need_table T).mono (by decide)
  have C_noughts_in : Cal P w K mg 21 "noughts_in" ["p", "table"] f_noughts_in := (cal_noughts_in T).mono (by decide)
  refine cal_of (P := P) (w := w) (N := ["p", "table"]) (ps := ["p", "table"]) (k := 21) (m := m_noughts_of) (B := ?B) (Sc := ?S) T.d_noughts_of sc_noughts_of bd_noughts_of ?h1 ?h2 ?h3
  case h1 => conv => lhs; whnf
  case h2 => conv => lhs; whnf
  intro base f cdv A outer s H E hr
  exact (jss_cons (js_expr (je_callC C_need_table hr rfl (ja_cons (je_var 0) (ja_cons (je_var 1) (ja_nil))))) (jss_one (js_ret (je_callC C_noughts_in hr rfl (ja_cons (je_var 0) (ja_cons (je_var 1) (ja_nil)))))))
theorem bd__law_pen : Bd "_law_pen" s__law_pen ["script"] := fun _ _ _ _ _ _ us hl => match us, hl with | [_], _ => rfl
theorem cal__law_pen (T : Txt K mg) : Cal P w K mg 1 "_law_pen" ["script"] f__law_pen := by
  refine cal_of (P := P) (w := w) (N := ["script", "fold", "cell"]) (ps := ["script"]) (k := 0) (m := m__law_pen) (B := ?B) (Sc := ?S) T.d__law_pen sc__law_pen bd__law_pen ?h1 ?h2 ?h3
  case h1 => conv => lhs; whnf
  case h2 => conv => lhs; whnf
  intro base f cdv A outer s H E hr
  exact (jss_cons (js_set (i := 1) sc__law_pen.nd rfl (by first | exact Or.inl rfl | exact Or.inr rfl) (je_int)) (jss_cons (js_for (passes_of rfl) rfl (ji_seq (je_var 0)) (jg_name (i := 2) sc__law_pen.nd rfl (by first | exact Or.inl rfl | exact Or.inr rfl)) (jss_one (js_set (i := 1) sc__law_pen.nd rfl (by first | exact Or.inl rfl | exact Or.inr rfl) (je_op op_mod modT_ok (je_callTy call_int1 int1T_ok rfl T.z_int (by decide +kernel) (ja_cons (je_op op_addA addT_ok (je_op op_mulA mulT_ok (je_var 1) (je_int)) (je_var 2)) (ja_nil))) (je_int))))) (jss_one (js_ret (je_dict (jps_cons (je_callTy call_list_of listT_ok rfl T.z_list (by decide +kernel) (ja_cons (je_var 0) (ja_nil))) (jps_cons (je_int) (jps_cons (je_int) (jps_cons (je_int) (jps_cons (je_var 1) (jps_nil)))))))))))
theorem bd__law_draw : Bd "_law_draw" s__law_draw ["pen", "many"] := fun _ _ _ _ _ _ us hl => match us, hl with | [_, _], _ => rfl
theorem cal__law_draw (T : Txt K mg) : Cal P w K mg 1 "_law_draw" ["pen", "many"] f__law_draw := by
  refine cal_of (P := P) (w := w) (N := ["pen", "many", "blend", "cell", "digit"]) (ps := ["pen", "many"]) (k := 0) (m := m__law_draw) (B := ?B) (Sc := ?S) T.d__law_draw sc__law_draw bd__law_draw ?h1 ?h2 ?h3
  case h1 => conv => lhs; whnf
  case h2 => conv => lhs; whnf
  intro base f cdv A outer s H E hr
  exact (jss_cons (js_put (hu_of hr) (je_var 0) (je_str) (je_op op_addA addT_ok (je_sub (hu_of hr) (je_var 0) (je_str)) (je_int))) (jss_cons (js_if (jw_jt (jw_and (jt_cmp (op_eqD hr.units) eqT_ok (je_sub (hu_of hr) (je_var 0) (je_str)) (je_int) (nomark _)) (jw_and1 (jt_cmp op_lt ltT_ok (je_sub (hu_of hr) (je_var 0) (je_str)) (je_callB call_len lenT_ok rfl T.z_len (by decide +kernel) (ja_cons (je_sub (hu_of hr) (je_var 0) (je_str)) (ja_nil))) (nomark _))))) (jss_cons (js_set (i := 3) sc__law_draw.nd rfl (by first | exact Or.inl rfl | exact Or.inr rfl) (je_sub (hu_of hr) (je_sub (hu_of hr) (je_var 0) (je_str)) (je_sub (hu_of hr) (je_var 0) (je_str)))) (jss_cons (js_put (hu_of hr) (je_var 0) (je_str) (je_op op_addA addT_ok (je_sub (hu_of hr) (je_var 0) (je_str)) (je_int))) (jss_one (js_if (jt_cmp op_ge geT_ok (je_var 3) (je_op op_pow powT_ok (je_int) (je_int)) (nomark _)) (jss_one (js_put (hu_of hr) (je_var 0) (je_str) (je_op op_sub subT_ok (je_var 3) (je_op op_pow powT_ok (je_int) (je_int))))) (jss_one (js_put (hu_of hr) (je_var 0) (je_str) (je_op op_mod modT_ok (je_callTy call_int1 int1T_ok rfl T.z_int (by decide +kernel) (ja_cons (je_op op_addA addT_ok (je_op op_mulA mulT_ok (je_sub (hu_of hr) (je_var 0) (je_str)) (je_int)) (je_var 3)) (ja_nil))) (je_int)))))))) (jss_nil)) (jss_cons (js_if (jt_cmp op_gt gtT_ok (je_sub (hu_of hr) (je_var 0) (je_str)) (je_int) (nomark _)) (jss_cons (js_set (i := 4) sc__law_draw.nd rfl (by first | exact Or.inl rfl | exact Or.inr rfl) (je_op op_mod modT_ok (je_callTy call_int1 int1T_ok rfl T.z_int (by decide +kernel) (ja_cons (je_sub (hu_of hr) (je_var 0) (je_str)) (ja_nil))) (je_var 1))) (jss_cons (js_put (hu_of hr) (je_var 0) (je_str) (je_op op_fdivW fdivT_ok (je_sub (hu_of hr) (je_var 0) (je_str)) (je_var 1))) (jss_one (js_ret (je_var 4))))) (jss_nil)) (jss_cons (js_set (i := 2) sc__law_draw.nd rfl (by first | exact Or.inl rfl | exact Or.inr rfl) (je_op op_addA addT_ok (je_op op_addA addT_ok (je_sub (hu_of hr) (je_var 0) (je_str)) (je_op op_mulA mulT_ok (je_sub (hu_of hr) (je_var 0) (je_str)) (je_int))) (je_int))) (jss_one (js_ret (je_op op_mod modT_ok (je_op op_fdivW fdivT_ok (je_callTy call_int1 int1T_ok rfl T.z_int (by decide +kernel) (ja_cons (je_op op_mod modT_ok (je_op op_pow powT_ok (je_var 2) (je_int)) (je_int)) (ja_nil))) (je_int)) (je_var 1))))))))
theorem bd__law_pick : Bd "_law_pick" s__law_pick ["pen", "some"] := fun _ _ _ _ _ _ us hl => match us, hl with | [_, _], _ => rfl
theorem cal__law_pick (T : Txt K mg) : Cal P w K mg 2 "_law_pick" ["pen", "some"] f__law_pick := by
  have C__law_draw : Cal P w K mg 1 "_law_draw" ["pen", "many"] f__law_draw := (cal__law_draw T).mono (by decide)
  refine cal_of (P := P) (w := w) (N := ["pen", "some"]) (ps := ["pen", "some"]) (k := 1) (m := m__law_pick) (B := ?B) (Sc := ?S) T.d__law_pick sc__law_pick bd__law_pick ?h1 ?h2 ?h3
  case h1 => conv => lhs; whnf
  case h2 => conv => lhs; whnf
  intro base f cdv A outer s H E hr
  exact (jss_one (js_ret (je_sub (hu_of hr) (je_var 1) (je_callC C__law_draw hr rfl (ja_cons (je_var 0) (ja_cons (je_callB call_len lenT_ok rfl T.z_len (by decide +kernel) (ja_cons (je_var 1) (ja_nil))) (ja_nil)))))))
theorem bd__law_row : Bd "_law_row" s__law_row ["pen", "p", "many"] := fun _ _ _ _ _ _ us hl => match us, hl with | [_, _, _], _ => rfl
theorem cal__law_row (T : Txt K mg) : Cal P w K mg 3 "_law_row" ["pen", "p", "many"] f__law_row := by
  have C__law_draw : Cal P w K mg 2 "_law_draw" ["pen", "many"] f__law_draw := (cal__law_draw T).mono (by decide)
  have C__law_pick : Cal P w K mg 2 "_law_pick" ["pen", "some"] f__law_pick := (cal__law_pick T).mono (by decide)
  refine cal_of (P := P) (w := w) (N := ["pen", "p", "many", "k"]) (ps := ["pen", "p", "many"]) (k := 2) (m := m__law_row) (B := ?B) (Sc := ?S) T.d__law_row sc__law_row bd__law_row ?h1 ?h2 ?h3
  case h1 => conv => lhs; whnf
  case h2 => conv => lhs; whnf
  intro base f cdv A outer s H E hr
  exact (jss_one (js_ret (je_callTy call_tuple_of tupleT_ok rfl T.z_tuple (by decide +kernel) (ja_cons (je_jf (jf_comp (own := [(("k" : Str), 3)]) rfl sc__law_row.nd (ji_range1 rfl T.z_range (ja_cons (je_var 2) (ja_nil))) (blkOk_by (N := ["pen", "p", "many", "k"]) (sc := defScope s__law_row) (by decide +kernel)) (by decide) (fun _ _ _ _ _ => jg_name (i := 3) sc__law_row.nd rfl (by first | exact Or.inl rfl | exact Or.inr rfl)) (fun _ _ _ _ _ => jts_nil) (fun _ _ _ _ _ => je_callC C__law_pick hr rfl (ja_cons (je_var 0) (ja_cons (je_lst (ja_cons (je_int) (ja_cons (je_int) (ja_cons (je_op op_sub subT_ok (je_var 1) (je_int)) (ja_cons (je_callC C__law_draw hr rfl (ja_cons (je_var 0) (ja_cons (je_var 1) (ja_nil)))) (ja_nil)))))) (ja_nil)))))) (ja_nil)))))
theorem bd__law_raised : Bd "_law_raised" s__law_raised ["a", "n"] := fun _ _ _ _ _ _ us hl => match us, hl with | [_, _], _ => rfl
theorem cal__law_raised (T : Txt K mg) : Cal P w K mg 1 "_law_raised" ["a", "n"] f__law_raised := by
  refine cal_of (P := P) (w := w) (N := ["a", "n", "found", "lap"]) (ps := ["a", "n"]) (k := 0) (m := m__law_raised) (B := ?B) (Sc := ?S) T.d__law_raised sc__law_raised bd__law_raised ?h1 ?h2 ?h3
  case h1 => conv => lhs; whnf
  case h2 => conv => lhs; whnf
  intro base f cdv A outer s H E hr
  exact (jss_cons (js_set (i := 2) sc__law_raised.nd rfl (by first | exact Or.inl rfl | exact Or.inr rfl) (je_int)) (jss_cons (js_for (passes_of rfl) rfl (ji_range1 rfl T.z_range (ja_cons (je_var 1) (ja_nil))) (jg_name (i := 3) sc__law_raised.nd rfl (by first | exact Or.inl rfl | exact Or.inr rfl)) (jss_one (js_set (i := 2) sc__law_raised.nd rfl (by first | exact Or.inl rfl | exact Or.inr rfl) (je_op op_mulA mulT_ok (je_var 2) (je_var 0))))) (jss_one (js_ret (je_var 2)))))
theorem bd__law_products_right : Bd "_law_products_right" s__law_products_right ["pen", "p", "n"] := fun _ _ _ _ _ _ us hl => match us, hl with | [_, _, _], _ => rfl
theorem cal__law_products_right (T : Txt K mg) : Cal P w K mg 23 "_law_products_right" ["pen", "p", "n"] f__law_products_right := by
  have C__law_draw : Cal P w K mg 22 "_law_draw" ["pen", "many"] f__law_draw := (cal__law_draw T).mono (by decide)
  have C__law_pick : Cal P w K mg 22 "_law_pick" ["pen", "some"] f__law_pick := (cal__law_pick T).mono (by decide)
  have C_noughts_of : Cal P w K mg 22 "noughts_of" ["p", "table"] f_noughts_of := (cal_noughts_of T).mono (by decide)
  have C__law_raised : Cal P w K mg 22 "_law_raised" ["a", "n"] f__law_raised := (cal__law_raised T).mono (by decide)
  have C_letters_of : Cal P w K mg 22 "letters_of" ["p", "table"] f_letters_of := (cal_letters_of T).mono (by decide)
  have C__law_row : Cal P w K mg 22 "_law_row" ["pen", "p", "many"] f__law_row := (cal__law_row T).mono (by decide)
  have C_worth_many : Cal P w K mg 22 "worth_many" ["p", "table", "point"] f_worth_many := (cal_worth_many T).mono (by decide)
  have C_many_sum : Cal P w K mg 22 "many_sum" ["p", "table"] f_many_sum := (cal_many_sum T).mono (by decide)
  refine cal_of (P := P) (w := w) (N := ["pen", "p", "n", "lap", "total", "factors", "table", "free", "point", "due", "z", "a", "b", "w"]) (ps := ["pen", "p", "n"]) (k := 22) (m := m__law_products_right) (B := ?B) (Sc := ?S) T.d__law_products_right sc__law_products_right bd__law_products_right ?h1 ?h2 ?h3
  case h1 => conv => lhs; whnf
  case h2 => conv => lhs; whnf
  intro base f cdv A outer s H E hr
  exact (jss_cons (js_par3X (i := 5) (j := 6) (l := 7) rfl sc__law_products_right.nd rfl rfl rfl (by decide) (by decide) (by decide) rfl rfl rfl (jx_own (jf_lst (ja_nil)) (jx_val (je_lst (ja_cons (je_int) (ja_nil))) (jx_val (je_int) (jx_nil)))) (by rfl)) (jss_cons (js_for (passes_of rfl) rfl (ji_range1 rfl T.z_range (ja_cons (je_var 2) (ja_nil))) (jg_name (i := 3) sc__law_products_right.nd rfl (by first | exact Or.inl rfl | exact Or.inr rfl)) (jss_cons (js_asg (je_tup (ja_cons (je_callC C__law_pick hr rfl (ja_cons (je_var 0) (ja_cons (je_lst (ja_cons (je_int) (ja_cons (je_int) (ja_cons (je_callC C__law_draw hr rfl (ja_cons (je_var 0) (ja_cons (je_var 1) (ja_nil)))) (ja_nil))))) (ja_nil)))) (ja_cons (je_callC C__law_pick hr rfl (ja_cons (je_var 0) (ja_cons (je_lst (ja_cons (je_int) (ja_cons (je_int) (ja_cons (je_op op_sub subT_ok (je_var 1) (je_int)) (ja_cons (je_callC C__law_draw hr rfl (ja_cons (je_var 0) (ja_cons (je_var 1) (ja_nil)))) (ja_nil)))))) (ja_nil)))) (ja_nil)))) (jg_tup rfl (jgs_cons (jg_name (i := 11) sc__law_products_right.nd rfl (by first | exact Or.inl rfl | exact Or.inr rfl)) (jgs_cons (jg_name (i := 12) sc__law_products_right.nd rfl (by first | exact Or.inl rfl | exact Or.inr rfl)) (jgs_nil))))) (jss_cons (js_append (i := 5) rfl (by first | exact Or.inl rfl | exact Or.inr (Or.inl rfl)) (je_tup (ja_cons (je_var 11) (ja_cons (je_var 12) (ja_nil))))) (jss_cons (js_set (i := 6) sc__law_products_right.nd rfl (by first | exact Or.inl rfl | exact Or.inr rfl) (je_op op_addA addT_ok (je_jf (jf_comp (own := [(("w" : Str), 13)]) rfl sc__law_products_right.nd (ji_seq (je_var 6)) (blkOk_by (N := ["pen", "p", "n", "lap", "total", "factors", "table", "free", "point", "due", "z", "a", "b", "w"]) (sc := defScope s__law_products_right) (by decide +kernel)) (by decide) (fun _ _ _ _ _ => jg_name (i := 13) sc__law_products_right.nd rfl (by first | exact Or.inl rfl | exact Or.inr rfl)) (fun _ _ _ _ _ => jts_nil) (fun _ _ _ _ _ => je_op op_mod modT_ok (je_callTy call_int1 int1T_ok rfl T.z_int (by decide +kernel) (ja_cons (je_op op_mulA mulT_ok (je_var 13) (je_var 11)) (ja_nil))) (je_var 1)))) (je_jf (jf_comp (own := [(("w" : Str), 13)]) rfl sc__law_products_right.nd (ji_seq (je_var 6)) (blkOk_by (N := ["pen", "p", "n", "lap", "total", "factors", "table", "free", "point", "due", "z", "a", "b", "w"]) (sc := defScope s__law_products_right) (by decide +kernel)) (by decide) (fun _ _ _ _ _ => jg_name (i := 13) sc__law_products_right.nd rfl (by first | exact Or.inl rfl | exact Or.inr rfl)) (fun _ _ _ _ _ => jts_nil) (fun _ _ _ _ _ => je_op op_mod modT_ok (je_callTy call_int1 int1T_ok rfl T.z_int (by decide +kernel) (ja_cons (je_op op_mulA mulT_ok (je_var 13) (je_op op_addA addT_ok (je_var 11) (je_var 12))) (ja_nil))) (je_var 1)))))) (jss_one (js_set (i := 7) sc__law_products_right.nd rfl (by first | exact Or.inl rfl | exact Or.inr rfl) (je_op op_mulA mulT_ok (je_var 7) (je_ifExp (jt_cmp (op_eqD hr.units) eqT_ok (je_tup (ja_cons (je_var 11) (ja_cons (je_var 12) (ja_nil)))) (je_tup (ja_cons (je_int) (ja_cons (je_int) (ja_nil)))) (nomark _)) (je_int) (je_ifExp (jt_cmp (op_eqD hr.units) eqT_ok (je_var 12) (je_int) (nomark _)) (je_var 1) (je_op op_sub subT_ok (je_var 1) (je_int))))))))))) (jss_cons (js_if (jw_jt (jw_or (jt_cmp (op_neD hr.units) neT_ok (je_callC C_noughts_of hr rfl (ja_cons (je_var 1) (ja_cons (je_callTy call_tuple_of tupleT_ok rfl T.z_tuple (by decide +kernel) (ja_cons (je_var 6) (ja_nil))) (ja_nil)))) (je_op op_sub subT_ok (je_callC C__law_raised hr rfl (ja_cons (je_var 1) (ja_cons (je_var 2) (ja_nil)))) (je_var 7)) (nomark _)) (jw_or1 (jt_cmp (op_neD hr.units) neT_ok (je_callC C_letters_of hr rfl (ja_cons (je_var 1) (ja_cons (je_callTy call_tuple_of tupleT_ok rfl T.z_tuple (by decide +kernel) (ja_cons (je_var 6) (ja_nil))) (ja_nil)))) (je_var 2) (nomark _))))) (jss_one (js_ret (je_bl))) (jss_nil)) (jss_cons (js_par2X (i := 8) (j := 9) rfl sc__law_products_right.nd rfl rfl (by decide) rfl rfl (jx_val (je_callC C__law_row hr rfl (ja_cons (je_var 0) (ja_cons (je_var 1) (ja_cons (je_var 2) (ja_nil))))) (jx_val (je_int) (jx_nil))) (by rfl)) (jss_frz (i := 5) (jss_cons (js_for (passes_of rfl) rfl (ji_zip rfl T.z_zip (ja_cons (je_var 8) (ja_cons (je_var 5) (ja_nil)))) (jg_tup rfl (jgs_cons (jg_name (i := 10) sc__law_products_right.nd rfl (by first | exact Or.inl rfl | exact Or.inr rfl)) (jgs_cons (jg_tup rfl (jgs_cons (jg_name (i := 11) sc__law_products_right.nd rfl (by first | exact Or.inl rfl | exact Or.inr rfl)) (jgs_cons (jg_name (i := 12) sc__law_products_right.nd rfl (by first | exact Or.inl rfl | exact Or.inr rfl)) (jgs_nil)))) (jgs_nil)))) (jss_one (js_set (i := 9) sc__law_products_right.nd rfl (by first | exact Or.inl rfl | exact Or.inr rfl) (je_op op_mod modT_ok (je_callTy call_int1 int1T_ok rfl T.z_int (by decide +kernel) (ja_cons (je_op op_mulA mulT_ok (je_var 9) (je_op op_addA addT_ok (je_var 11) (je_op op_mulA mulT_ok (je_var 12) (je_var 10)))) (ja_nil))) (je_var 1))))) (jss_cons (js_set (i := 4) sc__law_products_right.nd rfl (by first | exact Or.inl rfl | exact Or.inr rfl) (je_int)) (jss_frz (i := 5) (jss_cons (js_for (passes_of rfl) rfl (ji_seq (je_var 5)) (jg_tup rfl (jgs_cons (jg_name (i := 11) sc__law_products_right.nd rfl (by first | exact Or.inl rfl | exact Or.inr rfl)) (jgs_cons (jg_name (i := 12) sc__law_products_right.nd rfl (by first | exact Or.inl rfl | exact Or.inr rfl)) (jgs_nil)))) (jss_one (js_set (i := 4) sc__law_products_right.nd rfl (by first | exact Or.inl rfl | exact Or.inr rfl) (je_op op_mod modT_ok (je_callTy call_int1 int1T_ok rfl T.z_int (by decide +kernel) (ja_cons (je_op op_mulA mulT_ok (je_var 4) (je_op op_addA addT_ok (je_op op_mulA mulT_ok (je_int) (je_var 11)) (je_var 12))) (ja_nil))) (je_var 1))))) (jss_one (js_ret (je_and (je_cmp (op_eqD hr.units) eqT_ok (je_callC C_worth_many hr rfl (ja_cons (je_var 1) (ja_cons (je_callTy call_tuple_of tupleT_ok rfl T.z_tuple (by decide +kernel) (ja_cons (je_var 6) (ja_nil))) (ja_cons (je_var 8) (ja_nil))))) (je_var 9) (nomark _)) (je_one (je_cmp (op_eqD hr.units) eqT_ok (je_callC C_many_sum hr rfl (ja_cons (je_var 1) (ja_cons (je_callTy call_tuple_of tupleT_ok rfl T.z_tuple (by decide +kernel) (ja_cons (je_var 6) (ja_nil))) (ja_nil)))) (je_var 4) (nomark _)))))))))))))))
theorem bd__law_bound_right : Bd "_law_bound_right" s__law_bound_right ["pen", "p", "n"] := fun _ _ _ _ _ _ us hl => match us, hl with | [_, _, _], _ => rfl
theorem cal__law_bound_right (T : Txt K mg) : Cal P w K mg 23 "_law_bound_right" ["pen", "p", "n"] f__law_bound_right := by
  have C__law_raised : Cal P w K mg 22 "_law_raised" ["a", "n"] f__law_raised := (cal__law_raised T).mono (by decide)
  have C__law_draw : Cal P w K mg 22 "_law_draw" ["pen", "many"] f__law_draw := (cal__law_draw T).mono (by decide)
  have C_noughts_of : Cal P w K mg 22 "noughts_of" ["p", "table"] f_noughts_of := (cal_noughts_of T).mono (by decide)
  have C__law_pick : Cal P w K mg 22 "_law_pick" ["pen", "some"] f__law_pick := (cal__law_pick T).mono (by decide)
  have C__law_row : Cal P w K mg 22 "_law_row" ["pen", "p", "many"] f__law_row := (cal__law_row T).mono (by decide)
  have C_worth_many : Cal P w K mg 22 "worth_many" ["p", "table", "point"] f_worth_many := (cal_worth_many T).mono (by decide)
  have C_corner_weight : Cal P w K mg 22 "corner_weight" ["p", "j", "point"] f_corner_weight := (cal_corner_weight T).mono (by decide)
  refine cal_of (P := P) (w := w) (N := ["pen", "p", "n", "size", "lone", "most", "table", "point", "j", "c", "entry"]) (ps := ["pen", "p", "n"]) (k := 22) (m := m__law_bound_right) (B := ?B) (Sc := ?S) T.d__law_bound_right sc__law_bound_right bd__law_bound_right ?h1 ?h2 ?h3
  case h1 => conv => lhs; whnf
  case h2 => conv => lhs; whnf
  intro base f cdv A outer s H E hr
  exact (jss_cons (js_set (i := 3) sc__law_bound_right.nd rfl (by first | exact Or.inl rfl | exact Or.inr rfl) (je_callC C__law_raised hr rfl (ja_cons (je_int) (ja_cons (je_var 2) (ja_nil))))) (jss_cons (js_par2X (i := 8) (j := 9) rfl sc__law_bound_right.nd rfl rfl (by decide) rfl rfl (jx_val (je_callC C__law_draw hr rfl (ja_cons (je_var 0) (ja_cons (je_var 3) (ja_nil)))) (jx_val (je_op op_addA addT_ok (je_int) (je_callC C__law_draw hr rfl (ja_cons (je_var 0) (ja_cons (je_op op_sub subT_ok (je_var 1) (je_int)) (ja_nil))))) (jx_nil))) (by rfl)) (jss_cons (js_set (i := 4) sc__law_bound_right.nd rfl (by first | exact Or.inl rfl | exact Or.inr rfl) (je_op op_addA addT_ok (je_op op_addA addT_ok (je_op op_mulA mulT_ok (je_tup (ja_cons (je_int) (ja_nil))) (je_var 8)) (je_tup (ja_cons (je_var 9) (ja_nil)))) (je_op op_mulA mulT_ok (je_tup (ja_cons (je_int) (ja_nil))) (je_op op_sub subT_ok (je_op op_sub subT_ok (je_var 3) (je_var 8)) (je_int))))) (jss_cons (js_set (i := 5) sc__law_bound_right.nd rfl (by first | exact Or.inl rfl | exact Or.inr rfl) (je_op op_sub subT_ok (je_callC C__law_raised hr rfl (ja_cons (je_var 1) (ja_cons (je_var 2) (ja_nil)))) (je_callC C__law_raised hr rfl (ja_cons (je_op op_sub subT_ok (je_var 1) (je_int)) (ja_cons (je_var 2) (ja_nil)))))) (jss_cons (js_if (jw_jt (jw_or (jt_cmp (op_neD hr.units) neT_ok (je_callC C_noughts_of hr rfl (ja_cons (je_var 1) (ja_cons (je_var 4) (ja_nil)))) (je_var 5) (nomark _)) (jw_or1 (jt_cmp (op_neD hr.units) neT_ok (je_callC C_noughts_of hr rfl (ja_cons (je_var 1) (ja_cons (je_op op_mulA mulT_ok (je_tup (ja_cons (je_int) (ja_nil))) (je_var 3)) (ja_nil)))) (je_callC C__law_raised hr rfl (ja_cons (je_var 1) (ja_cons (je_var 2) (ja_nil)))) (nomark _))))) (jss_one (js_ret (je_bl))) (jss_nil)) (jss_cons (js_if (jt_cmp (op_neD hr.units) neT_ok (je_callC C_noughts_of hr rfl (ja_cons (je_var 1) (ja_cons (je_op op_mulA mulT_ok (je_tup (ja_cons (je_var 9) (ja_nil))) (je_var 3)) (ja_nil)))) (je_int) (nomark _)) (jss_one (js_ret (je_bl))) (jss_nil)) (jss_cons (js_set (i := 6) sc__law_bound_right.nd rfl (by first | exact Or.inl rfl | exact Or.inr rfl) (je_callTy call_tuple_of tupleT_ok rfl T.z_tuple (by decide +kernel) (ja_cons (je_jf (jf_comp (own := [(("entry" : Str), 10)]) rfl sc__law_bound_right.nd (ji_range1 rfl T.z_range (ja_cons (je_var 3) (ja_nil))) (blkOk_by (N := ["pen", "p", "n", "size", "lone", "most", "table", "point", "j", "c", "entry"]) (sc := defScope s__law_bound_right) (by decide +kernel)) (by decide) (fun _ _ _ _ _ => jg_name (i := 10) sc__law_bound_right.nd rfl (by first | exact Or.inl rfl | exact Or.inr rfl)) (fun _ _ _ _ _ => jts_nil) (fun _ _ _ _ _ => je_callC C__law_pick hr rfl (ja_cons (je_var 0) (ja_cons (je_lst (ja_cons (je_int) (ja_cons (je_int) (ja_cons (je_callC C__law_draw hr rfl (ja_cons (je_var 0) (ja_cons (je_var 1) (ja_nil)))) (ja_nil))))) (ja_nil)))))) (ja_nil)))) (jss_cons (js_if (jw_jt (jw_and (jt_cmp (op_neD hr.units) neT_ok (je_var 6) (je_op op_mulA mulT_ok (je_tup (ja_cons (je_int) (ja_nil))) (je_var 3)) (nomark _)) (jw_and1 (jt_cmp op_gt gtT_ok (je_callC C_noughts_of hr rfl (ja_cons (je_var 1) (ja_cons (je_var 6) (ja_nil)))) (je_var 5) (nomark _))))) (jss_one (js_ret (je_bl))) (jss_nil)) (jss_cons (js_set (i := 7) sc__law_bound_right.nd rfl (by first | exact Or.inl rfl | exact Or.inr rfl) (je_callC C__law_row hr rfl (ja_cons (je_var 0) (ja_cons (je_var 1) (ja_cons (je_var 2) (ja_nil)))))) (jss_one (js_ret (je_cmp (op_eqD hr.units) eqT_ok (je_callC C_worth_many hr rfl (ja_cons (je_var 1) (ja_cons (je_var 4) (ja_cons (je_var 7) (ja_nil))))) (je_op op_mod modT_ok (je_callTy call_int1 int1T_ok rfl T.z_int (by decide +kernel) (ja_cons (je_op op_mulA mulT_ok (je_var 9) (je_callC C_corner_weight hr rfl (ja_cons (je_var 1) (ja_cons (je_var 8) (ja_cons (je_var 7) (ja_nil)))))) (ja_nil))) (je_var 1)) (nomark _)))))))))))))
theorem bd__law_sums_right : Bd "_law_sums_right" s__law_sums_right ["pen", "p", "n"] := fun _ _ _ _ _ _ us hl => match us, hl with | [_, _, _], _ => rfl
theorem cal__law_sums_right (T : Txt K mg) : Cal P w K mg 23 "_law_sums_right" ["pen", "p", "n"] f__law_sums_right := by
  have C__law_draw : Cal P w K mg 22 "_law_draw" ["pen", "many"] f__law_draw := (cal__law_draw T).mono (by decide)
  have C__law_raised : Cal P w K mg 22 "_law_raised" ["a", "n"] f__law_raised := (cal__law_raised T).mono (by decide)
  have C_noughts_of : Cal P w K mg 22 "noughts_of" ["p", "table"] f_noughts_of := (cal_noughts_of T).mono (by decide)
  have C__law_row : Cal P w K mg 22 "_law_row" ["pen", "p", "many"] f__law_row := (cal__law_row T).mono (by decide)
  have C_worth_many : Cal P w K mg 22 "worth_many" ["p", "table", "point"] f_worth_many := (cal_worth_many T).mono (by decide)
  have C_along_line : Cal P w K mg 22 "along_line" ["p", "table", "one", "two"] f_along_line := (cal_along_line T).mono (by decide)
  have C_line_point : Cal P w K mg 22 "line_point" ["p", "one", "two", "t"] f_line_point := (cal_line_point T).mono (by decide)
  refine cal_of (P := P) (w := w) (N := ["pen", "p", "n", "table", "factor", "due", "told", "size", "c", "factors", "one", "two", "start", "end", "point", "k", "t", "entry", "f", "z"]) (ps := ["pen", "p", "n"]) (k := 22) (m := m__law_sums_right) (B := ?B) (Sc := ?S) T.d__law_sums_right sc__law_sums_right bd__law_sums_right ?h1 ?h2 ?h3
  case h1 => conv => lhs; whnf
  case h2 => conv => lhs; whnf
  intro base f cdv A outer s H E hr
  exact (jss_cons (js_asg (je_tup (ja_cons (je_callC C__law_raised hr rfl (ja_cons (je_int) (ja_cons (je_var 2) (ja_nil)))) (ja_cons (je_callC C__law_draw hr rfl (ja_cons (je_var 0) (ja_cons (je_var 1) (ja_nil)))) (ja_cons (je_jf (jf_comp (own := [(("k" : Str), 15)]) rfl sc__law_sums_right.nd (ji_range1 rfl T.z_range (ja_cons (je_var 2) (ja_nil))) (blkOk_by (N := ["pen", "p", "n", "table", "factor", "due", "told", "size", "c", "factors", "one", "two", "start", "end", "point", "k", "t", "entry", "f", "z"]) (sc := defScope s__law_sums_right) (by decide +kernel)) (by decide) (fun _ _ _ _ _ => jg_name (i := 15) sc__law_sums_right.nd rfl (by first | exact Or.inl rfl | exact Or.inr rfl)) (fun _ _ _ _ _ => jts_nil) (fun _ _ _ _ _ => je_op op_addA addT_ok (je_int) (je_callC C__law_draw hr rfl (ja_cons (je_var 0) (ja_cons (je_op op_sub subT_ok (je_var 1) (je_int)) (ja_nil))))))) (ja_nil))))) (jg_tup rfl (jgs_cons (jg_name (i := 7) sc__law_sums_right.nd rfl (by first | exact Or.inl rfl | exact Or.inr rfl)) (jgs_cons (jg_name (i := 8) sc__law_sums_right.nd rfl (by first | exact Or.inl rfl | exact Or.inr rfl)) (jgs_cons (jg_name (i := 9) sc__law_sums_right.nd rfl (by first | exact Or.inl rfl | exact Or.inr rfl)) (jgs_nil)))))) (jss_cons (js_set (i := 3) sc__law_sums_right.nd rfl (by first | exact Or.inl rfl | exact Or.inr rfl) (je_lst (ja_cons (je_var 8) (ja_nil)))) (jss_cons (js_for (passes_of rfl) rfl (ji_seq (je_var 9)) (jg_name (i := 4) sc__law_sums_right.nd rfl (by first | exact Or.inl rfl | exact Or.inr rfl)) (jss_one (js_set (i := 3) sc__law_sums_right.nd rfl (by first | exact Or.inl rfl | exact Or.inr rfl) (je_op op_addA addT_ok (je_var 3) (je_jf (jf_comp (own := [(("entry" : Str), 17)]) rfl sc__law_sums_right.nd (ji_seq (je_var 3)) (blkOk_by (N := ["pen", "p", "n", "table", "factor", "due", "told", "size", "c", "factors", "one", "two", "start", "end", "point", "k", "t", "entry", "f", "z"]) (sc := defScope s__law_sums_right) (by decide +kernel)) (by decide) (fun _ _ _ _ _ => jg_name (i := 17) sc__law_sums_right.nd rfl (by first | exact Or.inl rfl | exact Or.inr rfl)) (fun _ _ _ _ _ => jts_nil) (fun _ _ _ _ _ => je_op op_mod modT_ok (je_callTy call_int1 int1T_ok rfl T.z_int (by decide +kernel) (ja_cons (je_op op_addA addT_ok (je_var 17) (je_var 4)) (ja_nil))) (je_var 1)))))))) (jss_cons (js_if (jt_cmp (op_neD hr.units) neT_ok (je_callC C_noughts_of hr rfl (ja_cons (je_var 1) (ja_cons (je_callTy call_tuple_of tupleT_ok rfl T.z_tuple (by decide +kernel) (ja_cons (je_var 3) (ja_nil))) (ja_nil)))) (je_ifExp (jt_cmp op_gt gtT_ok (je_var 2) (je_int) (nomark _)) (je_callC C__law_raised hr rfl (ja_cons (je_var 1) (ja_cons (je_op op_sub subT_ok (je_var 2) (je_int)) (ja_nil)))) (je_ifExp (jt_cmp (op_eqD hr.units) eqT_ok (je_var 8) (je_int) (nomark _)) (je_int) (je_int))) (nomark _)) (jss_one (js_ret (je_bl))) (jss_nil)) (jss_cons (js_par2X (i := 10) (j := 11) rfl sc__law_sums_right.nd rfl rfl (by decide) rfl rfl (jx_val (je_callC C__law_row hr rfl (ja_cons (je_var 0) (ja_cons (je_var 1) (ja_cons (je_var 2) (ja_nil))))) (jx_val (je_callC C__law_row hr rfl (ja_cons (je_var 0) (ja_cons (je_var 1) (ja_cons (je_var 2) (ja_nil))))) (jx_nil))) (by rfl)) (jss_cons (js_asg (je_jf (jf_comp (own := [(("point" : Str), 14)]) rfl sc__law_sums_right.nd (ji_seq (je_lst (ja_cons (je_var 10) (ja_cons (je_var 11) (ja_nil))))) (blkOk_by (N := ["pen", "p", "n", "table", "factor", "due", "told", "size", "c", "factors", "one", "two", "start", "end", "point", "k", "t", "entry", "f", "z"]) (sc := defScope s__law_sums_right) (by decide +kernel)) (by decide) (fun _ _ _ _ _ => jg_name (i := 14) sc__law_sums_right.nd rfl (by first | exact Or.inl rfl | exact Or.inr rfl)) (fun _ _ _ _ _ => jts_nil) (fun _ _ _ _ _ => je_op op_mod modT_ok (je_callTy call_int1 int1T_ok rfl T.z_int (by decide +kernel) (ja_cons (je_op op_addA addT_ok (je_var 8) (je_callB (cr_sumA rfl) sumT_ok rfl T.z_sum (by decide +kernel) (ja_cons (je_jf (jf_comp (own := [(("f" : Str), 18), (("z" : Str), 19)]) rfl sc__law_sums_right.nd (ji_zip rfl T.z_zip (ja_cons (je_var 9) (ja_cons (je_var 14) (ja_nil)))) (blkOk_by (by show blkC ["pen", "p", "n", "table", "factor", "due", "told", "size", "c", "factors", "one", "two", "start", "end", "point", "k", "t", "entry", "f", "z"] (relS _ (defScope s__law_sums_right)) _ _ = true; decide +kernel)) (by decide) (fun _ _ _ _ _ => jg_tup rfl (jgs_cons (jg_name (i := 18) sc__law_sums_right.nd rfl (by first | exact Or.inl rfl | exact Or.inr rfl)) (jgs_cons (jg_name (i := 19) sc__law_sums_right.nd rfl (by first | exact Or.inl rfl | exact Or.inr rfl)) (jgs_nil)))) (fun _ _ _ _ _ => jts_nil) (fun _ _ _ _ _ => je_op op_mulA mulT_ok (je_var 18) (je_var 19)))) (ja_nil)))) (ja_nil))) (je_var 1)))) (jg_seq rfl (jgs_cons (jg_name (i := 12) sc__law_sums_right.nd rfl (by first | exact Or.inl rfl | exact Or.inr rfl)) (jgs_cons (jg_name (i := 13) sc__law_sums_right.nd rfl (by first | exact Or.inl rfl | exact Or.inr rfl)) (jgs_nil))) (fun t h => pg_tup rfl h) (fun t h => pg_unl rfl h))) (jss_cons (js_if (jw_jt (jw_or (jt_cmp (op_neD hr.units) neT_ok (je_callC C_worth_many hr rfl (ja_cons (je_var 1) (ja_cons (je_callTy call_tuple_of tupleT_ok rfl T.z_tuple (by decide +kernel) (ja_cons (je_var 3) (ja_nil))) (ja_cons (je_var 10) (ja_nil))))) (je_var 12) (nomark _)) (jw_or1 (jt_cmp (op_neD hr.units) neT_ok (je_callB call_len lenT_ok rfl T.z_len (by decide +kernel) (ja_cons (je_var 3) (ja_nil))) (je_var 7) (nomark _))))) (jss_one (js_ret (je_bl))) (jss_nil)) (jss_cons (js_set (i := 5) sc__law_sums_right.nd rfl (by first | exact Or.inl rfl | exact Or.inr rfl) (je_callTy call_tuple_of tupleT_ok rfl T.z_tuple (by decide +kernel) (ja_cons (je_jf (jf_comp (own := [(("t" : Str), 16)]) rfl sc__law_sums_right.nd (ji_range1 rfl T.z_range (ja_cons (je_op op_addA addT_ok (je_var 2) (je_int)) (ja_nil))) (blkOk_by (N := ["pen", "p", "n", "table", "factor", "due", "told", "size", "c", "factors", "one", "two", "start", "end", "point", "k", "t", "entry", "f", "z"]) (sc := defScope s__law_sums_right) (by decide +kernel)) (by decide) (fun _ _ _ _ _ => jg_name (i := 16) sc__law_sums_right.nd rfl (by first | exact Or.inl rfl | exact Or.inr rfl)) (fun _ _ _ _ _ => jts_nil) (fun _ _ _ _ _ => je_op op_mod modT_ok (je_callTy call_int1 int1T_ok rfl T.z_int (by decide +kernel) (ja_cons (je_op op_addA addT_ok (je_var 12) (je_op op_mulA mulT_ok (je_var 16) (je_op op_sub subT_ok (je_var 13) (je_var 12)))) (ja_nil))) (je_var 1)))) (ja_nil)))) (jss_cons (js_set (i := 6) sc__law_sums_right.nd rfl (by first | exact Or.inl rfl | exact Or.inr rfl) (je_callC C_along_line hr rfl (ja_cons (je_var 1) (ja_cons (je_callTy call_tuple_of tupleT_ok rfl T.z_tuple (by decide +kernel) (ja_cons (je_var 3) (ja_nil))) (ja_cons (je_var 10) (ja_cons (je_var 11) (ja_nil))))))) (jss_cons (js_if (jw_jt (jw_or (jt_cmp (op_neD hr.units) neT_ok (je_var 6) (je_var 5) (nomark _)) (jw_or1 (jw_jt (jw_and (jt_cmp op_gt gtT_ok (je_var 2) (je_int) (nomark _)) (jw_and1 (jt_cmp (op_neD hr.units) neT_ok (je_tup (ja_cons (je_sub (hu_of hr) (je_var 6) (je_int)) (ja_cons (je_sub (hu_of hr) (je_var 6) (je_int)) (ja_nil)))) (je_tup (ja_cons (je_var 12) (ja_cons (je_var 13) (ja_nil)))) (nomark _)))))))) (jss_one (js_ret (je_bl))) (jss_nil)) (jss_one (js_ret (je_and (je_cmp (op_eqD hr.units) eqT_ok (je_callC C_line_point hr rfl (ja_cons (je_var 1) (ja_cons (je_var 10) (ja_cons (je_var 11) (ja_cons (je_int) (ja_nil)))))) (je_var 10) (nomark _)) (je_one (je_cmp (op_eqD hr.units) eqT_ok (je_callC C_line_point hr rfl (ja_cons (je_var 1) (ja_cons (je_var 10) (ja_cons (je_var 11) (ja_cons (je_int) (ja_nil)))))) (je_var 11) (nomark _))))))))))))))))
theorem bd_law : Bd "law" s_law ["script"] := fun _ _ _ _ _ _ us hl => match us, hl with | [_], _ => rfl
theorem cal_law (T : Txt K mg) : Cal P w K mg 24 "law" ["script"] f_law := by
  have C__law_pen : Cal P w K mg 23 "_law_pen" ["script"] f__law_pen := (cal__law_pen T).mono (by decide)
  have C__law_pick : Cal P w K mg 23 "_law_pick" ["pen", "some"] f__law_pick := (cal__law_pick T).mono (by decide)
  have C__law_products_right : Cal P w K mg 23 "_law_products_right" ["pen", "p", "n"] f__law_products_right := (cal__law_products_right T).mono (by decide)
  have C__law_bound_right : Cal P w K mg 23 "_law_bound_right" ["pen", "p", "n"] f__law_bound_right := (cal__law_bound_right T).mono (by decide)
  have C__law_sums_right : Cal P w K mg 23 "_law_sums_right" ["pen", "p", "n"] f__law_sums_right := (cal__law_sums_right T).mono (by decide)
  refine cal_of (P := P) (w := w) (N := ["script", "pen", "lap", "p", "n"]) (ps := ["script"]) (k := 23) (m := m_law) (B := ?B) (Sc := ?S) T.d_law sc_law bd_law ?h1 ?h2 ?h3
  case h1 => conv => lhs; whnf
  case h2 => conv => lhs; whnf
  intro base f cdv A outer s H E hr
  exact (jss_cons (js_set (i := 1) sc_law.nd rfl (by first | exact Or.inl rfl | exact Or.inr rfl) (je_callC C__law_pen hr rfl (ja_cons (je_var 0) (ja_nil)))) (jss_cons (js_for (passes_of rfl) rfl (ji_range1 rfl T.z_range (ja_cons (je_int) (ja_nil))) (jg_name (i := 2) sc_law.nd rfl (by first | exact Or.inl rfl | exact Or.inr rfl)) (jss_cons (js_asg (je_callC C__law_pick hr rfl (ja_cons (je_var 1) (ja_cons (je_lst (ja_cons (je_tup (ja_cons (je_int) (ja_cons (je_int) (ja_nil)))) (ja_cons (je_tup (ja_cons (je_int) (ja_cons (je_int) (ja_nil)))) (ja_cons (je_tup (ja_cons (je_int) (ja_cons (je_int) (ja_nil)))) (ja_cons (je_tup (ja_cons (je_int) (ja_cons (je_int) (ja_nil)))) (ja_cons (je_tup (ja_cons (je_int) (ja_cons (je_int) (ja_nil)))) (ja_cons (je_tup (ja_cons (je_int) (ja_cons (je_int) (ja_nil)))) (ja_cons (je_tup (ja_cons (je_int) (ja_cons (je_int) (ja_nil)))) (ja_cons (je_tup (ja_cons (je_int) (ja_cons (je_int) (ja_nil)))) (ja_cons (je_tup (ja_cons (je_int) (ja_cons (je_int) (ja_nil)))) (ja_cons (je_tup (ja_cons (je_int) (ja_cons (je_int) (ja_nil)))) (ja_nil)))))))))))) (ja_nil)))) (jg_tup rfl (jgs_cons (jg_name (i := 3) sc_law.nd rfl (by first | exact Or.inl rfl | exact Or.inr rfl)) (jgs_cons (jg_name (i := 4) sc_law.nd rfl (by first | exact Or.inl rfl | exact Or.inr rfl)) (jgs_nil))))) (jss_one (js_if (jw_jt (jw_or (jt_not (jt_truth (je_callC C__law_products_right hr rfl (ja_cons (je_var 1) (ja_cons (je_var 3) (ja_cons (je_var 4) (ja_nil))))))) (jw_or (jt_not (jt_truth (je_callC C__law_bound_right hr rfl (ja_cons (je_var 1) (ja_cons (je_var 3) (ja_cons (je_var 4) (ja_nil))))))) (jw_or1 (jt_not (jt_truth (je_callC C__law_sums_right hr rfl (ja_cons (je_var 1) (ja_cons (je_var 3) (ja_cons (je_var 4) (ja_nil))))))))))) (jss_one (js_ret (je_bl))) (jss_nil))))) (jss_one (js_ret (je_bl)))))
end
theorem txt_mk {K : PySem.W.Frag} {h : Heap} {mg : Str → Option Value} (X : K.In h) (G : h.Ns mainGlobals mg) {f0 f1 f2 f3 f4 f5 f6 f7 f8 f9 f10 f11 f12 f13 f14 f15 f16 f17 f18 f19 f20 f21 f22 f23 f24 f25 f26 f27 f28 f29 f30 f31 f32 f33 : Addr} {od0 od1 od2 od3 od4 od5 od6 od7 od8 od9 od10 od11 od12 od13 od14 od15 od16 od17 od18 od19 od20 od21 od22 od23 od24 od25 od26 od27 od28 od29 od30 od31 od32 od33 an0 an1 an2 an3 an4 an5 an6 an7 an8 an9 an10 an11 an12 an13 an14 an15 an16 an17 an18 an19 an20 an21 an22 an23 an24 an25 an26 an27 an28 an29 an30 an31 an32 an33 : Option Addr} {sl0 sl1 sl2 sl3 sl4 sl5 sl6 sl7 sl8 sl9 sl10 sl11 sl12 sl13 sl14 sl15 sl16 sl17 sl18 sl19 sl20 sl21 sl22 sl23 sl24 sl25 sl26 sl27 sl28 sl29 sl30 sl31 sl32 sl33 : Array (Option Value)} {oc0 oc1 oc2 oc3 oc4 oc5 oc6 oc7 oc8 oc9 oc10 oc11 oc12 oc13 oc14 oc15 oc16 oc17 oc18 oc19 oc20 oc21 oc22 oc23 oc24 oc25 oc26 oc27 oc28 oc29 oc30 oc31 oc32 oc33 kV0 kV1 kV2 kV3 kV4 kV5 kV6 kV7 kV8 kV9 kV10 kV11 kV12 kV13 kV14 kV15 kV16 kV17 kV18 kV19 kV20 kV21 kV22 kV23 kV24 kV25 kV26 kV27 kV28 kV29 kV30 kV31 kV32 kV33 dc0 dc1 dc2 dc3 dc4 dc5 dc6 dc7 dc8 dc9 dc10 dc11 dc12 dc13 dc14 dc15 dc16 dc17 dc18 dc19 dc20 dc21 dc22 dc23 dc24 dc25 dc26 dc27 dc28 dc29 dc30 dc31 dc32 dc33 pm0 pm1 pm2 pm3 pm4 pm5 pm6 pm7 pm8 pm9 pm10 pm11 pm12 pm13 pm14 pm15 pm16 pm17 pm18 pm19 pm20 pm21 pm22 pm23 pm24 pm25 pm26 pm27 pm28 pm29 pm30 pm31 pm32 pm33 cd0 cd1 cd2 cd3 cd4 cd5 cd6 cd7 cd8 cd9 cd10 cd11 cd12 cd13 cd14 cd15 cd16 cd17 cd18 cd19 cd20 cd21 cd22 cd23 cd24 cd25 cd26 cd27 cd28 cd29 cd30 cd31 cd32 cd33 ct0 ct1 ct2 ct3 ct4 ct5 ct6 ct7 ct8 ct9 ct10 ct11 ct12 ct13 ct14 ct15 ct16 ct17 ct18 ct19 ct20 ct21 ct22 ct23 ct24 ct25 ct26 ct27 ct28 ct29 ct30 ct31 ct32 ct33 : Value} {u_MOST : Tok} (z_isinstance : PySem.W.nsIn K mainGlobals "isinstance" = some none) (z_int : PySem.W.nsIn K mainGlobals "int" = some none) (z_bool : PySem.W.nsIn K mainGlobals "bool" = some none) (z_range : PySem.W.nsIn K mainGlobals "range" = some none) (z_tuple : PySem.W.nsIn K mainGlobals "tuple" = some none) (z_all : PySem.W.nsIn K mainGlobals "all" = some none) (z_len : PySem.W.nsIn K mainGlobals "len" = some none) (z_sum : PySem.W.nsIn K mainGlobals "sum" = some none) (z_zip : PySem.W.nsIn K mainGlobals "zip" = some none) (z_list : PySem.W.nsIn K mainGlobals "list" = some none) (c_MOST : PySem.W.nsIn K mainGlobals "MOST" = some (some (.int 999999937 u_MOST))) (a0 : PySem.W.nsIn K mainGlobals "is_whole" = some (some (.ref f0))) (l0 : K.lookup f0 = some ⟨oc0, od0, .func (PySem.W.fnOf "is_whole" "is_whole" (defArgs s_is_whole) (defBody s_is_whole) (defScope s_is_whole) .none kV0 dc0 pm0 an0 cd0 ct0), sl0⟩) (c0 : PySem.W.codeIn K cd0 "is_whole" = true) (k0 : PySem.W.keepIn K (.ref f0) = true) (a1 : PySem.W.nsIn K mainGlobals "is_count" = some (some (.ref f1))) (l1 : K.lookup f1 = some ⟨oc1, od1, .func (PySem.W.fnOf "is_count" "is_count" (defArgs s_is_count) (defBody s_is_count) (defScope s_is_count) .none kV1 dc1 pm1 an1 cd1 ct1), sl1⟩) (c1 : PySem.W.codeIn K cd1 "is_count" = true) (k1 : PySem.W.keepIn K (.ref f1) = true) (a2 : PySem.W.nsIn K mainGlobals "is_prime" = some (some (.ref f2))) (l2 : K.lookup f2 = some ⟨oc2, od2, .func (PySem.W.fnOf "is_prime" "is_prime" (defArgs s_is_prime) (defBody s_is_prime) (defScope s_is_prime) .none kV2 dc2 pm2 an2 cd2 ct2), sl2⟩) (c2 : PySem.W.codeIn K cd2 "is_prime" = true) (k2 : PySem.W.keepIn K (.ref f2) = true) (a3 : PySem.W.nsIn K mainGlobals "need_prime" = some (some (.ref f3))) (l3 : K.lookup f3 = some ⟨oc3, od3, .func (PySem.W.fnOf "need_prime" "need_prime" (defArgs s_need_prime) (defBody s_need_prime) (defScope s_need_prime) .none kV3 dc3 pm3 an3 cd3 ct3), sl3⟩) (c3 : PySem.W.codeIn K cd3 "need_prime" = true) (k3 : PySem.W.keepIn K (.ref f3) = true) (a4 : PySem.W.nsIn K mainGlobals "is_rest_in" = some (some (.ref f4))) (l4 : K.lookup f4 = some ⟨oc4, od4, .func (PySem.W.fnOf "is_rest_in" "is_rest_in" (defArgs s_is_rest_in) (defBody s_is_rest_in) (defScope s_is_rest_in) .none kV4 dc4 pm4 an4 cd4 ct4), sl4⟩) (c4 : PySem.W.codeIn K cd4 "is_rest_in" = true) (k4 : PySem.W.keepIn K (.ref f4) = true) (a5 : PySem.W.nsIn K mainGlobals "need_rests" = some (some (.ref f5))) (l5 : K.lookup f5 = some ⟨oc5, od5, .func (PySem.W.fnOf "need_rests" "need_rests" (defArgs s_need_rests) (defBody s_need_rests) (defScope s_need_rests) .none kV5 dc5 pm5 an5 cd5 ct5), sl5⟩) (c5 : PySem.W.codeIn K cd5 "need_rests" = true) (k5 : PySem.W.keepIn K (.ref f5) = true) (a6 : PySem.W.nsIn K mainGlobals "doubled" = some (some (.ref f6))) (l6 : K.lookup f6 = some ⟨oc6, od6, .func (PySem.W.fnOf "doubled" "doubled" (defArgs s_doubled) (defBody s_doubled) (defScope s_doubled) .none kV6 dc6 pm6 an6 cd6 ct6), sl6⟩) (c6 : PySem.W.codeIn K cd6 "doubled" = true) (k6 : PySem.W.keepIn K (.ref f6) = true) (a7 : PySem.W.nsIn K mainGlobals "letters_in" = some (some (.ref f7))) (l7 : K.lookup f7 = some ⟨oc7, od7, .func (PySem.W.fnOf "letters_in" "letters_in" (defArgs s_letters_in) (defBody s_letters_in) (defScope s_letters_in) .none kV7 dc7 pm7 an7 cd7 ct7), sl7⟩) (c7 : PySem.W.codeIn K cd7 "letters_in" = true) (k7 : PySem.W.keepIn K (.ref f7) = true) (a8 : PySem.W.nsIn K mainGlobals "are_all_rests" = some (some (.ref f8))) (l8 : K.lookup f8 = some ⟨oc8, od8, .func (PySem.W.fnOf "are_all_rests" "are_all_rests" (defArgs s_are_all_rests) (defBody s_are_all_rests) (defScope s_are_all_rests) .none kV8 dc8 pm8 an8 cd8 ct8), sl8⟩) (c8 : PySem.W.codeIn K cd8 "are_all_rests" = true) (k8 : PySem.W.keepIn K (.ref f8) = true) (a9 : PySem.W.nsIn K mainGlobals "is_table_in" = some (some (.ref f9))) (l9 : K.lookup f9 = some ⟨oc9, od9, .func (PySem.W.fnOf "is_table_in" "is_table_in" (defArgs s_is_table_in) (defBody s_is_table_in) (defScope s_is_table_in) .none kV9 dc9 pm9 an9 cd9 ct9), sl9⟩) (c9 : PySem.W.codeIn K cd9 "is_table_in" = true) (k9 : PySem.W.keepIn K (.ref f9) = true) (a10 : PySem.W.nsIn K mainGlobals "need_table" = some (some (.ref f10))) (l10 : K.lookup f10 = some ⟨oc10, od10, .func (PySem.W.fnOf "need_table" "need_table" (defArgs s_need_table) (defBody s_need_table) (defScope s_need_table) .none kV10 dc10 pm10 an10 cd10 ct10), sl10⟩) (c10 : PySem.W.codeIn K cd10 "need_table" = true) (k10 : PySem.W.keepIn K (.ref f10) = true) (a11 : PySem.W.nsIn K mainGlobals "need_point" = some (some (.ref f11))) (l11 : K.lookup f11 = some ⟨oc11, od11, .func (PySem.W.fnOf "need_point" "need_point" (defArgs s_need_point) (defBody s_need_point) (defScope s_need_point) .none kV11 dc11 pm11 an11 cd11 ct11), sl11⟩) (c11 : PySem.W.codeIn K cd11 "need_point" = true) (k11 : PySem.W.keepIn K (.ref f11) = true) (a12 : PySem.W.nsIn K mainGlobals "letters_of" = some (some (.ref f12))) (l12 : K.lookup f12 = some ⟨oc12, od12, .func (PySem.W.fnOf "letters_of" "letters_of" (defArgs s_letters_of) (defBody s_letters_of) (defScope s_letters_of) .none kV12 dc12 pm12 an12 cd12 ct12), sl12⟩) (c12 : PySem.W.codeIn K cd12 "letters_of" = true) (k12 : PySem.W.keepIn K (.ref f12) = true) (a13 : PySem.W.nsIn K mainGlobals "weight_in" = some (some (.ref f13))) (l13 : K.lookup f13 = some ⟨oc13, od13, .func (PySem.W.fnOf "weight_in" "weight_in" (defArgs s_weight_in) (defBody s_weight_in) (defScope s_weight_in) .none kV13 dc13 pm13 an13 cd13 ct13), sl13⟩) (c13 : PySem.W.codeIn K cd13 "weight_in" = true) (k13 : PySem.W.keepIn K (.ref f13) = true) (a14 : PySem.W.nsIn K mainGlobals "corner_weight" = some (some (.ref f14))) (l14 : K.lookup f14 = some ⟨oc14, od14, .func (PySem.W.fnOf "corner_weight" "corner_weight" (defArgs s_corner_weight) (defBody s_corner_weight) (defScope s_corner_weight) .none kV14 dc14 pm14 an14 cd14 ct14), sl14⟩) (c14 : PySem.W.codeIn K cd14 "corner_weight" = true) (k14 : PySem.W.keepIn K (.ref f14) = true) (a15 : PySem.W.nsIn K mainGlobals "folded_in" = some (some (.ref f15))) (l15 : K.lookup f15 = some ⟨oc15, od15, .func (PySem.W.fnOf "folded_in" "folded_in" (defArgs s_folded_in) (defBody s_folded_in) (defScope s_folded_in) .none kV15 dc15 pm15 an15 cd15 ct15), sl15⟩) (c15 : PySem.W.codeIn K cd15 "folded_in" = true) (k15 : PySem.W.keepIn K (.ref f15) = true) (a16 : PySem.W.nsIn K mainGlobals "many_in" = some (some (.ref f16))) (l16 : K.lookup f16 = some ⟨oc16, od16, .func (PySem.W.fnOf "many_in" "many_in" (defArgs s_many_in) (defBody s_many_in) (defScope s_many_in) .none kV16 dc16 pm16 an16 cd16 ct16), sl16⟩) (c16 : PySem.W.codeIn K cd16 "many_in" = true) (k16 : PySem.W.keepIn K (.ref f16) = true) (a17 : PySem.W.nsIn K mainGlobals "worth_many" = some (some (.ref f17))) (l17 : K.lookup f17 = some ⟨oc17, od17, .func (PySem.W.fnOf "worth_many" "worth_many" (defArgs s_worth_many) (defBody s_worth_many) (defScope s_worth_many) .none kV17 dc17 pm17 an17 cd17 ct17), sl17⟩) (c17 : PySem.W.codeIn K cd17 "worth_many" = true) (k17 : PySem.W.keepIn K (.ref f17) = true) (a18 : PySem.W.nsIn K mainGlobals "many_sum" = some (some (.ref f18))) (l18 : K.lookup f18 = some ⟨oc18, od18, .func (PySem.W.fnOf "many_sum" "many_sum" (defArgs s_many_sum) (defBody s_many_sum) (defScope s_many_sum) .none kV18 dc18 pm18 an18 cd18 ct18), sl18⟩) (c18 : PySem.W.codeIn K cd18 "many_sum" = true) (k18 : PySem.W.keepIn K (.ref f18) = true) (a19 : PySem.W.nsIn K mainGlobals "line_in" = some (some (.ref f19))) (l19 : K.lookup f19 = some ⟨oc19, od19, .func (PySem.W.fnOf "line_in" "line_in" (defArgs s_line_in) (defBody s_line_in) (defScope s_line_in) .none kV19 dc19 pm19 an19 cd19 ct19), sl19⟩) (c19 : PySem.W.codeIn K cd19 "line_in" = true) (k19 : PySem.W.keepIn K (.ref f19) = true) (a20 : PySem.W.nsIn K mainGlobals "line_point" = some (some (.ref f20))) (l20 : K.lookup f20 = some ⟨oc20, od20, .func (PySem.W.fnOf "line_point" "line_point" (defArgs s_line_point) (defBody s_line_point) (defScope s_line_point) .none kV20 dc20 pm20 an20 cd20 ct20), sl20⟩) (c20 : PySem.W.codeIn K cd20 "line_point" = true) (k20 : PySem.W.keepIn K (.ref f20) = true) (a21 : PySem.W.nsIn K mainGlobals "along_in" = some (some (.ref f21))) (l21 : K.lookup f21 = some ⟨oc21, od21, .func (PySem.W.fnOf "along_in" "along_in" (defArgs s_along_in) (defBody s_along_in) (defScope s_along_in) .none kV21 dc21 pm21 an21 cd21 ct21), sl21⟩) (c21 : PySem.W.codeIn K cd21 "along_in" = true) (k21 : PySem.W.keepIn K (.ref f21) = true) (a22 : PySem.W.nsIn K mainGlobals "along_line" = some (some (.ref f22))) (l22 : K.lookup f22 = some ⟨oc22, od22, .func (PySem.W.fnOf "along_line" "along_line" (defArgs s_along_line) (defBody s_along_line) (defScope s_along_line) .none kV22 dc22 pm22 an22 cd22 ct22), sl22⟩) (c22 : PySem.W.codeIn K cd22 "along_line" = true) (k22 : PySem.W.keepIn K (.ref f22) = true) (a23 : PySem.W.nsIn K mainGlobals "noughts_in" = some (some (.ref f23))) (l23 : K.lookup f23 = some ⟨oc23, od23, .func (PySem.W.fnOf "noughts_in" "noughts_in" (defArgs s_noughts_in) (defBody s_noughts_in) (defScope s_noughts_in) .none kV23 dc23 pm23 an23 cd23 ct23), sl23⟩) (c23 : PySem.W.codeIn K cd23 "noughts_in" = true) (k23 : PySem.W.keepIn K (.ref f23) = true) (a24 : PySem.W.nsIn K mainGlobals "noughts_of" = some (some (.ref f24))) (l24 : K.lookup f24 = some ⟨oc24, od24, .func (PySem.W.fnOf "noughts_of" "noughts_of" (defArgs s_noughts_of) (defBody s_noughts_of) (defScope s_noughts_of) .none kV24 dc24 pm24 an24 cd24 ct24), sl24⟩) (c24 : PySem.W.codeIn K cd24 "noughts_of" = true) (k24 : PySem.W.keepIn K (.ref f24) = true) (a25 : PySem.W.nsIn K mainGlobals "_law_pen" = some (some (.ref f25))) (l25 : K.lookup f25 = some ⟨oc25, od25, .func (PySem.W.fnOf "_law_pen" "_law_pen" (defArgs s__law_pen) (defBody s__law_pen) (defScope s__law_pen) .none kV25 dc25 pm25 an25 cd25 ct25), sl25⟩) (c25 : PySem.W.codeIn K cd25 "_law_pen" = true) (k25 : PySem.W.keepIn K (.ref f25) = true) (a26 : PySem.W.nsIn K mainGlobals "_law_draw" = some (some (.ref f26))) (l26 : K.lookup f26 = some ⟨oc26, od26, .func (PySem.W.fnOf "_law_draw" "_law_draw" (defArgs s__law_draw) (defBody s__law_draw) (defScope s__law_draw) .none kV26 dc26 pm26 an26 cd26 ct26), sl26⟩) (c26 : PySem.W.codeIn K cd26 "_law_draw" = true) (k26 : PySem.W.keepIn K (.ref f26) = true) (a27 : PySem.W.nsIn K mainGlobals "_law_pick" = some (some (.ref f27))) (l27 : K.lookup f27 = some ⟨oc27, od27, .func (PySem.W.fnOf "_law_pick" "_law_pick" (defArgs s__law_pick) (defBody s__law_pick) (defScope s__law_pick) .none kV27 dc27 pm27 an27 cd27 ct27), sl27⟩) (c27 : PySem.W.codeIn K cd27 "_law_pick" = true) (k27 : PySem.W.keepIn K (.ref f27) = true) (a28 : PySem.W.nsIn K mainGlobals "_law_row" = some (some (.ref f28))) (l28 : K.lookup f28 = some ⟨oc28, od28, .func (PySem.W.fnOf "_law_row" "_law_row" (defArgs s__law_row) (defBody s__law_row) (defScope s__law_row) .none kV28 dc28 pm28 an28 cd28 ct28), sl28⟩) (c28 : PySem.W.codeIn K cd28 "_law_row" = true) (k28 : PySem.W.keepIn K (.ref f28) = true) (a29 : PySem.W.nsIn K mainGlobals "_law_raised" = some (some (.ref f29))) (l29 : K.lookup f29 = some ⟨oc29, od29, .func (PySem.W.fnOf "_law_raised" "_law_raised" (defArgs s__law_raised) (defBody s__law_raised) (defScope s__law_raised) .none kV29 dc29 pm29 an29 cd29 ct29), sl29⟩) (c29 : PySem.W.codeIn K cd29 "_law_raised" = true) (k29 : PySem.W.keepIn K (.ref f29) = true) (a30 : PySem.W.nsIn K mainGlobals "_law_products_right" = some (some (.ref f30))) (l30 : K.lookup f30 = some ⟨oc30, od30, .func (PySem.W.fnOf "_law_products_right" "_law_products_right" (defArgs s__law_products_right) (defBody s__law_products_right) (defScope s__law_products_right) .none kV30 dc30 pm30 an30 cd30 ct30), sl30⟩) (c30 : PySem.W.codeIn K cd30 "_law_products_right" = true) (k30 : PySem.W.keepIn K (.ref f30) = true) (a31 : PySem.W.nsIn K mainGlobals "_law_bound_right" = some (some (.ref f31))) (l31 : K.lookup f31 = some ⟨oc31, od31, .func (PySem.W.fnOf "_law_bound_right" "_law_bound_right" (defArgs s__law_bound_right) (defBody s__law_bound_right) (defScope s__law_bound_right) .none kV31 dc31 pm31 an31 cd31 ct31), sl31⟩) (c31 : PySem.W.codeIn K cd31 "_law_bound_right" = true) (k31 : PySem.W.keepIn K (.ref f31) = true) (a32 : PySem.W.nsIn K mainGlobals "_law_sums_right" = some (some (.ref f32))) (l32 : K.lookup f32 = some ⟨oc32, od32, .func (PySem.W.fnOf "_law_sums_right" "_law_sums_right" (defArgs s__law_sums_right) (defBody s__law_sums_right) (defScope s__law_sums_right) .none kV32 dc32 pm32 an32 cd32 ct32), sl32⟩) (c32 : PySem.W.codeIn K cd32 "_law_sums_right" = true) (k32 : PySem.W.keepIn K (.ref f32) = true) (a33 : PySem.W.nsIn K mainGlobals "law" = some (some (.ref f33))) (l33 : K.lookup f33 = some ⟨oc33, od33, .func (PySem.W.fnOf "law" "law" (defArgs s_law) (defBody s_law) (defScope s_law) .none kV33 dc33 pm33 an33 cd33 ct33), sl33⟩) (c33 : PySem.W.codeIn K cd33 "law" = true) (k33 : PySem.W.keepIn K (.ref f33) = true) : Txt K mg where
  z_isinstance := PySem.W.mg_none_of X G z_isinstance
  z_int := PySem.W.mg_none_of X G z_int
  z_bool := PySem.W.mg_none_of X G z_bool
  z_range := PySem.W.mg_none_of X G z_range
  z_tuple := PySem.W.mg_none_of X G z_tuple
  z_all := PySem.W.mg_none_of X G z_all
  z_len := PySem.W.mg_none_of X G z_len
  z_sum := PySem.W.mg_none_of X G z_sum
  z_zip := PySem.W.mg_none_of X G z_zip
  z_list := PySem.W.mg_none_of X G z_list
  c_MOST := ⟨u_MOST, PySem.W.mg_of X G c_MOST⟩
  d_is_whole := at_mk X G a0 l0 c0 k0
  d_is_count := at_mk X G a1 l1 c1 k1
  d_is_prime := at_mk X G a2 l2 c2 k2
  d_need_prime := at_mk X G a3 l3 c3 k3
  d_is_rest_in := at_mk X G a4 l4 c4 k4
  d_need_rests := at_mk X G a5 l5 c5 k5
  d_doubled := at_mk X G a6 l6 c6 k6
  d_letters_in := at_mk X G a7 l7 c7 k7
  d_are_all_rests := at_mk X G a8 l8 c8 k8
  d_is_table_in := at_mk X G a9 l9 c9 k9
  d_need_table := at_mk X G a10 l10 c10 k10
  d_need_point := at_mk X G a11 l11 c11 k11
  d_letters_of := at_mk X G a12 l12 c12 k12
  d_weight_in := at_mk X G a13 l13 c13 k13
  d_corner_weight := at_mk X G a14 l14 c14 k14
  d_folded_in := at_mk X G a15 l15 c15 k15
  d_many_in := at_mk X G a16 l16 c16 k16
  d_worth_many := at_mk X G a17 l17 c17 k17
  d_many_sum := at_mk X G a18 l18 c18 k18
  d_line_in := at_mk X G a19 l19 c19 k19
  d_line_point := at_mk X G a20 l20 c20 k20
  d_along_in := at_mk X G a21 l21 c21 k21
  d_along_line := at_mk X G a22 l22 c22 k22
  d_noughts_in := at_mk X G a23 l23 c23 k23
  d_noughts_of := at_mk X G a24 l24 c24 k24
  d__law_pen := at_mk X G a25 l25 c25 k25
  d__law_draw := at_mk X G a26 l26 c26 k26
  d__law_pick := at_mk X G a27 l27 c27 k27
  d__law_row := at_mk X G a28 l28 c28 k28
  d__law_raised := at_mk X G a29 l29 c29 k29
  d__law_products_right := at_mk X G a30 l30 c30 k30
  d__law_bound_right := at_mk X G a31 l31 c31 k31
  d__law_sums_right := at_mk X G a32 l32 c32 k32
  d_law := at_mk X G a33 l33 c33 k33
theorem fin_mk {P : Program} {w : World} {K : PySem.W.Frag} {h : Heap} {mg : Str → Option Value} {fa : Addr} (X : K.In h) (G : h.Ns mainGlobals mg) (hfa : mg "law" = some (.ref fa)) (hg : ∀ ns : List Int, ns.length ≤ 63 → ∃ M, f_law [.lst (ns.map T.int)] [] = .ok (.bl true) M) {f0 f1 f2 f3 f4 f5 f6 f7 f8 f9 f10 f11 f12 f13 f14 f15 f16 f17 f18 f19 f20 f21 f22 f23 f24 f25 f26 f27 f28 f29 f30 f31 f32 f33 : Addr} {od0 od1 od2 od3 od4 od5 od6 od7 od8 od9 od10 od11 od12 od13 od14 od15 od16 od17 od18 od19 od20 od21 od22 od23 od24 od25 od26 od27 od28 od29 od30 od31 od32 od33 an0 an1 an2 an3 an4 an5 an6 an7 an8 an9 an10 an11 an12 an13 an14 an15 an16 an17 an18 an19 an20 an21 an22 an23 an24 an25 an26 an27 an28 an29 an30 an31 an32 an33 : Option Addr} {sl0 sl1 sl2 sl3 sl4 sl5 sl6 sl7 sl8 sl9 sl10 sl11 sl12 sl13 sl14 sl15 sl16 sl17 sl18 sl19 sl20 sl21 sl22 sl23 sl24 sl25 sl26 sl27 sl28 sl29 sl30 sl31 sl32 sl33 : Array (Option Value)} {oc0 oc1 oc2 oc3 oc4 oc5 oc6 oc7 oc8 oc9 oc10 oc11 oc12 oc13 oc14 oc15 oc16 oc17 oc18 oc19 oc20 oc21 oc22 oc23 oc24 oc25 oc26 oc27 oc28 oc29 oc30 oc31 oc32 oc33 kV0 kV1 kV2 kV3 kV4 kV5 kV6 kV7 kV8 kV9 kV10 kV11 kV12 kV13 kV14 kV15 kV16 kV17 kV18 kV19 kV20 kV21 kV22 kV23 kV24 kV25 kV26 kV27 kV28 kV29 kV30 kV31 kV32 kV33 dc0 dc1 dc2 dc3 dc4 dc5 dc6 dc7 dc8 dc9 dc10 dc11 dc12 dc13 dc14 dc15 dc16 dc17 dc18 dc19 dc20 dc21 dc22 dc23 dc24 dc25 dc26 dc27 dc28 dc29 dc30 dc31 dc32 dc33 pm0 pm1 pm2 pm3 pm4 pm5 pm6 pm7 pm8 pm9 pm10 pm11 pm12 pm13 pm14 pm15 pm16 pm17 pm18 pm19 pm20 pm21 pm22 pm23 pm24 pm25 pm26 pm27 pm28 pm29 pm30 pm31 pm32 pm33 cd0 cd1 cd2 cd3 cd4 cd5 cd6 cd7 cd8 cd9 cd10 cd11 cd12 cd13 cd14 cd15 cd16 cd17 cd18 cd19 cd20 cd21 cd22 cd23 cd24 cd25 cd26 cd27 cd28 cd29 cd30 cd31 cd32 cd33 ct0 ct1 ct2 ct3 ct4 ct5 ct6 ct7 ct8 ct9 ct10 ct11 ct12 ct13 ct14 ct15 ct16 ct17 ct18 ct19 ct20 ct21 ct22 ct23 ct24 ct25 ct26 ct27 ct28 ct29 ct30 ct31 ct32 ct33 : Value} {u_MOST : Tok} (z_isinstance : PySem.W.nsIn K mainGlobals "isinstance" = some none) (z_int : PySem.W.nsIn K mainGlobals "int" = some none) (z_bool : PySem.W.nsIn K mainGlobals "bool" = some none) (z_range : PySem.W.nsIn K mainGlobals "range" = some none) (z_tuple : PySem.W.nsIn K mainGlobals "tuple" = some none) (z_all : PySem.W.nsIn K mainGlobals "all" = some none) (z_len : PySem.W.nsIn K mainGlobals "len" = some none) (z_sum : PySem.W.nsIn K mainGlobals "sum" = some none) (z_zip : PySem.W.nsIn K mainGlobals "zip" = some none) (z_list : PySem.W.nsIn K mainGlobals "list" = some none) (c_MOST : PySem.W.nsIn K mainGlobals "MOST" = some (some (.int 999999937 u_MOST))) (a0 : PySem.W.nsIn K mainGlobals "is_whole" = some (some (.ref f0))) (l0 : K.lookup f0 = some ⟨oc0, od0, .func (PySem.W.fnOf "is_whole" "is_whole" (defArgs s_is_whole) (defBody s_is_whole) (defScope s_is_whole) .none kV0 dc0 pm0 an0 cd0 ct0), sl0⟩) (c0 : PySem.W.codeIn K cd0 "is_whole" = true) (k0 : PySem.W.keepIn K (.ref f0) = true) (a1 : PySem.W.nsIn K mainGlobals "is_count" = some (some (.ref f1))) (l1 : K.lookup f1 = some ⟨oc1, od1, .func (PySem.W.fnOf "is_count" "is_count" (defArgs s_is_count) (defBody s_is_count) (defScope s_is_count) .none kV1 dc1 pm1 an1 cd1 ct1), sl1⟩) (c1 : PySem.W.codeIn K cd1 "is_count" = true) (k1 : PySem.W.keepIn K (.ref f1) = true) (a2 : PySem.W.nsIn K mainGlobals "is_prime" = some (some (.ref f2))) (l2 : K.lookup f2 = some ⟨oc2, od2, .func (PySem.W.fnOf "is_prime" "is_prime" (defArgs s_is_prime) (defBody s_is_prime) (defScope s_is_prime) .none kV2 dc2 pm2 an2 cd2 ct2), sl2⟩) (c2 : PySem.W.codeIn K cd2 "is_prime" = true) (k2 : PySem.W.keepIn K (.ref f2) = true) (a3 : PySem.W.nsIn K mainGlobals "need_prime" = some (some (.ref f3))) (l3 : K.lookup f3 = some ⟨oc3, od3, .func (PySem.W.fnOf "need_prime" "need_prime" (defArgs s_need_prime) (defBody s_need_prime) (defScope s_need_prime) .none kV3 dc3 pm3 an3 cd3 ct3), sl3⟩) (c3 : PySem.W.codeIn K cd3 "need_prime" = true) (k3 : PySem.W.keepIn K (.ref f3) = true) (a4 : PySem.W.nsIn K mainGlobals "is_rest_in" = some (some (.ref f4))) (l4 : K.lookup f4 = some ⟨oc4, od4, .func (PySem.W.fnOf "is_rest_in" "is_rest_in" (defArgs s_is_rest_in) (defBody s_is_rest_in) (defScope s_is_rest_in) .none kV4 dc4 pm4 an4 cd4 ct4), sl4⟩) (c4 : PySem.W.codeIn K cd4 "is_rest_in" = true) (k4 : PySem.W.keepIn K (.ref f4) = true) (a5 : PySem.W.nsIn K mainGlobals "need_rests" = some (some (.ref f5))) (l5 : K.lookup f5 = some ⟨oc5, od5, .func (PySem.W.fnOf "need_rests" "need_rests" (defArgs s_need_rests) (defBody s_need_rests) (defScope s_need_rests) .none kV5 dc5 pm5 an5 cd5 ct5), sl5⟩) (c5 : PySem.W.codeIn K cd5 "need_rests" = true) (k5 : PySem.W.keepIn K (.ref f5) = true) (a6 : PySem.W.nsIn K mainGlobals "doubled" = some (some (.ref f6))) (l6 : K.lookup f6 = some ⟨oc6, od6, .func (PySem.W.fnOf "doubled" "doubled" (defArgs s_doubled) (defBody s_doubled) (defScope s_doubled) .none kV6 dc6 pm6 an6 cd6 ct6), sl6⟩) (c6 : PySem.W.codeIn K cd6 "doubled" = true) (k6 : PySem.W.keepIn K (.ref f6) = true) (a7 : PySem.W.nsIn K mainGlobals "letters_in" = some (some (.ref f7))) (l7 : K.lookup f7 = some ⟨oc7, od7, .func (PySem.W.fnOf "letters_in" "letters_in" (defArgs s_letters_in) (defBody s_letters_in) (defScope s_letters_in) .none kV7 dc7 pm7 an7 cd7 ct7), sl7⟩) (c7 : PySem.W.codeIn K cd7 "letters_in" = true) (k7 : PySem.W.keepIn K (.ref f7) = true) (a8 : PySem.W.nsIn K mainGlobals "are_all_rests" = some (some (.ref f8))) (l8 : K.lookup f8 = some ⟨oc8, od8, .func (PySem.W.fnOf "are_all_rests" "are_all_rests" (defArgs s_are_all_rests) (defBody s_are_all_rests) (defScope s_are_all_rests) .none kV8 dc8 pm8 an8 cd8 ct8), sl8⟩) (c8 : PySem.W.codeIn K cd8 "are_all_rests" = true) (k8 : PySem.W.keepIn K (.ref f8) = true) (a9 : PySem.W.nsIn K mainGlobals "is_table_in" = some (some (.ref f9))) (l9 : K.lookup f9 = some ⟨oc9, od9, .func (PySem.W.fnOf "is_table_in" "is_table_in" (defArgs s_is_table_in) (defBody s_is_table_in) (defScope s_is_table_in) .none kV9 dc9 pm9 an9 cd9 ct9), sl9⟩) (c9 : PySem.W.codeIn K cd9 "is_table_in" = true) (k9 : PySem.W.keepIn K (.ref f9) = true) (a10 : PySem.W.nsIn K mainGlobals "need_table" = some (some (.ref f10))) (l10 : K.lookup f10 = some ⟨oc10, od10, .func (PySem.W.fnOf "need_table" "need_table" (defArgs s_need_table) (defBody s_need_table) (defScope s_need_table) .none kV10 dc10 pm10 an10 cd10 ct10), sl10⟩) (c10 : PySem.W.codeIn K cd10 "need_table" = true) (k10 : PySem.W.keepIn K (.ref f10) = true) (a11 : PySem.W.nsIn K mainGlobals "need_point" = some (some (.ref f11))) (l11 : K.lookup f11 = some ⟨oc11, od11, .func (PySem.W.fnOf "need_point" "need_point" (defArgs s_need_point) (defBody s_need_point) (defScope s_need_point) .none kV11 dc11 pm11 an11 cd11 ct11), sl11⟩) (c11 : PySem.W.codeIn K cd11 "need_point" = true) (k11 : PySem.W.keepIn K (.ref f11) = true) (a12 : PySem.W.nsIn K mainGlobals "letters_of" = some (some (.ref f12))) (l12 : K.lookup f12 = some ⟨oc12, od12, .func (PySem.W.fnOf "letters_of" "letters_of" (defArgs s_letters_of) (defBody s_letters_of) (defScope s_letters_of) .none kV12 dc12 pm12 an12 cd12 ct12), sl12⟩) (c12 : PySem.W.codeIn K cd12 "letters_of" = true) (k12 : PySem.W.keepIn K (.ref f12) = true) (a13 : PySem.W.nsIn K mainGlobals "weight_in" = some (some (.ref f13))) (l13 : K.lookup f13 = some ⟨oc13, od13, .func (PySem.W.fnOf "weight_in" "weight_in" (defArgs s_weight_in) (defBody s_weight_in) (defScope s_weight_in) .none kV13 dc13 pm13 an13 cd13 ct13), sl13⟩) (c13 : PySem.W.codeIn K cd13 "weight_in" = true) (k13 : PySem.W.keepIn K (.ref f13) = true) (a14 : PySem.W.nsIn K mainGlobals "corner_weight" = some (some (.ref f14))) (l14 : K.lookup f14 = some ⟨oc14, od14, .func (PySem.W.fnOf "corner_weight" "corner_weight" (defArgs s_corner_weight) (defBody s_corner_weight) (defScope s_corner_weight) .none kV14 dc14 pm14 an14 cd14 ct14), sl14⟩) (c14 : PySem.W.codeIn K cd14 "corner_weight" = true) (k14 : PySem.W.keepIn K (.ref f14) = true) (a15 : PySem.W.nsIn K mainGlobals "folded_in" = some (some (.ref f15))) (l15 : K.lookup f15 = some ⟨oc15, od15, .func (PySem.W.fnOf "folded_in" "folded_in" (defArgs s_folded_in) (defBody s_folded_in) (defScope s_folded_in) .none kV15 dc15 pm15 an15 cd15 ct15), sl15⟩) (c15 : PySem.W.codeIn K cd15 "folded_in" = true) (k15 : PySem.W.keepIn K (.ref f15) = true) (a16 : PySem.W.nsIn K mainGlobals "many_in" = some (some (.ref f16))) (l16 : K.lookup f16 = some ⟨oc16, od16, .func (PySem.W.fnOf "many_in" "many_in" (defArgs s_many_in) (defBody s_many_in) (defScope s_many_in) .none kV16 dc16 pm16 an16 cd16 ct16), sl16⟩) (c16 : PySem.W.codeIn K cd16 "many_in" = true) (k16 : PySem.W.keepIn K (.ref f16) = true) (a17 : PySem.W.nsIn K mainGlobals "worth_many" = some (some (.ref f17))) (l17 : K.lookup f17 = some ⟨oc17, od17, .func (PySem.W.fnOf "worth_many" "worth_many" (defArgs s_worth_many) (defBody s_worth_many) (defScope s_worth_many) .none kV17 dc17 pm17 an17 cd17 ct17), sl17⟩) (c17 : PySem.W.codeIn K cd17 "worth_many" = true) (k17 : PySem.W.keepIn K (.ref f17) = true) (a18 : PySem.W.nsIn K mainGlobals "many_sum" = some (some (.ref f18))) (l18 : K.lookup f18 = some ⟨oc18, od18, .func (PySem.W.fnOf "many_sum" "many_sum" (defArgs s_many_sum) (defBody s_many_sum) (defScope s_many_sum) .none kV18 dc18 pm18 an18 cd18 ct18), sl18⟩) (c18 : PySem.W.codeIn K cd18 "many_sum" = true) (k18 : PySem.W.keepIn K (.ref f18) = true) (a19 : PySem.W.nsIn K mainGlobals "line_in" = some (some (.ref f19))) (l19 : K.lookup f19 = some ⟨oc19, od19, .func (PySem.W.fnOf "line_in" "line_in" (defArgs s_line_in) (defBody s_line_in) (defScope s_line_in) .none kV19 dc19 pm19 an19 cd19 ct19), sl19⟩) (c19 : PySem.W.codeIn K cd19 "line_in" = true) (k19 : PySem.W.keepIn K (.ref f19) = true) (a20 : PySem.W.nsIn K mainGlobals "line_point" = some (some (.ref f20))) (l20 : K.lookup f20 = some ⟨oc20, od20, .func (PySem.W.fnOf "line_point" "line_point" (defArgs s_line_point) (defBody s_line_point) (defScope s_line_point) .none kV20 dc20 pm20 an20 cd20 ct20), sl20⟩) (c20 : PySem.W.codeIn K cd20 "line_point" = true) (k20 : PySem.W.keepIn K (.ref f20) = true) (a21 : PySem.W.nsIn K mainGlobals "along_in" = some (some (.ref f21))) (l21 : K.lookup f21 = some ⟨oc21, od21, .func (PySem.W.fnOf "along_in" "along_in" (defArgs s_along_in) (defBody s_along_in) (defScope s_along_in) .none kV21 dc21 pm21 an21 cd21 ct21), sl21⟩) (c21 : PySem.W.codeIn K cd21 "along_in" = true) (k21 : PySem.W.keepIn K (.ref f21) = true) (a22 : PySem.W.nsIn K mainGlobals "along_line" = some (some (.ref f22))) (l22 : K.lookup f22 = some ⟨oc22, od22, .func (PySem.W.fnOf "along_line" "along_line" (defArgs s_along_line) (defBody s_along_line) (defScope s_along_line) .none kV22 dc22 pm22 an22 cd22 ct22), sl22⟩) (c22 : PySem.W.codeIn K cd22 "along_line" = true) (k22 : PySem.W.keepIn K (.ref f22) = true) (a23 : PySem.W.nsIn K mainGlobals "noughts_in" = some (some (.ref f23))) (l23 : K.lookup f23 = some ⟨oc23, od23, .func (PySem.W.fnOf "noughts_in" "noughts_in" (defArgs s_noughts_in) (defBody s_noughts_in) (defScope s_noughts_in) .none kV23 dc23 pm23 an23 cd23 ct23), sl23⟩) (c23 : PySem.W.codeIn K cd23 "noughts_in" = true) (k23 : PySem.W.keepIn K (.ref f23) = true) (a24 : PySem.W.nsIn K mainGlobals "noughts_of" = some (some (.ref f24))) (l24 : K.lookup f24 = some ⟨oc24, od24, .func (PySem.W.fnOf "noughts_of" "noughts_of" (defArgs s_noughts_of) (defBody s_noughts_of) (defScope s_noughts_of) .none kV24 dc24 pm24 an24 cd24 ct24), sl24⟩) (c24 : PySem.W.codeIn K cd24 "noughts_of" = true) (k24 : PySem.W.keepIn K (.ref f24) = true) (a25 : PySem.W.nsIn K mainGlobals "_law_pen" = some (some (.ref f25))) (l25 : K.lookup f25 = some ⟨oc25, od25, .func (PySem.W.fnOf "_law_pen" "_law_pen" (defArgs s__law_pen) (defBody s__law_pen) (defScope s__law_pen) .none kV25 dc25 pm25 an25 cd25 ct25), sl25⟩) (c25 : PySem.W.codeIn K cd25 "_law_pen" = true) (k25 : PySem.W.keepIn K (.ref f25) = true) (a26 : PySem.W.nsIn K mainGlobals "_law_draw" = some (some (.ref f26))) (l26 : K.lookup f26 = some ⟨oc26, od26, .func (PySem.W.fnOf "_law_draw" "_law_draw" (defArgs s__law_draw) (defBody s__law_draw) (defScope s__law_draw) .none kV26 dc26 pm26 an26 cd26 ct26), sl26⟩) (c26 : PySem.W.codeIn K cd26 "_law_draw" = true) (k26 : PySem.W.keepIn K (.ref f26) = true) (a27 : PySem.W.nsIn K mainGlobals "_law_pick" = some (some (.ref f27))) (l27 : K.lookup f27 = some ⟨oc27, od27, .func (PySem.W.fnOf "_law_pick" "_law_pick" (defArgs s__law_pick) (defBody s__law_pick) (defScope s__law_pick) .none kV27 dc27 pm27 an27 cd27 ct27), sl27⟩) (c27 : PySem.W.codeIn K cd27 "_law_pick" = true) (k27 : PySem.W.keepIn K (.ref f27) = true) (a28 : PySem.W.nsIn K mainGlobals "_law_row" = some (some (.ref f28))) (l28 : K.lookup f28 = some ⟨oc28, od28, .func (PySem.W.fnOf "_law_row" "_law_row" (defArgs s__law_row) (defBody s__law_row) (defScope s__law_row) .none kV28 dc28 pm28 an28 cd28 ct28), sl28⟩) (c28 : PySem.W.codeIn K cd28 "_law_row" = true) (k28 : PySem.W.keepIn K (.ref f28) = true) (a29 : PySem.W.nsIn K mainGlobals "_law_raised" = some (some (.ref f29))) (l29 : K.lookup f29 = some ⟨oc29, od29, .func (PySem.W.fnOf "_law_raised" "_law_raised" (defArgs s__law_raised) (defBody s__law_raised) (defScope s__law_raised) .none kV29 dc29 pm29 an29 cd29 ct29), sl29⟩) (c29 : PySem.W.codeIn K cd29 "_law_raised" = true) (k29 : PySem.W.keepIn K (.ref f29) = true) (a30 : PySem.W.nsIn K mainGlobals "_law_products_right" = some (some (.ref f30))) (l30 : K.lookup f30 = some ⟨oc30, od30, .func (PySem.W.fnOf "_law_products_right" "_law_products_right" (defArgs s__law_products_right) (defBody s__law_products_right) (defScope s__law_products_right) .none kV30 dc30 pm30 an30 cd30 ct30), sl30⟩) (c30 : PySem.W.codeIn K cd30 "_law_products_right" = true) (k30 : PySem.W.keepIn K (.ref f30) = true) (a31 : PySem.W.nsIn K mainGlobals "_law_bound_right" = some (some (.ref f31))) (l31 : K.lookup f31 = some ⟨oc31, od31, .func (PySem.W.fnOf "_law_bound_right" "_law_bound_right" (defArgs s__law_bound_right) (defBody s__law_bound_right) (defScope s__law_bound_right) .none kV31 dc31 pm31 an31 cd31 ct31), sl31⟩) (c31 : PySem.W.codeIn K cd31 "_law_bound_right" = true) (k31 : PySem.W.keepIn K (.ref f31) = true) (a32 : PySem.W.nsIn K mainGlobals "_law_sums_right" = some (some (.ref f32))) (l32 : K.lookup f32 = some ⟨oc32, od32, .func (PySem.W.fnOf "_law_sums_right" "_law_sums_right" (defArgs s__law_sums_right) (defBody s__law_sums_right) (defScope s__law_sums_right) .none kV32 dc32 pm32 an32 cd32 ct32), sl32⟩) (c32 : PySem.W.codeIn K cd32 "_law_sums_right" = true) (k32 : PySem.W.keepIn K (.ref f32) = true) (a33 : PySem.W.nsIn K mainGlobals "law" = some (some (.ref f33))) (l33 : K.lookup f33 = some ⟨oc33, od33, .func (PySem.W.fnOf "law" "law" (defArgs s_law) (defBody s_law) (defScope s_law) .none kV33 dc33 pm33 an33 cd33 ct33), sl33⟩) (c33 : PySem.W.codeIn K cd33 "law" = true) (k33 : PySem.W.keepIn K (.ref f33) = true) : ∃ fd : FuncData, (∀ (s : Shared) (u : Value), BindsTo s fd ⟨[u], []⟩ [("script", u)]) ∧ ∀ base : Heap, K.In base → base.Ns mainGlobals mg → FnOk P w K mg base (L2.CX P w) 24 fa fd ["script"] (spLaw K) := by
  have T : Txt K mg := txt_mk X G z_isinstance z_int z_bool z_range z_tuple z_all z_len z_sum z_zip z_list c_MOST a0 l0 c0 k0 a1 l1 c1 k1 a2 l2 c2 k2 a3 l3 c3 k3 a4 l4 c4 k4 a5 l5 c5 k5 a6 l6 c6 k6 a7 l7 c7 k7 a8 l8 c8 k8 a9 l9 c9 k9 a10 l10 c10 k10 a11 l11 c11 k11 a12 l12 c12 k12 a13 l13 c13 k13 a14 l14 c14 k14 a15 l15 c15 k15 a16 l16 c16 k16 a17 l17 c17 k17 a18 l18 c18 k18 a19 l19 c19 k19 a20 l20 c20 k20 a21 l21 c21 k21 a22 l22 c22 k22 a23 l23 c23 k23 a24 l24 c24 k24 a25 l25 c25 k25 a26 l26 c26 k26 a27 l27 c27 k27 a28 l28 c28 k28 a29 l29 c29 k29 a30 l30 c30 k30 a31 l31 c31 k31 a32 l32 c32 k32 a33 l33 c33 k33
  exact law_fn (cal_law T) T.d_law bd_law hfa hg
end K27
end
section
open PySem PySem.W PyProof.Rows
set_option Elab.async false
set_option maxRecDepth 100000
set_option maxHeartbeats 0 in
theorem PySem.Challenge.cw_believedruns_k27_whole_noughts_known_ahe_holds : PySem.Challenge.rw_believedruns_k27_whole_noughts_known_ahe.Holds := by
  w_on; o_law; k_head; (case hw => w_witness2)
  k_fill
  refine L2.walk_of (l := PySem.Challenge.rw_believedruns_k27_whole_noughts_known_ahe) (n := 63) (k := 24) (x := "script") (CX := fun w => L2.CX PySem.Challenge.rw_believedruns_k27_whole_noughts_known_ahe.prog w) (sp := fun w => TL.spLaw _) rfl (by decide) rfl ⟨rfl, by decide, by decide⟩ (fun w h Y => PySem.W.kIn_of Y) ?F (fun _ _ a ns hl _ hS => ⟨a, ns, rfl, hS, hl, fun _ => rfl⟩) (fun _ _ _ _ _ h => TL.cx_no h)
  case F =>
    intro w mg fa h KX G hmg
    refine' K27.fin_mk KX G hmg K27.law_true ?z_isinstance ?z_int ?z_bool ?z_range ?z_tuple ?z_all ?z_len ?z_sum ?z_zip ?z_list ?c_MOST ?a0 ?l0 ?c0 ?k0 ?a1 ?l1 ?c1 ?k1 ?a2 ?l2 ?c2 ?k2 ?a3 ?l3 ?c3 ?k3 ?a4 ?l4 ?c4 ?k4 ?a5 ?l5 ?c5 ?k5 ?a6 ?l6 ?c6 ?k6 ?a7 ?l7 ?c7 ?k7 ?a8 ?l8 ?c8 ?k8 ?a9 ?l9 ?c9 ?k9 ?a10 ?l10 ?c10 ?k10 ?a11 ?l11 ?c11 ?k11 ?a12 ?l12 ?c12 ?k12 ?a13 ?l13 ?c13 ?k13 ?a14 ?l14 ?c14 ?k14 ?a15 ?l15 ?c15 ?k15 ?a16 ?l16 ?c16 ?k16 ?a17 ?l17 ?c17 ?k17 ?a18 ?l18 ?c18 ?k18 ?a19 ?l19 ?c19 ?k19 ?a20 ?l20 ?c20 ?k20 ?a21 ?l21 ?c21 ?k21 ?a22 ?l22 ?c22 ?k22 ?a23 ?l23 ?c23 ?k23 ?a24 ?l24 ?c24 ?k24 ?a25 ?l25 ?c25 ?k25 ?a26 ?l26 ?c26 ?k26 ?a27 ?l27 ?c27 ?k27 ?a28 ?l28 ?c28 ?k28 ?a29 ?l29 ?c29 ?k29 ?a30 ?l30 ?c30 ?k30 ?a31 ?l31 ?c31 ?k31 ?a32 ?l32 ?c32 ?k32 ?a33 ?l33 ?c33 ?k33
    (case z_isinstance => k_is)
    (case z_int => k_is)
    (case z_bool => k_is)
    (case z_range => k_is)
    (case z_tuple => k_is)
    (case z_all => k_is)
    (case z_len => k_is)
    (case z_sum => k_is)
    (case z_zip => k_is)
    (case z_list => k_is)
    (case c_MOST => k_is)
    (case a0 => k_is)
    (case l0 => k_is)
    (case c0 => k_is)
    (case k0 => k_is)
    (case a1 => k_is)
    (case l1 => k_is)
    (case c1 => k_is)
    (case k1 => k_is)
    (case a2 => k_is)
    (case l2 => k_is)
    (case c2 => k_is)
    (case k2 => k_is)
    (case a3 => k_is)
    (case l3 => k_is)
    (case c3 => k_is)
    (case k3 => k_is)
    (case a4 => k_is)
    (case l4 => k_is)
    (case c4 => k_is)
    (case k4 => k_is)
    (case a5 => k_is)
    (case l5 => k_is)
    (case c5 => k_is)
    (case k5 => k_is)
    (case a6 => k_is)
    (case l6 => k_is)
    (case c6 => k_is)
    (case k6 => k_is)
    (case a7 => k_is)
    (case l7 => k_is)
    (case c7 => k_is)
    (case k7 => k_is)
    (case a8 => k_is)
    (case l8 => k_is)
    (case c8 => k_is)
    (case k8 => k_is)
    (case a9 => k_is)
    (case l9 => k_is)
    (case c9 => k_is)
    (case k9 => k_is)
    (case a10 => k_is)
    (case l10 => k_is)
    (case c10 => k_is)
    (case k10 => k_is)
    (case a11 => k_is)
    (case l11 => k_is)
    (case c11 => k_is)
    (case k11 => k_is)
    (case a12 => k_is)
    (case l12 => k_is)
    (case c12 => k_is)
    (case k12 => k_is)
    (case a13 => k_is)
    (case l13 => k_is)
    (case c13 => k_is)
    (case k13 => k_is)
    (case a14 => k_is)
    (case l14 => k_is)
    (case c14 => k_is)
    (case k14 => k_is)
    (case a15 => k_is)
    (case l15 => k_is)
    (case c15 => k_is)
    (case k15 => k_is)
    (case a16 => k_is)
    (case l16 => k_is)
    (case c16 => k_is)
    (case k16 => k_is)
    (case a17 => k_is)
    (case l17 => k_is)
    (case c17 => k_is)
    (case k17 => k_is)
    (case a18 => k_is)
    (case l18 => k_is)
    (case c18 => k_is)
    (case k18 => k_is)
    (case a19 => k_is)
    (case l19 => k_is)
    (case c19 => k_is)
    (case k19 => k_is)
    (case a20 => k_is)
    (case l20 => k_is)
    (case c20 => k_is)
    (case k20 => k_is)
    (case a21 => k_is)
    (case l21 => k_is)
    (case c21 => k_is)
    (case k21 => k_is)
    (case a22 => k_is)
    (case l22 => k_is)
    (case c22 => k_is)
    (case k22 => k_is)
    (case a23 => k_is)
    (case l23 => k_is)
    (case c23 => k_is)
    (case k23 => k_is)
    (case a24 => k_is)
    (case l24 => k_is)
    (case c24 => k_is)
    (case k24 => k_is)
    (case a25 => k_is)
    (case l25 => k_is)
    (case c25 => k_is)
    (case k25 => k_is)
    (case a26 => k_is)
    (case l26 => k_is)
    (case c26 => k_is)
    (case k26 => k_is)
    (case a27 => k_is)
    (case l27 => k_is)
    (case c27 => k_is)
    (case k27 => k_is)
    (case a28 => k_is)
    (case l28 => k_is)
    (case c28 => k_is)
    (case k28 => k_is)
    (case a29 => k_is)
    (case l29 => k_is)
    (case c29 => k_is)
    (case k29 => k_is)
    (case a30 => k_is)
    (case l30 => k_is)
    (case c30 => k_is)
    (case k30 => k_is)
    (case a31 => k_is)
    (case l31 => k_is)
    (case c31 => k_is)
    (case k31 => k_is)
    (case a32 => k_is)
    (case l32 => k_is)
    (case c32 => k_is)
    (case k32 => k_is)
    (case a33 => k_is)
    (case l33 => k_is)
    (case c33 => k_is)
    (case k33 => k_is)
end
