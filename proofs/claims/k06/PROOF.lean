import PyProof.Rows.All
import Wide.All
import OpenK.AllK
import Wide.FinOn
import HandS.ForMost
import HandS.Exc
import HandS.ExcOwn
import HandS.ExcInit
import HandS.TryMany
import HandS.TryOnly
import HandS.CallSlots
import HandS.Walk
import HandS.Defaults
import HandS.TupAny
import HandS.Wide
import HandS.IsInst
import HandS.Flow
import HandS.RaiseMore
import HandS.Iter
import HandS.WordsExc
import HandS.SortInts
import HandS.WordsDict
import KE.SortData
import KE.DataMinMax
import HandS.SortKw
import HandS.SetFor
import HandS.Set
import HandS.Strs
import HandS.Base
import HandS.Call
import HandS.Ends
import HandS.More
import HandS.Words
import HandS.Head0
import HandS.Head1
import HandS.Head2
import HandS.HeadEnd
import HandS.HeadHook1
import HandS.HeadHook2
import PySem.Challenge.RW_pikeroll_k06_what_holds_on_a_day
set_option Elab.async false
set_option linter.all false
set_option maxRecDepth 100000
set_option maxHeartbeats 4000000
/-! DLa: frozen trees, words, mutable objects, their places in the tracked heap; what a run hands back. -/
namespace DL
open PySem PySem.Spec PyProof.Rows L2

abbrev St := L2.St
inductive T where
  | non | bl (b : Bool) | int (i : Int) | str (x : Str)
  | tup (xs : List T) | ktup (xs : List T) | lst (xs : List T) | scr (xs : List Int)
  | dct (kvs : List (Key × T)) | dcT (kvs : List (List Key × T)) | gdc (kvs : List (Str × T))
  | set (xs : List Int) | ins (c : Str) (fs : List (Str × T))
inductive Wd where
  | v (t : T) | ref (n : Nat)
inductive Ob where
  | lst (ws : List Wd) | dct (kvs : List (Key × Wd)) | dcT (kvs : List (List Key × Wd)) | ins (c : Str) (fs : List (Str × Wd)) | hid
abbrev Sto := List Ob
/-- the places of our objects; what is being made -/
structure Io where
  pl : List (Option Addr)
  pv : List Addr
abbrev Ev := List (Option Wd)
structure Exn where
  cls : Str
  fs : List (Str × T)
inductive R (α : Type) where
  | ok (a : α) (st : Sto) | exc (x : Exn) (st : Sto) | bad
def R.bind {α β : Type} (r : R α) (f : α → Sto → R β) : R β := match r with
  | .ok a st => f a st
  | .exc x st => .exc x st
  | .bad => .bad
abbrev MF := List Wd → Sto → R Wd
@[simp] theorem R.bind_ok {α β : Type} (a : α) (st : Sto) (f : α → Sto → R β) : (R.ok a st).bind f = f a st := rfl
@[simp] theorem R.bind_exc {α β : Type} (x : Exn) (st : Sto) (f : α → Sto → R β) : (R.exc x st : R α).bind f = .exc x st := rfl
@[simp] theorem R.bind_bad {α β : Type} (f : α → Sto → R β) : (R.bad : R α).bind f = .bad := rfl

/-- the written part and the text's own classes -/
structure Gc where
  K : PySem.W.Frag
  cl : Str → Option Addr

def InI (ι : Io) (a : Addr) : Prop := some a ∈ ι.pl ∨ a ∈ ι.pv
def Io.add (ι : Io) (p : Addr) : Io := ⟨ι.pl ++ [some p], ι.pv⟩
def Io.prv (ι : Io) (p : Addr) : Io := ⟨ι.pl, p :: ι.pv⟩

/-- a tuple of the written part -/
def WTup (K : PySem.W.Frag) (a : Addr) (xs : List V) : Prop :=
  ∃ (o : Obj) (its : Array Value) (n : Nat), K.lookup a = some o ∧ o.cls = .type "tuple" ∧ o.data = .seq its n ∧ its.size ≤ sizeLine ∧ Vals xs its.toList

/-- a list of the written part -/
def WLst (K : PySem.W.Frag) (a : Addr) (xs : List V) : Prop :=
  ∃ (o : Obj) (its : Array Value) (n : Nat), K.lookup a = some o ∧ o.cls = .type "list" ∧ o.dict = none ∧ o.data = .seq its n ∧ its.size ≤ sizeLine ∧ Vals xs its.toList
/-- the script -/
def ScrAt (K : PySem.W.Frag) (ι : Io) (H : Hp) (a : Addr) (ns : List Int) : Prop := ((∃ o, H a = some (.frz o (.lst (ns.map V.int)))) ∧ ¬ InI ι a) ∨ WLst K a (ns.map V.int)
theorem ScrAt.sq {K : PySem.W.Frag} {ι : Io} {H : Hp} {a : Addr} {ns : List Int} (h : ScrAt K ι H a ns) : SqL K H a (ns.map V.int) := by
  rcases h with ⟨h, _⟩ | h
  · exact .inl (.inr h)
  · exact .inr h
mutual
inductive Rep (G : Gc) (ι : Io) (H : Hp) : T → V → Prop
  | non : Rep G ι H .non .non
  | bl (b : Bool) : Rep G ι H (.bl b) (.bl b)
  | int (i : Int) : Rep G ι H (.int i) (.int i)
  | str (x : Str) : Rep G ι H (.str x) (.str x)
  | tup {a : Addr} {vs : List V} {ts : List T} : H a = some (.tup vs) → ts.length ≤ sizeLine → ¬ InI ι a → Reps G ι H ts vs → Rep G ι H (.tup ts) (.ref a)
  | tupK {a : Addr} {vs : List V} {ts : List T} : WTup G.K a vs → Reps G ι H ts vs → Rep G ι H (.ktup ts) (.ref a)
  | lst {a : Addr} {vs : List V} {ts : List T} : H a = some (.lst vs) → ts.length ≤ sizeLine → ¬ InI ι a → Reps G ι H ts vs → Rep G ι H (.lst ts) (.ref a)
  | scr {a : Addr} {ns : List Int} : ScrAt G.K ι H a ns → ns.length ≤ 63 → Rep G ι H (.scr ns) (.ref a)
  | dct {a : Addr} {kvs : List (Key × V)} {ts : List (Key × T)} : H a = some (.dK kvs) → ts.length ≤ sizeLine → ¬ InI ι a → RepK G ι H ts kvs → Rep G ι H (.dct ts) (.ref a)
  | dcT {a : Addr} {kvs : List (List Key × V)} {ts : List (List Key × T)} : H a = some (.dT kvs) → ts.length ≤ sizeLine → ¬ InI ι a → RepKT G ι H ts kvs → Rep G ι H (.dcT ts) (.ref a)
  | ins {a C dx : Addr} {c : Str} {fs : List (Str × V)} {ts : List (Str × T)} : H a = some (.ins C dx fs) → ¬ InI ι a → G.cl c = some C → RepF G ι H ts fs → Rep G ι H (.ins c ts) (.ref a)
inductive Reps (G : Gc) (ι : Io) (H : Hp) : List T → List V → Prop
  | nil : Reps G ι H [] []
  | cons {t : T} {v : V} {ts : List T} {vs : List V} : Rep G ι H t v → Reps G ι H ts vs → Reps G ι H (t :: ts) (v :: vs)
inductive RepK (G : Gc) (ι : Io) (H : Hp) : List (Key × T) → List (Key × V) → Prop
  | nil : RepK G ι H [] []
  | cons {k : Key} {t : T} {v : V} {ts : List (Key × T)} {vs : List (Key × V)} : Rep G ι H t v → RepK G ι H ts vs → RepK G ι H ((k, t) :: ts) ((k, v) :: vs)
inductive RepKT (G : Gc) (ι : Io) (H : Hp) : List (List Key × T) → List (List Key × V) → Prop
  | nil : RepKT G ι H [] []
  | cons {k : List Key} {t : T} {v : V} {ts : List (List Key × T)} {vs : List (List Key × V)} : Rep G ι H t v → RepKT G ι H ts vs → RepKT G ι H ((k, t) :: ts) ((k, v) :: vs)
inductive RepF (G : Gc) (ι : Io) (H : Hp) : List (Str × T) → List (Str × V) → Prop
  | nil : RepF G ι H [] []
  | cons {k : Str} {t : T} {v : V} {ts : List (Str × T)} {vs : List (Str × V)} : Rep G ι H t v → RepF G ι H ts vs → RepF G ι H ((k, t) :: ts) ((k, v) :: vs)
end

/-- what stands for trees: what is not ours to change stands, new ones of ours are new -/
structure Exw (ι : Io) (H : Hp) (ι' : Io) (H' : Hp) : Prop where
  new : ∀ a, InI ι' a → InI ι a ∨ H a = none
  keep : ∀ b o, H b = some o → ¬ InI ι b → H' b = some o
/-- the heap goes on: our own objects keep their places, what is being made stands -/
structure Ext (ι : Io) (H : Hp) (ι' : Io) (H' : Hp) : Prop where
  w : Exw ι H ι' H'
  pl : ∀ (n : Nat) (a : Addr), ι.pl[n]? = some (some a) → ι'.pl[n]? = some (some a)
  pv : ι'.pv = ι.pv
  pvk : ∀ b o, b ∈ ι.pv → H b = some o → H' b = some o

theorem Exw.refl (ι : Io) (H : Hp) : Exw ι H ι H := ⟨fun _ h => .inl h, fun _ _ h _ => h⟩
theorem Ext.refl (ι : Io) (H : Hp) : Ext ι H ι H := ⟨Exw.refl ι H, fun _ _ h => h, rfl, fun _ _ _ h => h⟩
theorem Exw.tr {ι ι1 ι2 : Io} {H H1 H2 : Hp} (a : Exw ι H ι1 H1) (b : Exw ι1 H1 ι2 H2) : Exw ι H ι2 H2 := by
  refine ⟨fun x h => ?_, fun c o h n => ?_⟩
  · rcases b.new x h with h | h
    · exact a.new x h
    · by_cases hi : InI ι x
      · exact .inl hi
      · refine .inr ?_
        cases q : H x with
        | none => rfl
        | some o =>
          have z := a.keep x o q hi
          rw [h] at z; cases z
  · have n1 : ¬ InI ι1 c := fun hi => by
      rcases a.new c hi with z | z
      · exact n z
      · rw [h] at z; cases z
    exact b.keep c o (a.keep c o h n) n1
theorem Ext.tr {ι ι1 ι2 : Io} {H H1 H2 : Hp} (a : Ext ι H ι1 H1) (b : Ext ι1 H1 ι2 H2) : Ext ι H ι2 H2 :=
  ⟨a.w.tr b.w, fun n x h => b.pl n x (a.pl n x h), b.pv.trans a.pv, fun c o h q => b.pvk c o (by rw [a.pv]; exact h) (a.pvk c o h q)⟩
/-- an address that stands and is not ours stays not ours -/
theorem Exw.notIn {ι ι1 : Io} {H H1 : Hp} (a : Exw ι H ι1 H1) {b : Addr} {o : HO} (h : H b = some o) (n : ¬ InI ι b) : ¬ InI ι1 b := fun z => by
  rcases a.new b z with z | z
  · exact n z
  · rw [h] at z; cases z

theorem ScrAt.exw {K : PySem.W.Frag} {ι ι1 : Io} {H H1 : Hp} {a : Addr} {ns : List Int} (e : Exw ι H ι1 H1) (h : ScrAt K ι H a ns) : ScrAt K ι1 H1 a ns := by
  rcases h with ⟨⟨o, h⟩, n⟩ | h
  · exact .inl ⟨⟨o, e.keep _ _ h n⟩, e.notIn h n⟩
  · exact .inr h
section
variable {G : Gc} {ι ι1 : Io} {H H1 : Hp}
mutual
theorem Rep.exw (e : Exw ι H ι1 H1) : ∀ {t : T} {v : V}, Rep G ι H t v → Rep G ι1 H1 t v
  | _, _, .non => .non
  | _, _, .bl b => .bl b
  | _, _, .int i => .int i
  | _, _, .str x => .str x
  | _, _, .tup h l n r => .tup (e.keep _ _ h n) l (e.notIn h n) (Reps.exw e r)
  | _, _, .tupK h r => .tupK h (Reps.exw e r)
  | _, _, .lst h l n r => .lst (e.keep _ _ h n) l (e.notIn h n) (Reps.exw e r)
  | _, _, .scr h l => .scr (h.exw e) l
  | _, _, .dct h l n r => .dct (e.keep _ _ h n) l (e.notIn h n) (RepK.exw e r)
  | _, _, .dcT h l n r => .dcT (e.keep _ _ h n) l (e.notIn h n) (RepKT.exw e r)
  | _, _, .ins h n c r => .ins (e.keep _ _ h n) (e.notIn h n) c (RepF.exw e r)
theorem Reps.exw (e : Exw ι H ι1 H1) : ∀ {t : List T} {v : List V}, Reps G ι H t v → Reps G ι1 H1 t v
  | _, _, .nil => .nil
  | _, _, .cons a b => .cons (Rep.exw e a) (Reps.exw e b)
theorem RepK.exw (e : Exw ι H ι1 H1) : ∀ {t : List (Key × T)} {v : List (Key × V)}, RepK G ι H t v → RepK G ι1 H1 t v
  | _, _, .nil => .nil
  | _, _, .cons a b => .cons (Rep.exw e a) (RepK.exw e b)
theorem RepKT.exw (e : Exw ι H ι1 H1) : ∀ {t : List (List Key × T)} {v : List (List Key × V)}, RepKT G ι H t v → RepKT G ι1 H1 t v
  | _, _, .nil => .nil
  | _, _, .cons a b => .cons (Rep.exw e a) (RepKT.exw e b)
theorem RepF.exw (e : Exw ι H ι1 H1) : ∀ {t : List (Str × T)} {v : List (Str × V)}, RepF G ι H t v → RepF G ι1 H1 t v
  | _, _, .nil => .nil
  | _, _, .cons a b => .cons (Rep.exw e a) (RepF.exw e b)
end
theorem Rep.ext (e : Ext ι H ι1 H1) {t : T} {v : V} (r : Rep G ι H t v) : Rep G ι1 H1 t v := r.exw e.w
theorem Reps.ext (e : Ext ι H ι1 H1) {t : List T} {v : List V} (r : Reps G ι H t v) : Reps G ι1 H1 t v := r.exw e.w
theorem RepF.ext (e : Ext ι H ι1 H1) {t : List (Str × T)} {v : List (Str × V)} (r : RepF G ι H t v) : RepF G ι1 H1 t v := r.exw e.w
end
end DL

set_option Elab.async false
set_option linter.all false
set_option maxRecDepth 100000
set_option maxHeartbeats 4000000
/-! DLb: the store over the tracked heap; the judgements of expressions and statements by mirrors. -/
namespace DL
open PySem PySem.Spec PyProof.Rows L2
section
variable {G : Gc} {ι ι1 : Io} {H H1 : Hp}
def RepW (G : Gc) (ι : Io) (H : Hp) : Wd → V → Prop
  | .v t, v => Rep G ι H t v
  | .ref n, v => ∃ a : Addr, ι.pl[n]? = some (some a) ∧ v = .ref a
abbrev RepWs (G : Gc) (ι : Io) (H : Hp) : List Wd → List V → Prop := Paired (RepW G ι H)
abbrev RepWK {κ : Type} (G : Gc) (ι : Io) (H : Hp) : List (κ × Wd) → List (κ × V) → Prop := Paired fun p q => p.1 = q.1 ∧ RepW G ι H p.2 q.2
/-- our own objects keep their places -/
def PlM (ι ι1 : Io) : Prop := ∀ (n : Nat) (a : Addr), ι.pl[n]? = some (some a) → ι1.pl[n]? = some (some a)
theorem RepW.exw (e : Exw ι H ι1 H1) (p : PlM ι ι1) {w : Wd} {v : V} (r : RepW G ι H w v) : RepW G ι1 H1 w v := by
  cases w with
  | v t => exact Rep.exw e r
  | ref n =>
    obtain ⟨a, h, q⟩ := r
    exact ⟨a, p n a h, q⟩
theorem RepWs.exw (e : Exw ι H ι1 H1) (p : PlM ι ι1) {w : List Wd} {v : List V} (r : RepWs G ι H w v) : RepWs G ι1 H1 w v := Paired.mapP r fun _ _ => RepW.exw e p
theorem RepWK.exw {κ : Type} (e : Exw ι H ι1 H1) (p : PlM ι ι1) {w : List (κ × Wd)} {v : List (κ × V)} (r : RepWK G ι H w v) : RepWK G ι1 H1 w v := Paired.mapP r fun _ _ q => ⟨q.1, RepW.exw e p q.2⟩
theorem RepW.ext (e : Ext ι H ι1 H1) {w : Wd} {v : V} (r : RepW G ι H w v) : RepW G ι1 H1 w v := r.exw e.w e.pl
theorem RepWs.ext (e : Ext ι H ι1 H1) {w : List Wd} {v : List V} (r : RepWs G ι H w v) : RepWs G ι1 H1 w v := r.exw e.w e.pl
theorem RepWK.ext {κ : Type} (e : Ext ι H ι1 H1) {w : List (κ × Wd)} {v : List (κ × V)} (r : RepWK G ι H w v) : RepWK G ι1 H1 w v := RepWK.exw e.w e.pl r
theorem Reps.paired : ∀ {ts : List T} {vs : List V}, Reps G ι H ts vs → Paired (Rep G ι H) ts vs
  | _, _, .nil => .nil
  | _, _, .cons a b => .cons a (Reps.paired b)
theorem reps_of : ∀ {ts : List T} {vs : List V}, Paired (Rep G ι H) ts vs → Reps G ι H ts vs
  | _, _, .nil => .nil
  | _, _, .cons a b => .cons a (reps_of b)
theorem RepF.paired : ∀ {ts : List (Str × T)} {vs : List (Str × V)}, RepF G ι H ts vs → Paired (fun p q => p.1 = q.1 ∧ Rep G ι H p.2 q.2) ts vs
  | _, _, .nil => .nil
  | _, _, .cons a b => .cons ⟨rfl, a⟩ (RepF.paired b)
theorem repF_of : ∀ {ts : List (Str × T)} {vs : List (Str × V)}, Paired (fun p q => p.1 = q.1 ∧ Rep G ι H p.2 q.2) ts vs → RepF G ι H ts vs
  | _, _, .nil => .nil
  | (k, t) :: _, (k', v) :: _, .cons a b => by
    obtain ⟨e, a⟩ := a
    have e : k = k' := e
    subst e
    exact .cons a (repF_of b)
theorem RepK.paired : ∀ {ts : List (Key × T)} {vs : List (Key × V)}, RepK G ι H ts vs → Paired (fun p q => p.1 = q.1 ∧ Rep G ι H p.2 q.2) ts vs
  | _, _, .nil => .nil
  | _, _, .cons a b => .cons ⟨rfl, a⟩ (RepK.paired b)
theorem repK_of : ∀ {ts : List (Key × T)} {vs : List (Key × V)}, Paired (fun p q => p.1 = q.1 ∧ Rep G ι H p.2 q.2) ts vs → RepK G ι H ts vs
  | _, _, .nil => .nil
  | (k, t) :: _, (k', v) :: _, .cons a b => by
    obtain ⟨e, a⟩ := a
    have e : k = k' := e
    subst e
    exact .cons a (repK_of b)
theorem RepKT.paired : ∀ {ts : List (List Key × T)} {vs : List (List Key × V)}, RepKT G ι H ts vs → Paired (fun p q => p.1 = q.1 ∧ Rep G ι H p.2 q.2) ts vs
  | _, _, .nil => .nil
  | _, _, .cons a b => .cons ⟨rfl, a⟩ (RepKT.paired b)
theorem repKT_of : ∀ {ts : List (List Key × T)} {vs : List (List Key × V)}, Paired (fun p q => p.1 = q.1 ∧ Rep G ι H p.2 q.2) ts vs → RepKT G ι H ts vs
  | _, _, .nil => .nil
  | (k, t) :: _, (k', v) :: _, .cons a b => by
    obtain ⟨e, a⟩ := a
    have e : k = k' := e
    subst e
    exact .cons a (repKT_of b)

/-- what stands at the n-th place -/
def ObAt (G : Gc) (ι : Io) (H : Hp) (n : Nat) : Ob → Prop
  | .hid => ι.pl[n]? = some none
  | .lst ws => ∃ (a : Addr) (vs : List V), ι.pl[n]? = some (some a) ∧ H a = some (.lst vs) ∧ ws.length ≤ sizeLine ∧ RepWs G ι H ws vs
  | .dct ks => ∃ (a : Addr) (vs : List (Key × V)), ι.pl[n]? = some (some a) ∧ H a = some (.dK vs) ∧ ks.length ≤ sizeLine ∧ RepWK G ι H ks vs
  | .dcT ks => ∃ (a : Addr) (vs : List (List Key × V)), ι.pl[n]? = some (some a) ∧ H a = some (.dT vs) ∧ ks.length ≤ sizeLine ∧ RepWK G ι H ks vs
  | .ins c fs => ∃ (a C dx : Addr) (vs : List (Str × V)), ι.pl[n]? = some (some a) ∧ H a = some (.ins C dx vs) ∧ G.cl c = some C ∧ RepWK G ι H fs vs
structure RelS (G : Gc) (ι : Io) (st : Sto) (H : Hp) : Prop where
  len : ι.pl.length = st.length
  inj : ∀ (i j : Nat) (a : Addr), ι.pl[i]? = some (some a) → ι.pl[j]? = some (some a) → i = j
  at_ : ∀ (n : Nat) (o : Ob), st[n]? = some o → ObAt G ι H n o
  dis : ∀ (n : Nat) (a : Addr), ι.pl[n]? = some (some a) → a ∉ ι.pv
  pvt : ∀ a, a ∈ ι.pv → ∃ o, H a = some o
def RelE (G : Gc) (ι : Io) (H : Hp) (ρ : Ev) (σ : St) : Prop := ρ.length = σ.length ∧ ∀ (i : Nat) (w : Wd), ρ[i]? = some (some w) → ∃ v, σ[i]? = some (some v) ∧ RepW G ι H w v
theorem RelE.exw (e : Exw ι H ι1 H1) (p : PlM ι ι1) {ρ : Ev} {σ : St} (r : RelE G ι H ρ σ) : RelE G ι1 H1 ρ σ := ⟨r.1, fun i w h => let ⟨v, a, b⟩ := r.2 i w h; ⟨v, a, b.exw e p⟩⟩
theorem RelE.ext (e : Ext ι H ι1 H1) {ρ : Ev} {σ : St} (r : RelE G ι H ρ σ) : RelE G ι1 H1 ρ σ := r.exw e.w e.pl
theorem RelE.set {ρ : Ev} {σ : St} (r : RelE G ι H ρ σ) {w : Wd} {v : V} (i : Nat) (h : RepW G ι H w v) : RelE G ι H (ρ.set i (some w)) (σ.set i (some v)) := by
  refine ⟨by simp [r.1], fun j w' e => ?_⟩
  by_cases hj : i = j
  · subst hj
    by_cases hl : i < ρ.length
    · rw [List.getElem?_set_self hl] at e
      cases e
      exact ⟨v, by rw [List.getElem?_set_self (r.1 ▸ hl)], h⟩
    · rw [List.getElem?_eq_none (by simpa using hl)] at e; cases e
  · rw [List.getElem?_set_ne hj] at e
    obtain ⟨v', a, b⟩ := r.2 j w' e
    exact ⟨v', by rw [List.getElem?_set_ne hj]; exact a, b⟩
/-- forgetting a slot -/
theorem RelE.drop {ρ : Ev} {σ : St} (r : RelE G ι H ρ σ) (i : Nat) (o : Option V) : RelE G ι H (ρ.set i none) (σ.set i o) := by
  refine ⟨by simp [r.1], fun j w' e => ?_⟩
  by_cases hj : i = j
  · subst hj
    by_cases hl : i < ρ.length
    · rw [List.getElem?_set_self hl] at e; cases e
    · rw [List.getElem?_eq_none (by simpa using hl)] at e; cases e
  · rw [List.getElem?_set_ne hj] at e
    obtain ⟨v', a, b⟩ := r.2 j w' e
    exact ⟨v', by rw [List.getElem?_set_ne hj]; exact a, b⟩

theorem RelS.ob {st : Sto} {n : Nat} {o : Ob} (r : RelS G ι st H) (h : st[n]? = some o) : ObAt G ι H n o := r.at_ n o h
/-- our own objects are tracked -/
theorem RelS.there0 {st : Sto} (r : RelS G ι st H) {n : Nat} {a : Addr} (e1 : ι.pl[n]? = some (some a)) : ∃ o, H a = some o := by
  have hs : n < st.length := by rw [← r.len]; exact (List.getElem?_eq_some_iff.mp e1).1
  have e2 := List.getElem?_eq_getElem hs
  have z := r.at_ n _ e2
  revert z
  cases st[n] with
  | hid => intro z; have z : ι.pl[n]? = some none := z; rw [e1] at z; cases z
  | lst ws => intro ⟨b, vs, h1, h2, _⟩; rw [e1] at h1; cases h1; exact ⟨_, h2⟩
  | dct ws => intro ⟨b, vs, h1, h2, _⟩; rw [e1] at h1; cases h1; exact ⟨_, h2⟩
  | dcT ws => intro ⟨b, vs, h1, h2, _⟩; rw [e1] at h1; cases h1; exact ⟨_, h2⟩
  | ins c ws => intro ⟨b, C, dx, vs, h1, h2, _⟩; rw [e1] at h1; cases h1; exact ⟨_, h2⟩
theorem RelS.there {st : Sto} (r : RelS G ι st H) {a : Addr} (h : InI ι a) : ∃ o, H a = some o := by
  rcases h with h | h
  · obtain ⟨n, hn, e⟩ := List.mem_iff_getElem.mp h
    exact r.there0 (n := n) (by rw [List.getElem?_eq_getElem hn, e])
  · exact r.pvt a h
theorem RelS.notIn {st : Sto} (r : RelS G ι st H) {p : Addr} (n : H p = none) : ¬ InI ι p := fun z => by
  obtain ⟨o, h⟩ := r.there z
  rw [n] at h; cases h
theorem InI.of {n : Nat} {a : Addr} (h : ι.pl[n]? = some (some a)) : InI ι a := .inl (List.mem_of_getElem? h)

/-- all that stood stands; nothing of ours is new -/
theorem Ext.same (h : ∀ b o, H b = some o → H1 b = some o) : Ext ι H ι H1 := ⟨⟨fun _ h => .inl h, fun b o e _ => h b o e⟩, fun _ _ h => h, rfl, fun b o _ => h b o⟩
theorem upd_keeps {p : Addr} {o : HO} (n : H p = none) : ∀ b u, H b = some u → upd H p o b = some u := fun b u e => by rw [upd_ne (ne_of_none e n)]; exact e
/-- our own objects stand as they stood -/
theorem RelS.move {st : Sto} (r : RelS G ι st H) (e : Exw ι H ι1 H1) (hp : ι1.pl = ι.pl) (h : ∀ (n : Nat) a o, ι.pl[n]? = some (some a) → H a = some o → H1 a = some o) (hd : ∀ (n : Nat) a, ι.pl[n]? = some (some a) → a ∉ ι1.pv) (ht : ∀ a, a ∈ ι1.pv → ∃ o, H1 a = some o) : RelS G ι1 st H1 := by
  have p : PlM ι ι1 := fun n a q => by rw [hp]; exact q
  refine ⟨by rw [hp]; exact r.len, by rw [hp]; exact r.inj, fun n o q => ?_, by rw [hp]; exact hd, ht⟩
  have z := r.at_ n o q
  cases o with
  | hid => show ι1.pl[n]? = some none; rw [hp]; exact z
  | lst ws => obtain ⟨a, vs, h1, h2, l, h3⟩ := z; exact ⟨a, vs, p n a h1, h n a _ h1 h2, l, h3.exw e p⟩
  | dct ws => obtain ⟨a, vs, h1, h2, l, h3⟩ := z; exact ⟨a, vs, p n a h1, h n a _ h1 h2, l, RepWK.exw e p h3⟩
  | dcT ws => obtain ⟨a, vs, h1, h2, l, h3⟩ := z; exact ⟨a, vs, p n a h1, h n a _ h1 h2, l, RepWK.exw e p h3⟩
  | ins c ws => obtain ⟨a, C, dx, vs, h1, h2, hc, h3⟩ := z; exact ⟨a, C, dx, vs, p n a h1, h n a _ h1 h2, hc, RepWK.exw e p h3⟩
theorem RelS.same {st : Sto} (r : RelS G ι st H) (h : ∀ b o, H b = some o → H1 b = some o) : RelS G ι st H1 :=
  r.move (Ext.same h).w rfl (fun _ a o _ q => h a o q) r.dis fun a q => let ⟨o, z⟩ := r.pvt a q; ⟨o, h _ _ z⟩

/-- an object, by its content -/
def ObHO (G : Gc) (ι : Io) (H : Hp) : Ob → HO → Prop
  | .hid, _ => False
  | .lst ws, o => ∃ vs, o = .lst vs ∧ ws.length ≤ sizeLine ∧ RepWs G ι H ws vs
  | .dct ks, o => ∃ vs, o = .dK vs ∧ ks.length ≤ sizeLine ∧ RepWK G ι H ks vs
  | .dcT ks, o => ∃ vs, o = .dT vs ∧ ks.length ≤ sizeLine ∧ RepWK G ι H ks vs
  | .ins c fs, o => ∃ (C dx : Addr) (vs : List (Str × V)), o = .ins C dx vs ∧ G.cl c = some C ∧ RepWK G ι H fs vs
theorem ObHO.at_ {n : Nat} {a : Addr} {o : Ob} {ho : HO} (h : ObHO G ι H o ho) (e1 : ι.pl[n]? = some (some a)) (e2 : H a = some ho) : ObAt G ι H n o := by
  cases o with
  | hid => exact h.elim
  | lst ws => obtain ⟨vs, rfl, l, r⟩ := h; exact ⟨a, vs, e1, e2, l, r⟩
  | dct ws => obtain ⟨vs, rfl, l, r⟩ := h; exact ⟨a, vs, e1, e2, l, r⟩
  | dcT ws => obtain ⟨vs, rfl, l, r⟩ := h; exact ⟨a, vs, e1, e2, l, r⟩
  | ins c ws => obtain ⟨C, dx, vs, rfl, hc, r⟩ := h; exact ⟨a, C, dx, vs, e1, e2, hc, r⟩
theorem ObAt.ho {n : Nat} {a : Addr} {o : Ob} (h : ObAt G ι H n o) (e1 : ι.pl[n]? = some (some a)) : ∃ ho, H a = some ho ∧ ObHO G ι H o ho := by
  cases o with
  | hid => have h : ι.pl[n]? = some none := h; rw [e1] at h; cases h
  | lst ws => obtain ⟨b, vs, q, e, l, r⟩ := h; rw [e1] at q; cases q; exact ⟨_, e, vs, rfl, l, r⟩
  | dct ws => obtain ⟨b, vs, q, e, l, r⟩ := h; rw [e1] at q; cases q; exact ⟨_, e, vs, rfl, l, r⟩
  | dcT ws => obtain ⟨b, vs, q, e, l, r⟩ := h; rw [e1] at q; cases q; exact ⟨_, e, vs, rfl, l, r⟩
  | ins c ws => obtain ⟨b, C, dx, vs, q, e, hc, r⟩ := h; rw [e1] at q; cases q; exact ⟨_, e, C, dx, vs, rfl, hc, r⟩
theorem ObHO.ext (e : Ext ι H ι1 H1) {o : Ob} {ho : HO} (h : ObHO G ι H o ho) : ObHO G ι1 H1 o ho := by
  cases o with
  | hid => exact h.elim
  | lst ws => obtain ⟨vs, rfl, l, r⟩ := h; exact ⟨vs, rfl, l, r.ext e⟩
  | dct ws => obtain ⟨vs, rfl, l, r⟩ := h; exact ⟨vs, rfl, l, RepWK.ext e r⟩
  | dcT ws => obtain ⟨vs, rfl, l, r⟩ := h; exact ⟨vs, rfl, l, RepWK.ext e r⟩
  | ins c ws => obtain ⟨C, dx, vs, rfl, hc, r⟩ := h; exact ⟨C, dx, vs, rfl, hc, RepWK.ext e r⟩
theorem ext_app {p : Addr} {o : HO} (n : H p = none) : Ext ι H (ι.add p) (upd H p o) := by
  refine ⟨⟨fun a h => ?_, fun b u e _ => upd_keeps n b u e⟩, fun m a h => ?_, rfl, fun b u _ e => upd_keeps n b u e⟩
  · rcases h with h | h
    · rcases List.mem_append.mp h with h | h
      · exact .inl (.inl h)
      · have : a = p := by simpa using h
        rw [this]; exact .inr n
    · exact .inl (.inr h)
  · show (ι.pl ++ [some p])[m]? = some (some a)
    rw [List.getElem?_append_left (List.getElem?_eq_some_iff.mp h).1]; exact h
/-- a new object of ours -/
theorem RelS.alloc {st : Sto} {p : Addr} {o : Ob} {ho : HO} (r : RelS G ι st H) (n : H p = none) (h : ObHO G ι H o ho) : RelS G (ι.add p) (st ++ [o]) (upd H p ho) := by
  have np := r.notIn n
  have e : Ext ι H (ι.add p) (upd H p ho) := ext_app n
  have lastL : ∀ (i : Nat) (a : Addr), (ι.pl ++ [some p])[i]? = some (some a) → (i < ι.pl.length ∧ ι.pl[i]? = some (some a)) ∨ (i = ι.pl.length ∧ a = p) := fun i a q => by
    by_cases hi : i < ι.pl.length
    · rw [List.getElem?_append_left hi] at q; exact .inl ⟨hi, q⟩
    · by_cases he : i = ι.pl.length
      · subst he; simp at q; exact .inr ⟨rfl, q.symm⟩
      · rw [List.getElem?_eq_none (by simp; omega)] at q; cases q
  refine ⟨by simp [Io.add, r.len], fun i j a h1 h2 => ?_, fun m o' q => ?_, fun i a h1 h2 => ?_, fun a h => ?_⟩
  · rcases lastL i a h1 with ⟨_, q1⟩ | ⟨e1, a1⟩ <;> rcases lastL j a h2 with ⟨_, q2⟩ | ⟨e2, a2⟩
    · exact r.inj i j a q1 q2
    · exact absurd (a2 ▸ InI.of q1) np
    · exact absurd (a1 ▸ InI.of q2) np
    · rw [e1, e2]
  · by_cases hm : m < st.length
    · rw [List.getElem?_append_left hm] at q
      have z := r.at_ m o' q
      cases hh : ι.pl[m]? with
      | none => rw [List.getElem?_eq_none_iff] at hh; have := r.len; omega
      | some x =>
        cases x with
        | none =>
          cases o' with
          | hid => show (ι.pl ++ [some p])[m]? = some none; rw [List.getElem?_append_left (by rw [r.len]; exact hm)]; exact hh
          | lst ws => obtain ⟨_, _, q, _⟩ := z; rw [hh] at q; cases q
          | dct ws => obtain ⟨_, _, q, _⟩ := z; rw [hh] at q; cases q
          | dcT ws => obtain ⟨_, _, q, _⟩ := z; rw [hh] at q; cases q
          | ins c ws => obtain ⟨_, _, _, _, q, _⟩ := z; rw [hh] at q; cases q
        | some a =>
          obtain ⟨u, h1, h2⟩ := z.ho hh
          exact (h2.ext e).at_ (e.pl m a hh) (upd_keeps n _ _ h1)
    · by_cases he : m = st.length
      · subst he
        simp at q
        subst q
        exact (h.ext e).at_ (a := p) (by rw [← r.len]; simp [Io.add]) upd_same
      · rw [List.getElem?_eq_none (by simp; omega)] at q; cases q
  · rcases lastL i a h1 with ⟨_, q1⟩ | ⟨e1, a1⟩
    · exact r.dis i a q1 h2
    · rw [a1] at h2; exact np (.inr h2)
  · obtain ⟨o', z⟩ := r.pvt a h
    exact ⟨o', upd_keeps n _ _ z⟩
theorem ext_upd {a : Addr} {o : HO} (h : InI ι a) (hv : a ∉ ι.pv) : Ext ι H ι (upd H a o) := ⟨⟨fun _ h => .inl h, fun b u e n => by
  rw [upd_ne (fun z => n (by rw [z]; exact h))]; exact e⟩, fun _ _ h => h, rfl, fun b u hb e => by
  rw [upd_ne (fun z => hv (by rw [← z]; exact hb))]; exact e⟩
/-- an object of ours is changed -/
theorem RelS.write {st : Sto} {n : Nat} {a : Addr} {o : Ob} {ho : HO} (r : RelS G ι st H) (hn : ι.pl[n]? = some (some a)) (h : ObHO G ι H o ho) : RelS G ι (st.set n o) (upd H a ho) := by
  have e : Ext ι H ι (upd H a ho) := ext_upd (InI.of hn) (r.dis n a hn)
  refine ⟨by simp [r.len], r.inj, fun m o' q => ?_, r.dis, fun b hb => let ⟨u, z⟩ := r.pvt b hb; ⟨u, by rw [upd_ne (fun y => r.dis n a hn (by rw [← y]; exact hb))]; exact z⟩⟩
  by_cases hm : n = m
  · subst hm
    have hl : n < st.length := by rw [← r.len]; exact (List.getElem?_eq_some_iff.mp hn).1
    rw [List.getElem?_set_self hl] at q
    cases q
    exact (h.ext e).at_ hn upd_same
  · rw [List.getElem?_set_ne hm] at q
    have z := r.at_ m o' q
    cases hh : ι.pl[m]? with
    | none => rw [List.getElem?_eq_none_iff] at hh; have := r.len; have := (List.getElem?_eq_some_iff.mp q).1; omega
    | some x =>
      cases x with
      | none =>
        cases o' with
        | hid => exact hh
        | lst ws => obtain ⟨_, _, q, _⟩ := z; rw [hh] at q; cases q
        | dct ws => obtain ⟨_, _, q, _⟩ := z; rw [hh] at q; cases q
        | dcT ws => obtain ⟨_, _, q, _⟩ := z; rw [hh] at q; cases q
        | ins c ws => obtain ⟨_, _, _, _, q, _⟩ := z; rw [hh] at q; cases q
      | some b =>
        obtain ⟨u, h1, h2⟩ := z.ho hh
        refine (h2.ext e).at_ hh ?_
        rw [upd_ne (fun z => hm (r.inj n m b (by rw [z]; exact hn) hh))]
        exact h1
end

/-! ### what is wanted behind a run -/
/-- an exception: its class, its own dict -/
def RepX (G : Gc) (ι : Io) (H : Hp) (x : Exn) (cls : Value) (d : Option Addr) : Prop := ∃ (C D : Addr) (fs : List (Str × V)), G.cl x.cls = some C ∧ cls = .ref C ∧ d = some D ∧ H D = some (.xd fs) ∧ ¬ InI ι D ∧ RepF G ι H x.fs fs
def Post (G : Gc) (W : WX) (σ : St) (ι : Io) (H : Hp) (r : R Wd) (Q : VK) : Prop := match r with
  | .bad => False
  | .ok w st => ∀ ι' v H', Ext ι H ι' H' → RelS G ι' st H' → RepW G ι' H' w v → Q v H'
  | .exc x st => ∀ ι' H' cls d, Ext ι H ι' H' → RelS G ι' st H' → RepX G ι' H' x cls d → W cls d σ H'
def PostL (G : Gc) (W : WX) (σ : St) (ι : Io) (H : Hp) (r : R (List Wd)) (Q : List V → Hp → Prop) : Prop := match r with
  | .bad => False
  | .ok w st => ∀ ι' v H', Ext ι H ι' H' → RelS G ι' st H' → RepWs G ι' H' w v → Q v H'
  | .exc x st => ∀ ι' H' cls d, Ext ι H ι' H' → RelS G ι' st H' → RepX G ι' H' x cls d → W cls d σ H'
def PostB (G : Gc) (W : WX) (σ : St) (ι : Io) (H : Hp) (r : R Bool) (Q : Bool → Hp → Prop) : Prop := match r with
  | .bad => False
  | .ok b st => ∀ ι' H', Ext ι H ι' H' → RelS G ι' st H' → Q b H'
  | .exc x st => ∀ ι' H' cls d, Ext ι H ι' H' → RelS G ι' st H' → RepX G ι' H' x cls d → W cls d σ H'
abbrev EM := Ev → Sto → R Wd
abbrev LM := Ev → Sto → R (List Wd)
abbrev BM := Ev → Sto → R Bool
/-- e is told by m -/
def EV (X : Cx) (G : Gc) (W : WX) (e : Expr) (m : EM) : Prop := ∃ t, PE X e t ∧ ∀ ρ st σ ι H Q, RelS G ι st H → RelE G ι H ρ σ → Post G W σ ι H (m ρ st) Q → t σ H Q
def TV (X : Cx) (G : Gc) (W : WX) (e : Expr) (m : BM) : Prop := ∃ t, PT X e t ∧ ∀ ρ st σ ι H Q, RelS G ι st H → RelE G ι H ρ σ → PostB G W σ ι H (m ρ st) Q → t σ H Q
def AV (X : Cx) (G : Gc) (W : WX) (es : List Expr) (m : LM) : Prop := ∃ t, PA X es t ∧ ∀ ρ st σ ι H Q, RelS G ι st H → RelE G ι H ρ σ → PostL G W σ ι H (m ρ st) Q → t σ H Q
section
variable {G : Gc} {W : WX} {σ : St} {ι ι1 : Io} {H H1 : Hp}
theorem Post.at_ {r : R Wd} {Q : VK} (e : Ext ι H ι1 H1) (h : Post G W σ ι H r Q) : Post G W σ ι1 H1 r Q := by
  cases r with
  | bad => exact h
  | ok w st => exact fun ι' v H' e' => h ι' v H' (e.tr e')
  | exc x st => exact fun ι' H' cls d e' => h ι' H' cls d (e.tr e')
theorem PostL.at_ {r : R (List Wd)} {Q : List V → Hp → Prop} (e : Ext ι H ι1 H1) (h : PostL G W σ ι H r Q) : PostL G W σ ι1 H1 r Q := by
  cases r with
  | bad => exact h
  | ok w st => exact fun ι' v H' e' => h ι' v H' (e.tr e')
  | exc x st => exact fun ι' H' cls d e' => h ι' H' cls d (e.tr e')
theorem PostB.at_ {r : R Bool} {Q : Bool → Hp → Prop} (e : Ext ι H ι1 H1) (h : PostB G W σ ι H r Q) : PostB G W σ ι1 H1 r Q := by
  cases r with
  | bad => exact h
  | ok w st => exact fun ι' H' e' => h ι' H' (e.tr e')
  | exc x st => exact fun ι' H' cls d e' => h ι' H' cls d (e.tr e')
/-- the first part of a run: P is what is wanted behind it -/
theorem Post.first {r : R Wd} {f : Wd → Sto → R Wd} {Q P : VK} (h : Post G W σ ι H (r.bind f) Q)
    (k : ∀ w st ι' v H', Ext ι H ι' H' → RelS G ι' st H' → RepW G ι' H' w v → Post G W σ ι' H' (f w st) Q → P v H') : Post G W σ ι H r P := by
  cases r with
  | bad => exact h
  | exc x st => exact h
  | ok w st =>
    intro ι' v H' e rs rw'
    exact k w st ι' v H' e rs rw' (Post.at_ e h)
theorem Post.firstB {r : R Bool} {f : Bool → Sto → R Wd} {Q : VK} {P : Bool → Hp → Prop} (h : Post G W σ ι H (r.bind f) Q)
    (k : ∀ w st ι' H', Ext ι H ι' H' → RelS G ι' st H' → Post G W σ ι' H' (f w st) Q → P w H') : PostB G W σ ι H r P := by
  cases r with
  | bad => exact h
  | exc x st => exact h
  | ok w st =>
    intro ι' H' e rs
    exact k w st ι' H' e rs (Post.at_ e h)
theorem Post.firstL {r : R (List Wd)} {f : List Wd → Sto → R Wd} {Q : VK} {P : List V → Hp → Prop} (h : Post G W σ ι H (r.bind f) Q)
    (k : ∀ w st ι' v H', Ext ι H ι' H' → RelS G ι' st H' → RepWs G ι' H' w v → Post G W σ ι' H' (f w st) Q → P v H') : PostL G W σ ι H r P := by
  cases r with
  | bad => exact h
  | exc x st => exact h
  | ok w st =>
    intro ι' v H' e rs rw'
    exact k w st ι' v H' e rs rw' (Post.at_ e h)
theorem PostB.first {r : R Wd} {f : Wd → Sto → R Bool} {Q : Bool → Hp → Prop} {P : VK} (h : PostB G W σ ι H (r.bind f) Q)
    (k : ∀ w st ι' v H', Ext ι H ι' H' → RelS G ι' st H' → RepW G ι' H' w v → PostB G W σ ι' H' (f w st) Q → P v H') : Post G W σ ι H r P := by
  cases r with
  | bad => exact h
  | exc x st => exact h
  | ok w st =>
    intro ι' v H' e rs rw'
    exact k w st ι' v H' e rs rw' (PostB.at_ e h)
theorem PostB.firstB {r : R Bool} {f : Bool → Sto → R Bool} {Q : Bool → Hp → Prop} {P : Bool → Hp → Prop} (h : PostB G W σ ι H (r.bind f) Q)
    (k : ∀ w st ι' H', Ext ι H ι' H' → RelS G ι' st H' → PostB G W σ ι' H' (f w st) Q → P w H') : PostB G W σ ι H r P := by
  cases r with
  | bad => exact h
  | exc x st => exact h
  | ok w st =>
    intro ι' H' e rs
    exact k w st ι' H' e rs (PostB.at_ e h)
theorem PostL.first {r : R Wd} {f : Wd → Sto → R (List Wd)} {Q : List V → Hp → Prop} {P : VK} (h : PostL G W σ ι H (r.bind f) Q)
    (k : ∀ w st ι' v H', Ext ι H ι' H' → RelS G ι' st H' → RepW G ι' H' w v → PostL G W σ ι' H' (f w st) Q → P v H') : Post G W σ ι H r P := by
  cases r with
  | bad => exact h
  | exc x st => exact h
  | ok w st =>
    intro ι' v H' e rs rw'
    exact k w st ι' v H' e rs rw' (PostL.at_ e h)
theorem PostL.firstL {r : R (List Wd)} {f : List Wd → Sto → R (List Wd)} {Q P : List V → Hp → Prop} (h : PostL G W σ ι H (r.bind f) Q)
    (k : ∀ w st ι' v H', Ext ι H ι' H' → RelS G ι' st H' → RepWs G ι' H' w v → PostL G W σ ι' H' (f w st) Q → P v H') : PostL G W σ ι H r P := by
  cases r with
  | bad => exact h
  | exc x st => exact h
  | ok w st =>
    intro ι' v H' e rs rw'
    exact k w st ι' v H' e rs rw' (PostL.at_ e h)
/-- an end -/
theorem Post.now {w : Wd} {v : V} {st : Sto} {Q : VK} (h : Post G W σ ι H (.ok w st) Q) (rs : RelS G ι st H) (r : RepW G ι H w v) : Q v H := h ι v H (Ext.refl _ _) rs r
theorem Post.then_ {w : Wd} {v : V} {st : Sto} {Q : VK} (h : Post G W σ ι H (.ok w st) Q) (e : Ext ι H ι1 H1) (rs : RelS G ι1 st H1) (r : RepW G ι1 H1 w v) : Q v H1 := h ι1 v H1 e rs r
end
end DL

set_option Elab.async false
set_option linter.all false
set_option maxRecDepth 100000
set_option maxHeartbeats 4000000
/-! DLc: names, constants, operators, comparisons, and | or | not, displays. -/
namespace DL
open PySem PySem.Spec PyProof.Rows L2

/-! ### words read -/
def allT : List Wd → Option (List T)
  | [] => some []
  | .v t :: r => (allT r).map (t :: ·)
  | .ref _ :: _ => none
@[simp] theorem allT_nil : allT [] = some [] := rfl
@[simp] theorem allT_v (t : T) (r : List Wd) : allT (.v t :: r) = (allT r).map (t :: ·) := rfl
@[simp] theorem allT_map (ts : List T) : allT (ts.map Wd.v) = some ts := by
  induction ts with
  | nil => rfl
  | cons t r ih => simp [ih]
theorem allT_some : ∀ {ws : List Wd} {ts : List T}, allT ws = some ts → ws = ts.map Wd.v
  | [], _, h => by cases h; rfl
  | .v t :: r, ts, h => by
    simp only [allT_v, Option.map_eq_some_iff] at h
    obtain ⟨q, h1, rfl⟩ := h
    rw [allT_some h1]; rfl
  | .ref _ :: _, _, h => by cases h
/-- the items of a list, ours or frozen -/
def itemsL (st : Sto) : Wd → Option (List Wd)
  | .v (.lst ts) => some (ts.map Wd.v)
  | .ref n => match st[n]? with
    | some (.lst ws) => some ws
    | _ => none
  | _ => none
@[simp] theorem itemsL_v (st : Sto) (ts : List T) : itemsL st (.v (.lst ts)) = some (ts.map Wd.v) := rfl
/-- the items of a list or a tuple -/
def items (st : Sto) : Wd → Option (List Wd)
  | .v (.tup ts) => some (ts.map Wd.v)
  | .v (.ktup ts) => some (ts.map Wd.v)
  | w => itemsL st w
@[simp] theorem items_tup (st : Sto) (ts : List T) : items st (.v (.tup ts)) = some (ts.map Wd.v) := rfl
@[simp] theorem items_lst (st : Sto) (ts : List T) : items st (.v (.lst ts)) = some (ts.map Wd.v) := rfl

section
variable {G : Gc} {ι ι1 : Io} {H H1 : Hp}
theorem RepWs.of_map : ∀ {ts : List T} {vs : List V}, RepWs G ι H (ts.map Wd.v) vs → Reps G ι H ts vs
  | [], _, .nil => .nil
  | _ :: _, _, .cons a b => .cons a (RepWs.of_map b)
theorem Reps.map : ∀ {ts : List T} {vs : List V}, Reps G ι H ts vs → RepWs G ι H (ts.map Wd.v) vs
  | _, _, .nil => .nil
  | _, _, .cons a b => .cons a (Reps.map b)
theorem Reps.length {ts : List T} {vs : List V} (r : Reps G ι H ts vs) : ts.length = vs.length := Paired.length r.paired
theorem RepWs.length {ts : List Wd} {vs : List V} (r : RepWs G ι H ts vs) : ts.length = vs.length := Paired.length r
theorem RepWs.get : ∀ {ws : List Wd} {vs : List V} {i : Nat} {w : Wd}, RepWs G ι H ws vs → ws[i]? = some w → ∃ v, vs[i]? = some v ∧ RepW G ι H w v
  | _, _, _, _, .nil, e => by simp at e
  | _, _, 0, _, .cons r _, e => by simp at e; subst e; exact ⟨_, rfl, r⟩
  | _, _, i + 1, w, .cons _ t, e => by
    obtain ⟨u, h1, h2⟩ := RepWs.get (i := i) (w := w) t (by simpa using e)
    exact ⟨u, by simpa using h1, h2⟩
theorem RepWs.app : ∀ {a b : List Wd} {c d : List V}, RepWs G ι H a c → RepWs G ι H b d → RepWs G ι H (a ++ b) (c ++ d)
  | _, _, _, _, .nil, s => s
  | _, _, _, _, .cons r t, s => .cons r (RepWs.app t s)
theorem Reps.app : ∀ {a b : List T} {c d : List V}, Reps G ι H a c → Reps G ι H b d → Reps G ι H (a ++ b) (c ++ d)
  | _, _, _, _, .nil, s => s
  | _, _, _, _, .cons r t, s => .cons r (Reps.app t s)
theorem RepWs.drop : ∀ {a : List Wd} {c : List V} (n : Nat), RepWs G ι H a c → RepWs G ι H (a.drop n) (c.drop n)
  | _, _, 0, s => s
  | _, _, _ + 1, .nil => .nil
  | _, _, n + 1, .cons _ t => RepWs.drop n t
theorem RepWs.take : ∀ {a : List Wd} {c : List V} (n : Nat), RepWs G ι H a c → RepWs G ι H (a.take n) (c.take n)
  | _, _, 0, _ => .nil
  | _, _, _ + 1, .nil => .nil
  | _, _, n + 1, .cons r t => .cons r (RepWs.take n t)
theorem RepWs.set : ∀ {a : List Wd} {c : List V} (n : Nat) {w : Wd} {v : V}, RepW G ι H w v → RepWs G ι H a c → RepWs G ι H (a.set n w) (c.set n v)
  | _, _, _, _, _, _, .nil => .nil
  | _, _, 0, _, _, h, .cons _ t => .cons h t
  | _, _, n + 1, _, _, h, .cons r t => .cons r (RepWs.set n h t)
/-- a tuple is read -/
theorem Rep.tupR {ts : List T} {v : V} (r : Rep G ι H (.tup ts) v) : ∃ a vs, v = .ref a ∧ H a = some (.tup vs) ∧ Reps G ι H ts vs ∧ ts.length ≤ sizeLine := by
  cases r with
  | tup h l n r => exact ⟨_, _, rfl, h, r, l⟩
theorem Rep.ktupR {ts : List T} {v : V} (r : Rep G ι H (.ktup ts) v) : ∃ a vs, v = .ref a ∧ SqT G.K H a vs ∧ Reps G ι H ts vs ∧ ts.length ≤ sizeLine := by
  cases r with
  | tupK h r =>
    refine ⟨_, _, rfl, .inr h, r, ?_⟩
    obtain ⟨o, its, n, _, _, _, hz, hv⟩ := h
    have e1 := r.length
    have e2 := hv.length
    simp only [Array.length_toList] at e2
    omega
theorem Rep.lstR {ts : List T} {v : V} (r : Rep G ι H (.lst ts) v) : ∃ a vs, v = .ref a ∧ H a = some (.lst vs) ∧ ¬ InI ι a ∧ Reps G ι H ts vs ∧ ts.length ≤ sizeLine := by
  cases r with
  | lst h l n r => exact ⟨_, _, rfl, h, n, r, l⟩
/-- a list is read -/
theorem itemsL_rep {st : Sto} (rs : RelS G ι st H) {w : Wd} {v : V} {ws : List Wd} (r : RepW G ι H w v) (h : itemsL st w = some ws) : ∃ a vs, v = .ref a ∧ H a = some (.lst vs) ∧ RepWs G ι H ws vs ∧ ws.length ≤ sizeLine := by
  cases w with
  | v t =>
    cases t with
    | lst ts =>
      cases h
      obtain ⟨a, vs, e, h1, _, h2, h3⟩ := Rep.lstR r
      exact ⟨a, vs, e, h1, h2.map, by simpa using h3⟩
    | _ => cases h
  | ref n =>
    simp only [itemsL] at h
    split at h
    · rename_i ws' e
      cases h
      obtain ⟨a, vs, h1, h2, l, h3⟩ := rs.ob e
      obtain ⟨b, h4, rfl⟩ := r
      rw [h1] at h4; cases h4
      exact ⟨a, vs, rfl, h2, h3, l⟩
    · cases h
theorem items_rep {st : Sto} (rs : RelS G ι st H) {w : Wd} {v : V} {ws : List Wd} (r : RepW G ι H w v) (h : items st w = some ws) : ∃ a vs, v = .ref a ∧ (SqL G.K H a vs ∨ SqT G.K H a vs) ∧ RepWs G ι H ws vs ∧ ws.length ≤ sizeLine := by
  have lst : itemsL st w = some ws → ∃ a vs, v = .ref a ∧ (SqL G.K H a vs ∨ SqT G.K H a vs) ∧ RepWs G ι H ws vs ∧ ws.length ≤ sizeLine := fun q => by
    obtain ⟨a, vs, e, h1, h2, h3⟩ := itemsL_rep rs r q
    exact ⟨a, vs, e, .inl (SqL.of h1), h2, h3⟩
  cases w with
  | v t =>
    cases t with
    | tup ts =>
      cases h
      obtain ⟨a, vs, e, h1, h2, h3⟩ := Rep.tupR r
      exact ⟨a, vs, e, .inr (SqT.of h1), h2.map, by simpa using h3⟩
    | ktup ts =>
      cases h
      obtain ⟨a, vs, e, h1, h2, h3⟩ := Rep.ktupR r
      exact ⟨a, vs, e, .inr h1, h2.map, by simpa using h3⟩
    | _ => exact lst h
  | ref n => exact lst h
end

/-! ### data as a whole: for == -/
mutual
def T.py : T → Option PyData
  | .non => some .none
  | .bl b => some (.bool b)
  | .int i => some (.int i)
  | .str x => some (.str x)
  | .tup ts => (T.pys ts).map .tuple
  | .ktup ts => (T.pys ts).map .tuple
  | .lst ts => (T.pys ts).map .list
  | _ => none
def T.pys : List T → Option (List PyData)
  | [] => some []
  | t :: r => match T.py t, T.pys r with
    | some d, some ds => some (d :: ds)
    | _, _ => none
end
def pyW (st : Sto) (w : Wd) : Option PyData := match w with
  | .v t => T.py t
  | .ref _ => match itemsL st w with
    | some ws => match allT ws with
      | some ts => (T.pys ts).map .list
      | none => none
    | none => none
section
variable {G : Gc} {ι : Io} {H : Hp}
mutual
theorem Rep.dp : ∀ {t : T} {v : V} {d : PyData}, Rep G ι H t v → T.py t = some d → Dp G.K H v d
  | .non, _, _, .non, h => by cases h; exact .non
  | .bl b, _, _, .bl _, h => by cases h; exact .bl b
  | .int i, _, _, .int _, h => by cases h; exact .int i
  | .str x, _, _, .str _, h => by cases h; exact .str x
  | .tup ts, _, _, .tup e _ _ r, h => by
    simp only [T.py, Option.map_eq_some_iff] at h
    obtain ⟨ds, h1, rfl⟩ := h
    exact .tup (.inl (.inl e)) (Reps.dp r h1)
  | .ktup ts, _, _, .tupK e r, h => by
    simp only [T.py, Option.map_eq_some_iff] at h
    obtain ⟨ds, h1, rfl⟩ := h
    exact .tup (.inr e) (Reps.dp r h1)
  | .lst ts, _, _, .lst e _ _ r, h => by
    simp only [T.py, Option.map_eq_some_iff] at h
    obtain ⟨ds, h1, rfl⟩ := h
    exact .lst (SqL.of e) (Reps.dp r h1)
  | .scr _, _, _, _, h => by cases h
  | .dct _, _, _, _, h => by cases h
  | .dcT _, _, _, _, h => by cases h
  | .gdc _, _, _, _, h => by cases h
  | .set _, _, _, _, h => by cases h
  | .ins _ _, _, _, _, h => by cases h
theorem Reps.dp : ∀ {ts : List T} {vs : List V} {ds : List PyData}, Reps G ι H ts vs → T.pys ts = some ds → DpAll G.K H vs ds
  | [], _, _, .nil, h => by cases h; exact .nil
  | t :: ts, _, ds, .cons a b, h => by
    unfold T.pys at h
    split at h
    · rename_i d ds' h1 h2
      cases h
      exact .cons (Rep.dp a h1) (Reps.dp b h2)
    · cases h
end
theorem pyW_dp {st : Sto} (rs : RelS G ι st H) {w : Wd} {v : V} {d : PyData} (r : RepW G ι H w v) (h : pyW st w = some d) : Dp G.K H v d := by
  cases w with
  | v t => exact Rep.dp r h
  | ref n =>
    simp only [pyW] at h
    split at h
    · rename_i ws e
      split at h
      · rename_i ts e2
        simp only [Option.map_eq_some_iff] at h
        obtain ⟨ds, h1, rfl⟩ := h
        obtain ⟨a, vs, rfl, h2, h3, _⟩ := itemsL_rep rs r e
        rw [allT_some e2] at h3
        exact .lst (SqL.of h2) (Reps.dp (RepWs.of_map h3) h1)
      · cases h
    · cases h
end

/-! ### operators by values -/
abbrev OF := Wd → Wd → Sto → R Wd
def OpD (G : Gc) (r : R2) (f : OF) : Prop := ∀ W σ ι st H x y wx wy Q, RelS G ι st H → RepW G ι H wx x → RepW G ι H wy y → Post G W σ ι H (f wx wy st) Q → r x y H Q
theorem ev_bin {X : Cx} {G : Gc} {W : WX} {op : Operator} {r : R2} {f : OF} {a b : Expr} {ma mb : EM} {pos : Pos} (ho : OpR X (binaryOp op) r) (hf : OpD G r f) (ha : EV X G W a ma) (hb : EV X G W b mb) :
    EV X G W (.BinOp a op b pos) (fun ρ st => (ma ρ st).bind fun x st1 => (mb ρ st1).bind fun y st2 => f x y st2) := by
  obtain ⟨ta, pa, qa⟩ := ha
  obtain ⟨tb, pb, qb⟩ := hb
  refine ⟨_, pe_op ho pa pb, fun ρ st σ ι H Q rs re h => ?_⟩
  refine qa ρ st σ ι H _ rs re (h.first fun wx st1 ι1 x H1 e1 rs1 rx h1 => ?_)
  refine qb ρ st1 σ ι1 H1 _ rs1 (re.ext e1) (h1.first fun wy st2 ι2 y H2 e2 rs2 ry h2 => ?_)
  exact hf W σ ι2 st2 H2 x y wx wy Q rs2 (rx.ext e2) ry h2
theorem ev_cmp {X : Cx} {G : Gc} {W : WX} {op : CmpOp} {r : R2} {f : OF} {a b : Expr} {ma mb : EM} {pos : Pos} (ho : OpR X (compareOp op) r) (hf : OpD G r f) (ha : EV X G W a ma) (hb : EV X G W b mb) (hm : behindInMarks op b = false) :
    EV X G W (.Compare a [op] [b] pos) (fun ρ st => (ma ρ st).bind fun x st1 => (mb ρ st1).bind fun y st2 => f x y st2) := by
  obtain ⟨ta, pa, qa⟩ := ha
  obtain ⟨tb, pb, qb⟩ := hb
  refine ⟨_, pe_cmpR ho pa pb hm, fun ρ st σ ι H Q rs re h => ?_⟩
  refine qa ρ st σ ι H _ rs re (h.first fun wx st1 ι1 x H1 e1 rs1 rx h1 => ?_)
  refine qb ρ st1 σ ι1 H1 _ rs1 (re.ext e1) (h1.first fun wy st2 ι2 y H2 e2 rs2 ry h2 => ?_)
  exact hf W σ ι2 st2 H2 x y wx wy Q rs2 (rx.ext e2) ry h2
/-- a word that is a truth value -/
def asB (w : Wd) (st : Sto) : R Bool := match w with
  | .v (.bl b) => .ok b st
  | _ => .bad
@[simp] theorem asB_bl (b : Bool) (st : Sto) : asB (.v (.bl b)) st = .ok b st := rfl
theorem tv_cmp {X : Cx} {G : Gc} {W : WX} {op : CmpOp} {r : R2} {f : OF} {a b : Expr} {ma mb : EM} {pos : Pos} (ho : OpR X (compareOp op) r) (hf : OpD G r f) (ha : EV X G W a ma) (hb : EV X G W b mb) (hm : behindInMarks op b = false) :
    TV X G W (.Compare a [op] [b] pos) (fun ρ st => (ma ρ st).bind fun x st1 => (mb ρ st1).bind fun y st2 => (f x y st2).bind asB) := by
  obtain ⟨ta, pa, qa⟩ := ha
  obtain ⟨tb, pb, qb⟩ := hb
  refine ⟨_, pt_cmpR ho pa pb hm, fun ρ st σ ι H Q rs re h => ?_⟩
  refine qa ρ st σ ι H _ rs re (h.first fun wx st1 ι1 x H1 e1 rs1 rx h1 => ?_)
  refine qb ρ st1 σ ι1 H1 _ rs1 (re.ext e1) (h1.first fun wy st2 ι2 y H2 e2 rs2 ry h2 => ?_)
  refine hf W σ ι2 st2 H2 x y wx wy _ rs2 (rx.ext e2) ry (h2.first fun wz st3 ι3 z H3 e3 rs3 rz h3 => ?_)
  unfold asB at h3
  split at h3
  · cases rz
    exact ⟨_, rfl, h3 ι3 H3 (Ext.refl _ _) rs3⟩
  · exact h3.elim
/-- a scalar out -/
theorem Post.out {G : Gc} {W : WX} {σ : St} {ι : Io} {H : Hp} {st : Sto} {Q : VK} {w : Wd} {v : V} (h : Post G W σ ι H (.ok w st) Q) (rs : RelS G ι st H) (r : RepW G ι H w v) : Q v H := h.now rs r
/-- a new tuple out -/
theorem Post.tup {G : Gc} {W : WX} {σ : St} {ι : Io} {H : Hp} {st : Sto} {Q : VK} {ts : List T} {vs : List V} (h : Post G W σ ι H (.ok (.v (.tup ts)) st) Q) (rs : RelS G ι st H) (r : Reps G ι H ts vs) (l : ts.length ≤ sizeLine) {p : Addr} (n : H p = none) :
    Q (.ref p) (upd H p (.tup vs)) := by
  have e : Ext ι H ι (upd H p (.tup vs)) := Ext.same (upd_keeps n)
  exact h ι _ _ e (rs.same (upd_keeps n)) (.tup upd_same l (rs.notIn n) (Reps.ext e r))
/-- a new frozen list out -/
theorem Post.lst {G : Gc} {W : WX} {σ : St} {ι : Io} {H : Hp} {st : Sto} {Q : VK} {ts : List T} {vs : List V} (h : Post G W σ ι H (.ok (.v (.lst ts)) st) Q) (rs : RelS G ι st H) (r : Reps G ι H ts vs) (l : ts.length ≤ sizeLine) {p : Addr} (n : H p = none) :
    Q (.ref p) (upd H p (.lst vs)) := by
  have e : Ext ι H ι (upd H p (.lst vs)) := Ext.same (upd_keeps n)
  exact h ι _ _ e (rs.same (upd_keeps n)) (.lst upd_same l (rs.notIn n) (Reps.ext e r))
/-- a new list of ours out -/
theorem Post.lstM {G : Gc} {W : WX} {σ : St} {ι : Io} {H : Hp} {st : Sto} {Q : VK} {ws : List Wd} {vs : List V} (h : Post G W σ ι H (.ok (.ref st.length) (st ++ [.lst ws])) Q) (rs : RelS G ι st H) (r : RepWs G ι H ws vs) (l : ws.length ≤ sizeLine) {p : Addr} (n : H p = none) :
    Q (.ref p) (upd H p (.lst vs)) := by
  exact h (ι.add p) _ _ (ext_app n) (rs.alloc (o := .lst ws) n ⟨vs, rfl, l, r⟩) ⟨p, by rw [← rs.len]; simp [Io.add], rfl⟩
end DL

set_option Elab.async false
set_option linter.all false
set_option maxRecDepth 100000
set_option maxHeartbeats 4000000
/-! DLd: the operators' meanings on words, each by its rule. -/
namespace DL
open PySem PySem.Spec PyProof.Rows L2
abbrev LINE : Nat := sizeLine

def bAdd : OF := fun x y st => match x, y with
  | .v (.int i), .v (.int j) => .ok (.v (.int (i + j))) st
  | .v (.str a), .v (.str b) => if a.length + b.length ≤ LINE then .ok (.v (.str (a ++ b))) st else .bad
  | .v (.tup a), .v (.tup b) => if a.length + b.length ≤ LINE then .ok (.v (.tup (a ++ b))) st else .bad
  | x, y => match itemsL st x, itemsL st y with
    | some a, some b => match allT a, allT b with
      | some a, some b => if a.length + b.length ≤ LINE then .ok (.v (.lst (a ++ b))) st else .bad
      | _, _ => .bad
    | _, _ => .bad
def bInt (C : Int → Int → Bool) (g : Int → Int → T) : OF := fun x y st => match x, y with
  | .v (.int i), .v (.int j) => if C i j then .ok (.v (g i j)) st else .bad
  | _, _ => .bad
def mulOk (i j : Int) : Bool := (decide (-(2 ^ 64) < i) && decide (i < 2 ^ 64)) || (decide (-(2 ^ 64) < j) && decide (j < 2 ^ 64))
def powOk (i j : Int) : Bool := decide (0 ≤ j) && decide (j ≤ 1000000) && decide (i.natAbs < 2 ^ 64)
def divOk (_ j : Int) : Bool := decide (0 < j) && decide (j.natAbs.log2 < 9000)
def always (_ _ : Int) : Bool := true
abbrev bSub : OF := bInt always fun i j => .int (i - j)
abbrev bMul : OF := bInt mulOk fun i j => .int (i * j)
abbrev bDiv : OF := bInt divOk fun i j => .int (i / j)
abbrev bMod : OF := bInt (fun _ j => decide (0 < j)) fun i j => .int (i % j)
abbrev bPow : OF := bInt powOk fun i j => .int (i ^ j.toNat)
abbrev bLt : OF := bInt always fun i j => .bl (decide (i < j))
abbrev bLe : OF := bInt always fun i j => .bl (decide (i ≤ j))
abbrev bGt : OF := bInt always fun i j => .bl (decide (j < i))
abbrev bGe : OF := bInt always fun i j => .bl (decide (j ≤ i))
def bEqN (neg : Bool) : OF := fun x y st => match pyW st x, pyW st y with
  | some d, some e => if SeqAt.shaped d && SeqAt.shaped e then .ok (.v (.bl (if neg then !PyData.eqv d e else PyData.eqv d e))) st else .bad
  | _, _ => .bad
abbrev bEq : OF := bEqN false
abbrev bNe : OF := bEqN true
/-- flat things: what in looks for -/
def fl : T → Option V
  | .non => some .non
  | .bl b => some (.bl b)
  | .int i => some (.int i)
  | .str x => some (.str x)
  | _ => none
def fls : List T → Option (List V)
  | [] => some []
  | t :: r => match fl t, fls r with
    | some v, some vs => some (v :: vs)
    | _, _ => none
def keyW : Wd → Option Key
  | .v (.int i) => some (.inl i)
  | .v (.str x) => some (.inr x)
  | _ => none
def keyTs : List T → Option (List Key)
  | [] => some []
  | .int i :: r => (keyTs r).map (.inl i :: ·)
  | .str x :: r => (keyTs r).map (.inr x :: ·)
  | _ :: _ => none
/-- the value of a key in pairs -/
def valP {κ α : Type} [DecidableEq κ] (kvs : List (κ × α)) (k : κ) : Option α := (kvs.find? fun kv => decide (kv.1 = k)).map (·.2)
/-- what a dict has for a key (some none: nothing); none: no dict, no key -/
def dLook (st : Sto) (d k : Wd) : Option (Option Wd) := match d with
  | .v (.dct kvs) => (keyW k).map fun q => (valP kvs q).map Wd.v
  | .v (.dcT kvs) => match k with
    | .v (.tup ts) => (keyTs ts).map fun q => (valP kvs q).map Wd.v
    | _ => none
  | .ref n => match st[n]? with
    | some (.dct kvs) => (keyW k).map fun q => valP kvs q
    | some (.dcT kvs) => match k with
      | .v (.tup ts) => (keyTs ts).map fun q => valP kvs q
      | _ => none
    | _ => none
  | _ => none
def bInN (neg : Bool) : OF := fun x y st => match dLook st y x with
  | some o => .ok (.v (.bl (if neg then !o.isSome else o.isSome))) st
  | none => match x, y with
    | .v (.str a), .v (.str b) => if a.length = 1 then .ok (.v (.bl (if neg then !decide (a.cps.getD 0 0 ∈ b.cps.toList) else decide (a.cps.getD 0 0 ∈ b.cps.toList)))) st else .bad
    | .v t, y => match items st y with
      | some ws => match allT ws with
        | some ts => match fl t, fls ts with
          | some v, some vs => .ok (.v (.bl (if neg then !inV v vs else inV v vs))) st
          | _, _ => .bad
        | none => .bad
      | none => .bad
    | _, _ => .bad
abbrev bIn : OF := bInN false
abbrev bNotIn : OF := bInN true
def bIsN (neg : Bool) : OF := fun x y st => match y with
  | .v .non => .ok (.v (.bl (match x with | .v .non => !neg | _ => neg))) st
  | _ => .bad
abbrev bIs : OF := bIsN false
abbrev bIsNot : OF := bIsN true

section
variable {G : Gc} {ι : Io} {H : Hp}
theorem fl_rep {t : T} {v u : V} (h : fl t = some v) (r : Rep G ι H t u) : u = v ∧ flatV v = true := by
  cases t with
  | non => cases h; cases r; exact ⟨rfl, rfl⟩
  | bl b => cases h; cases r; exact ⟨rfl, rfl⟩
  | int i => cases h; cases r; exact ⟨rfl, rfl⟩
  | str x => cases h; cases r; exact ⟨rfl, rfl⟩
  | _ => cases h
theorem fls_rep : ∀ {ts : List T} {vs us : List V}, fls ts = some vs → Reps G ι H ts us → us = vs ∧ vs.all flatV = true
  | [], _, _, h, .nil => by cases h; exact ⟨rfl, rfl⟩
  | t :: r, _, _, h, .cons a b => by
    simp only [fls] at h
    split at h
    · rename_i v vs h1 h2
      cases h
      obtain ⟨rfl, f1⟩ := fl_rep h1 a
      obtain ⟨rfl, f2⟩ := fls_rep h2 b
      exact ⟨rfl, by simp [f1, f2]⟩
    · cases h
theorem keyW_rep {w : Wd} {k : Key} {v : V} (h : keyW w = some k) (r : RepW G ι H w v) : v = kV k := by
  unfold keyW at h
  split at h
  · cases h; cases r; rfl
  · cases h; cases r; rfl
  · cases h
theorem keyTs_rep : ∀ {ts : List T} {ks : List Key} {vs : List V}, keyTs ts = some ks → Reps G ι H ts vs → vs = ks.map kV
  | [], _, _, h, .nil => by cases h; rfl
  | .int i :: r, _, _, h, .cons a b => by
    simp only [keyTs, Option.map_eq_some_iff] at h
    obtain ⟨q, h1, rfl⟩ := h
    rw [keyTs_rep h1 b]
    cases a
    rfl
  | .str x :: r, _, _, h, .cons a b => by
    simp only [keyTs, Option.map_eq_some_iff] at h
    obtain ⟨q, h1, rfl⟩ := h
    rw [keyTs_rep h1 b]
    cases a
    rfl
  | .non :: _, _, _, h, _ => by cases h
  | .bl _ :: _, _, _, h, _ => by cases h
  | .tup _ :: _, _, _, h, _ => by cases h
  | .ktup _ :: _, _, _, h, _ => by cases h
  | .lst _ :: _, _, _, h, _ => by cases h
  | .scr _ :: _, _, _, h, _ => by cases h
  | .dct _ :: _, _, _, h, _ => by cases h
  | .dcT _ :: _, _, _, h, _ => by cases h
  | .gdc _ :: _, _, _, h, _ => by cases h
  | .set _ :: _, _, _, h, _ => by cases h
  | .ins _ _ :: _, _, _, h, _ => by cases h
theorem valP_paired {κ α : Type} [DecidableEq κ] {P : α → V → Prop} : ∀ {ts : List (κ × α)} {vs : List (κ × V)} (k : κ), Paired (fun p q => p.1 = q.1 ∧ P p.2 q.2) ts vs → (valP ts k = none ∧ valV vs k = none) ∨ ∃ a v, valP ts k = some a ∧ valV vs k = some v ∧ P a v
  | [], [], k, _ => .inl ⟨rfl, rfl⟩
  | (k1, a) :: ts, (k2, v) :: vs, k, .cons ⟨e, p⟩ r => by
    have e : k1 = k2 := e
    subst e
    by_cases hk : k1 = k
    · exact .inr ⟨a, v, by simp [valP, List.find?_cons, hk], by simp [valV, List.find?_cons, hk], p⟩
    · have h1 : valP ((k1, a) :: ts) k = valP ts k := by simp [valP, List.find?_cons, hk]
      have h2 : valV ((k1, v) :: vs) k = valV vs k := by simp [valV, List.find?_cons, hk]
      rw [h1, h2]
      exact valP_paired k r
def RepO (G : Gc) (ι : Io) (H : Hp) (o : Option Wd) (u : Option V) : Prop := (o = none ∧ u = none) ∨ ∃ w v, o = some w ∧ u = some v ∧ RepW G ι H w v
theorem dLook_rep {st : Sto} (rs : RelS G ι st H) {d k : Wd} {x y : V} {o : Option Wd} (rd : RepW G ι H d x) (rk : RepW G ι H k y) (h : dLook st d k = some o) : ∃ a u, x = .ref a ∧ RepO G ι H o u ∧ DGet H a y u := by
  have fin : ∀ {κ : Type} [DecidableEq κ] {kvs : List (κ × T)} {vs : List (κ × V)} (q : κ), Paired (fun p z => p.1 = z.1 ∧ Rep G ι H p.2 z.2) kvs vs → RepO G ι H ((valP kvs q).map Wd.v) (valV vs q) := fun q p => by
    rcases valP_paired q p with ⟨h1, h2⟩ | ⟨a, v, h1, h2, h3⟩
    · exact .inl ⟨by rw [h1]; rfl, h2⟩
    · exact .inr ⟨.v a, v, by rw [h1]; rfl, h2, h3⟩
  have fin2 : ∀ {κ : Type} [DecidableEq κ] {kvs : List (κ × Wd)} {vs : List (κ × V)} (q : κ), RepWK G ι H kvs vs → RepO G ι H (valP kvs q) (valV vs q) := fun q p => by
    rcases valP_paired q p with ⟨h1, h2⟩ | ⟨a, v, h1, h2, h3⟩
    · exact .inl ⟨h1, h2⟩
    · exact .inr ⟨a, v, h1, h2, h3⟩
  have tk : ∀ {ts : List T}, RepW G ι H (.v (.tup ts)) y → ∀ {ks : List Key}, keyTs ts = some ks → ∃ b, y = .ref b ∧ H b = some (.tup (ks.map kV)) := fun {ts} r {ks} e => by
    obtain ⟨b, vs, rfl, h1, h2, _⟩ := Rep.tupR r
    rw [keyTs_rep e h2] at h1
    exact ⟨b, rfl, h1⟩
  unfold dLook at h
  split at h
  · rename_i kvs
    simp only [Option.map_eq_some_iff] at h
    obtain ⟨q, h1, rfl⟩ := h
    have e := keyW_rep h1 rk
    subst e
    cases rd with
    | dct e l n r => exact ⟨_, _, rfl, fin q r.paired, DGet.k e⟩
  · rename_i kvs
    split at h
    · rename_i ts
      simp only [Option.map_eq_some_iff] at h
      obtain ⟨q, h1, rfl⟩ := h
      obtain ⟨b, rfl, hb⟩ := tk rk h1
      cases rd with
      | dcT e l n r => exact ⟨_, _, rfl, fin q r.paired, DGet.t e hb⟩
    · cases h
  · rename_i n
    obtain ⟨a, h0, rfl⟩ := rd
    split at h
    · rename_i kvs e
      simp only [Option.map_eq_some_iff] at h
      obtain ⟨q, h1, rfl⟩ := h
      have e2 := keyW_rep h1 rk
      subst e2
      obtain ⟨b, vs, h2, h3, _, h4⟩ := rs.ob e
      rw [h0] at h2; cases h2
      exact ⟨a, _, rfl, fin2 q h4, DGet.k h3⟩
    · rename_i kvs e
      split at h
      · rename_i ts
        simp only [Option.map_eq_some_iff] at h
        obtain ⟨q, h1, rfl⟩ := h
        obtain ⟨b', rfl, hb⟩ := tk rk h1
        obtain ⟨b, vs, h2, h3, _, h4⟩ := rs.ob e
        rw [h0] at h2; cases h2
        exact ⟨a, _, rfl, fin2 q h4, DGet.t h3 hb⟩
      · cases h
    · cases h
  · cases h
end

/-! ### the rules -/
section
variable {X : Cx} {G : Gc}
theorem OpR.any {f : Value → Value → Sem Value} {r r' : R2} (h : OpR X f r) (i : ∀ x y H Q, r' x y H Q → r x y H Q) : OpR X f r' := fun pins s σ H x y v u Q I rx ry q => h pins s σ H x y v u Q I rx ry (i _ _ _ _ q)
theorem od_int {C : Int → Int → Bool} {g : Int → Int → T} {P : Int → Int → Prop} {gV : Int → Int → V} (hc : ∀ i j, C i j = true → P i j) (hg : ∀ ι H i j, Rep G ι H (g i j) (gV i j)) : OpD G (rI P gV) (bInt C g) := by
  intro W σ ι st H x y wx wy Q rs rx ry h
  unfold bInt at h
  split at h
  · rename_i i j
    split at h
    · rename_i hC
      cases rx
      cases ry
      exact ⟨i, j, rfl, rfl, hc i j hC, h.now rs (hg ι H i j)⟩
    · exact h.elim
  · exact h.elim
theorem od_int0 {g : Int → Int → T} {gV : Int → Int → V} (hg : ∀ ι H i j, Rep G ι H (g i j) (gV i j)) : OpD G (rI0 gV) (bInt always g) := by
  intro W σ ι st H x y wx wy Q rs rx ry h
  unfold bInt at h
  split at h
  · rename_i i j
    split at h
    · cases rx
      cases ry
      exact ⟨i, j, rfl, rfl, h.now rs (hg ι H i j)⟩
    · exact h.elim
  · exact h.elim
theorem od_sub : OpD G (rI0 fun i j => .int (i - j)) bSub := od_int0 fun _ _ _ _ => .int _
theorem mulOk_ok {i j : Int} (h : mulOk i j = true) : CMul i j := by
  unfold mulOk at h
  simp only [Bool.or_eq_true, Bool.and_eq_true, decide_eq_true_eq] at h
  exact h
theorem od_mul : OpD G (rI CMul fun i j => .int (i * j)) bMul := od_int (fun _ _ => mulOk_ok) fun _ _ _ _ => .int _
theorem divOk_ok {i j : Int} (h : divOk i j = true) : CDivW i j := by
  unfold divOk at h
  simp only [Bool.and_eq_true, decide_eq_true_eq] at h
  exact h
theorem od_div : OpD G (rI CDivW fun i j => .int (i / j)) bDiv := od_int (fun _ _ => divOk_ok) fun _ _ _ _ => .int _
theorem od_mod : OpD G (rI (fun _ j => 0 < j) fun i j => .int (i % j)) bMod := od_int (fun _ _ h => of_decide_eq_true h) fun _ _ _ _ => .int _
theorem powOk_ok {i j : Int} (h : powOk i j = true) : CPow i j := by
  unfold powOk at h
  simp only [Bool.and_eq_true, decide_eq_true_eq] at h
  exact ⟨h.1.1, h.1.2, h.2⟩
theorem od_pow : OpD G (rI CPow fun i j => .int (i ^ j.toNat)) bPow := od_int (fun _ _ => powOk_ok) fun _ _ _ _ => .int _
theorem od_lt : OpD G (rI0 fun i j => .bl (decide (i < j))) bLt := od_int0 fun _ _ _ _ => .bl _
theorem od_le : OpD G (rI0 fun i j => .bl (decide (i ≤ j))) bLe := od_int0 fun _ _ _ _ => .bl _
theorem od_gt : OpD G (rI0 fun i j => .bl (decide (j < i))) bGt := od_int0 fun _ _ _ _ => .bl _
theorem od_ge : OpD G (rI0 fun i j => .bl (decide (j ≤ i))) bGe := od_int0 fun _ _ _ _ => .bl _
def rAddA (K : PySem.W.Frag) : R2 := fun x y H Q => (rI0 (fun i j => .int (i + j)) x y H Q ∨ (∃ i j, x = .str i ∧ y = .str j ∧ i.length + j.length ≤ sizeLine ∧ Q (.str (i ++ j)) H)) ∨ (rCatA K x y H Q ∨ rCat x y H Q)
theorem op_addA : OpR X (binaryOp .Add) (rAddA X.K) := OpR.or (OpR.or op_add op_add_str) (OpR.or op_catA op_cat)
theorem od_add : OpD G (rAddA G.K) bAdd := by
  intro W σ ι st H x y wx wy Q rs rx ry h
  have lists : ∀ {o : OF}, Post G W σ ι H (match itemsL st wx, itemsL st wy with
    | some a, some b => match allT a, allT b with
      | some a, some b => if a.length + b.length ≤ LINE then .ok (.v (.lst (a ++ b))) st else .bad
      | _, _ => .bad
    | _, _ => .bad) Q → rCat x y H Q := fun {_} h => by
    split at h
    · rename_i a b ea eb
      split at h
      · rename_i a' b' ea' eb'
        split at h
        · rename_i hl
          obtain ⟨p, vs, rfl, h1, h2, _⟩ := itemsL_rep rs rx ea
          obtain ⟨q, us, rfl, h3, h4, _⟩ := itemsL_rep rs ry eb
          rw [allT_some ea'] at h2
          rw [allT_some eb'] at h4
          have h2 := RepWs.of_map h2
          have h4 := RepWs.of_map h4
          exact ⟨p, q, vs, us, rfl, rfl, h1, h3, by rw [← h2.length, ← h4.length]; exact hl, fun z n => h.lst rs (h2.app h4) (by simpa using hl) n⟩
        · exact h.elim
      · exact h.elim
    · exact h.elim
  unfold bAdd at h
  split at h
  · rename_i i j
    cases rx
    cases ry
    exact .inl (.inl ⟨i, j, rfl, rfl, h.now rs (.int _)⟩)
  · rename_i a b
    split at h
    · rename_i hl
      cases rx
      cases ry
      exact .inl (.inr ⟨a, b, rfl, rfl, hl, h.now rs (.str _)⟩)
    · exact h.elim
  · rename_i a b
    split at h
    · rename_i hl
      obtain ⟨p, vs, rfl, h1, h2, _⟩ := Rep.tupR rx
      obtain ⟨q, us, rfl, h3, h4, _⟩ := Rep.tupR ry
      have e1 := h2.length
      have e2 := h4.length
      refine .inr (.inl ⟨p, q, vs, us, rfl, rfl, SqT.of h1, SqT.of h3, by rw [← e1, ← e2]; exact hl, fun z => ?_, fun _ z => ?_, fun _ _ z n => h.tup rs (h2.app h4) (by simpa using hl) n⟩)
      · have : a = [] := by subst z; cases h2; rfl
        subst this
        exact h.now rs ry
      · have : b = [] := by subst z; cases h4; rfl
        subst this
        rw [List.append_nil] at h
        exact h.now rs rx
    · exact h.elim
  · exact .inr (.inr (lists (o := bAdd) h))
theorem od_eq : OpD G (rEqD G.K) bEq := by
  intro W σ ι st H x y wx wy Q rs rx ry h
  unfold bEq bEqN at h
  split at h
  · rename_i d e h1 h2
    split at h
    · rename_i hs
      simp only [Bool.and_eq_true] at hs
      exact ⟨d, e, pyW_dp rs rx h1, pyW_dp rs ry h2, hs.1, hs.2, h.now rs (.bl _)⟩
    · exact h.elim
  · exact h.elim
theorem od_ne : OpD G (rNeD G.K) bNe := by
  intro W σ ι st H x y wx wy Q rs rx ry h
  unfold bNe bEqN at h
  split at h
  · rename_i d e h1 h2
    split at h
    · rename_i hs
      simp only [Bool.and_eq_true] at hs
      exact ⟨d, e, pyW_dp rs rx h1, pyW_dp rs ry h2, hs.1, hs.2, h.now rs (.bl _)⟩
    · exact h.elim
  · exact h.elim
theorem od_is : OpD G (fun x y H Q => y = .non ∧ Q (.bl (decide (x = .non))) H) bIs := by
  intro W σ ι st H x y wx wy Q rs rx ry h
  unfold bIs bIsN at h
  split at h
  · cases ry
    refine ⟨rfl, ?_⟩
    split at h
    · cases rx; exact h.now rs (.bl _)
    · rename_i hne
      have : decide (x = V.non) = false := decide_eq_false fun z => by
        subst z
        cases wx with
        | v t => cases rx; exact hne rfl
        | ref n => obtain ⟨a, _, z⟩ := rx; cases z
      rw [this]
      exact h.now rs (.bl _)
  · exact h.elim
theorem od_isnot : OpD G (fun x y H Q => y = .non ∧ Q (.bl (!decide (x = .non))) H) bIsNot := by
  intro W σ ι st H x y wx wy Q rs rx ry h
  unfold bIsNot bIsN at h
  split at h
  · cases ry
    refine ⟨rfl, ?_⟩
    split at h
    · cases rx; exact h.now rs (.bl _)
    · rename_i hne
      have : decide (x = V.non) = false := decide_eq_false fun z => by
        subst z
        cases wx with
        | v t => cases rx; exact hne rfl
        | ref n => obtain ⟨a, _, z⟩ := rx; cases z
      rw [this]
      exact h.now rs (.bl _)
  · exact h.elim
/-- y in x: a dict's key, a sign of a text, an item of a list or tuple -/
def rInA (K : PySem.W.Frag) (neg : Bool) : R2 := fun x y H Q => (∃ a o, y = .ref a ∧ DGet H a x o ∧ Q (.bl (if neg then !o.isSome else o.isSome)) H) ∨ (∃ (c : Nat) (z : Str), x = .str ⟨#[c]⟩ ∧ y = .str z ∧ Q (.bl (if neg then !decide (c ∈ z.cps.toList) else decide (c ∈ z.cps.toList))) H) ∨ rIn K neg x y H Q
theorem op_inA (hu : X.A.units + 1 < cLine) : OpR X (compareOp .In) (rInA X.K false) := by
  intro pins s σ H x y v u Q I rx ry h
  rcases h with ⟨a, o, rfl, g, q⟩ | ⟨c, z, e1, e2, q⟩ | h
  · cases ry
    exact d_in hu I g rx fun s3 I3 => ⟨.bl o.isSome, H, I3, rfl, q⟩
  · exact op_in_sign pins s σ H x y v u Q I rx ry ⟨c, z, e1, e2, q⟩
  · exact op_in_seq pins s σ H x y v u Q I rx ry h
theorem op_notInA (hu : X.A.units + 1 < cLine) : OpR X (compareOp .NotIn) (rInA X.K true) := by
  intro pins s σ H x y v u Q I rx ry h
  rcases h with ⟨a, o, rfl, g, q⟩ | ⟨c, z, e1, e2, q⟩ | h
  · cases ry
    exact d_notIn hu I g rx fun s3 I3 => ⟨.bl (!o.isSome), H, I3, rfl, q⟩
  · exact op_notIn_sign pins s σ H x y v u Q I rx ry ⟨c, z, e1, e2, q⟩
  · exact op_notIn_seq pins s σ H x y v u Q I rx ry h
theorem od_in {neg : Bool} : OpD G (rInA G.K neg) (bInN neg) := by
  intro W σ ι st H x y wx wy Q rs rx ry h
  unfold bInN at h
  split at h
  · rename_i o e
    obtain ⟨a, u, rfl, r, g⟩ := dLook_rep rs ry rx e
    refine .inl ⟨a, u, rfl, g, ?_⟩
    rcases r with ⟨h1, h2⟩ | ⟨w, v, h1, h2, _⟩
    · subst h1 h2
      exact h.now rs (.bl _)
    · subst h1 h2
      exact h.now rs (.bl _)
  · split at h
    · rename_i a b hd
      split at h
      · rename_i hl
        cases rx
        cases ry
        obtain ⟨cps⟩ := a
        obtain ⟨l⟩ := cps
        have hl : l.length = 1 := hl
        obtain ⟨c, rfl⟩ := List.length_eq_one_iff.mp hl
        exact .inr (.inl ⟨c, b, rfl, rfl, h.now rs (.bl _)⟩)
      · exact h.elim
    · rename_i t y' _
      split at h
      · rename_i ws e1
        split at h
        · rename_i ts e2
          split at h
          · rename_i v vs e3 e4
            obtain ⟨p, us, rfl, h1, h2, _⟩ := items_rep rs ry e1
            rw [allT_some e2] at h2
            obtain ⟨rfl, f1⟩ := fl_rep e3 rx
            obtain ⟨rfl, f2⟩ := fls_rep e4 (RepWs.of_map h2)
            exact .inr (.inr ⟨p, _, rfl, h1, f1, f2, h.now rs (.bl _)⟩)
          · exact h.elim
        · exact h.elim
      · exact h.elim
    · exact h.elim
end
end DL

set_option Elab.async false
set_option linter.all false
set_option maxRecDepth 100000
set_option maxHeartbeats 4000000
/-! DLe: names, constants, and | or | not, if-expressions, displays, items, slices, argument lists, built-ins by name. -/
namespace DL
open PySem PySem.Spec PyProof.Rows L2

/-! ### plain expressions -/
def plainE : Expr → Bool
  | .Starred .. => false
  | .Slice .. => false
  | .Set .. => false
  | .ListComp .. => false
  | .SetComp .. => false
  | .DictComp .. => false
  | _ => true
def noStar : Expr → Bool
  | .Starred .. => false
  | .Slice .. => false
  | .Set .. => false
  | _ => true
theorem star_plain {e : Expr} {es : List Expr} {env : Env} (h : noStar e = true) : starEach (e :: es) env = (false, eval e env) :: starEach es env := by
  cases e <;> first | rfl | (cases h)
theorem stars_plain {pos : Pos} {env : Env} : ∀ {es : List Expr}, es.all noStar = true → (backTo pos (starEach es env)).any (·.1) = false
  | [], _ => rfl
  | e :: es, h => by
    simp only [List.all_cons, Bool.and_eq_true] at h
    rw [star_plain h.1]
    show (false || (backTo pos (starEach es env)).any (·.1)) = false
    rw [stars_plain h.2]
    rfl
theorem subs_plain {e : Expr} {v u : Value} (h : noStar e = true) : subscripted e false v u = operate [v, u] (getItem v u) := by
  cases e <;> first | rfl | (cases h)
theorem folded_plain {e : Expr} {env : Env} (h : noStar e = true) : ∀ x, foldedSetIterable e env x = pure x := by
  cases e <;> first | (intro _; rfl) | (cases h)
theorem behind_plain {e : Expr} {op : CmpOp} (h : noStar e = true) : behindInMarks op e = false := by
  cases e <;> first | rfl | (cases h)
theorem swaps_plain {e : Expr} {t : Option Expr} {n : Nat} {env : Env} (h : plainE e = true) : swapsWith e t n env = pure false := by
  cases e <;> first | rfl | (cases h)
theorem base_plain {e : Expr} {f : Str} {env : Env} (h : (match e with | .Call _ [] [] _ => false | _ => true) = true) : attributeBase e f env (eval e env) = eval e env := by
  cases e with
  | Call fn as kw p =>
    cases fn with
    | Name x q =>
      cases as with
      | nil => cases kw with
        | nil => cases h
        | cons _ _ => rfl
      | cons _ _ => rfl
    | _ => rfl
  | _ => rfl

section
variable {X : Cx} {G : Gc} {W : WX}
/-! ### names and constants -/
def eVar (i : Nat) : EM := fun ρ st => match ρ[i]? with
  | some (some w) => .ok w st
  | _ => .bad
theorem ev_var {i : Nat} {x : Str} {pos : Pos} (hN : X.N[i]? = some x) (hv : Vis X.env.scope x) (hd : (x == ("__debug__" : Str)) = false) (hcd : (x == ("__classdict__" : Str)) = false) : EV X G W (.Name x pos) (eVar i) := by
  refine ⟨_, pe_var hN hv hd hcd, fun ρ st σ ι H Q rs re h => ?_⟩
  unfold eVar at h
  split at h
  · rename_i w e
    obtain ⟨v, hv, r⟩ := re.2 i w e
    exact ⟨v, hv, h.now rs r⟩
  · exact h.elim
def eT (t : T) : EM := fun _ st => .ok (.v t) st
theorem ev_int {i : Int} {j : Nat} {pos : Pos} : EV X G W (.Constant (.int i) j pos) (eT (.int i)) := ⟨_, pe_int, fun ρ st σ ι H Q rs re h => h.now rs (.int i)⟩
theorem ev_str {x : Str} {j : Nat} {pos : Pos} : EV X G W (.Constant (.str x) j pos) (eT (.str x)) := ⟨_, pe_str, fun ρ st σ ι H Q rs re h => h.now rs (.str x)⟩
theorem ev_bl {b : Bool} {j : Nat} {pos : Pos} : EV X G W (.Constant (.bool b) j pos) (eT (.bl b)) := ⟨_, pe_bl, fun ρ st σ ι H Q rs re h => h.now rs (.bl b)⟩
theorem ev_non {j : Nat} {pos : Pos} : EV X G W (.Constant .none j pos) (eT .non) := ⟨_, pe_non, fun ρ st σ ι H Q rs re h => h.now rs .non⟩
/-- a constant of the module -/
theorem ev_glob {x : Str} {t : T} {v : V} {u : Value} {pos : Pos} (hg : Gl X x) (hm : X.mg x = some u) (r : RelV v u) (hr : ∀ ι H, Rep G ι H t v) (hd : (x == ("__debug__" : Str)) = false) : EV X G W (.Name x pos) (eT t) :=
  ⟨_, pe_glob hg hm r hd, fun ρ st σ ι H Q rs re h => h.now rs (hr ι H)⟩

/-! ### and, or, not -/
def eAnd (a b : EM) : EM := fun ρ st => (a ρ st).bind fun w st1 => (asB w st1).bind fun c st2 => if c then b ρ st2 else .ok (.v (.bl false)) st2
def eOr (a b : EM) : EM := fun ρ st => (a ρ st).bind fun w st1 => (asB w st1).bind fun c st2 => if c then .ok (.v (.bl true)) st2 else b ρ st2
def eNot (a : EM) : EM := fun ρ st => (a ρ st).bind fun w st1 => (asB w st1).bind fun c st2 => .ok (.v (.bl (!c))) st2
theorem asB_rep {ι : Io} {H : Hp} {w : Wd} {v : V} {st : Sto} {σ : St} {f : Bool → Sto → R Wd} {Q : VK} (r : RepW G ι H w v) (h : Post G W σ ι H ((asB w st).bind f) Q) : ∃ c, v = .bl c ∧ Post G W σ ι H (f c st) Q := by
  unfold asB at h
  split at h
  · cases r; exact ⟨_, rfl, h⟩
  · exact h.elim
variable {a b c : Expr} {ma mb mc : EM} {pos : Pos} {rest : List Expr} {ta tb tc : BM}
theorem ev_one {op : BoolOp} (ha : EV X G W a ma) : EV X G W (.BoolOp op [a] pos) ma := by
  obtain ⟨t, p, q⟩ := ha
  exact ⟨_, pe_one p, q⟩
theorem ev_and (ha : EV X G W a ma) (hb : EV X G W (.BoolOp .And (b :: rest) pos) mb) : EV X G W (.BoolOp .And (a :: b :: rest) pos) (eAnd ma mb) := by
  obtain ⟨t, p, q⟩ := ha
  obtain ⟨u, p', q'⟩ := hb
  refine ⟨_, pe_and p p', fun ρ st σ ι H Q rs re h => ?_⟩
  refine q ρ st σ ι H _ rs re (h.first fun w st1 ι1 v H1 e1 rs1 r1 h1 => ?_)
  obtain ⟨c, rfl, h2⟩ := asB_rep r1 h1
  refine ⟨c, rfl, ?_⟩
  cases c with
  | true => exact q' ρ st1 σ ι1 H1 Q rs1 (re.ext e1) h2
  | false => exact h2.now rs1 (.bl _)
theorem ev_or (ha : EV X G W a ma) (hb : EV X G W (.BoolOp .Or (b :: rest) pos) mb) : EV X G W (.BoolOp .Or (a :: b :: rest) pos) (eOr ma mb) := by
  obtain ⟨t, p, q⟩ := ha
  obtain ⟨u, p', q'⟩ := hb
  refine ⟨_, pe_or p p', fun ρ st σ ι H Q rs re h => ?_⟩
  refine q ρ st σ ι H _ rs re (h.first fun w st1 ι1 v H1 e1 rs1 r1 h1 => ?_)
  obtain ⟨c, rfl, h2⟩ := asB_rep r1 h1
  refine ⟨c, rfl, ?_⟩
  cases c with
  | true => exact h2.now rs1 (.bl _)
  | false => exact q' ρ st1 σ ι1 H1 Q rs1 (re.ext e1) h2
theorem ev_not (ha : EV X G W a ma) : EV X G W (.UnaryOp .Not a pos) (eNot ma) := by
  obtain ⟨t, p, q⟩ := ha
  refine ⟨_, pe_not p, fun ρ st σ ι H Q rs re h => ?_⟩
  refine q ρ st σ ι H _ rs re (h.first fun w st1 ι1 v H1 e1 rs1 r1 h1 => ?_)
  obtain ⟨c, rfl, h2⟩ := asB_rep r1 h1
  exact ⟨c, rfl, h2.now rs1 (.bl _)⟩
def eNeg (a : EM) : EM := fun ρ st => (a ρ st).bind fun w st1 => match w with | .v (.int i) => .ok (.v (.int (-i))) st1 | _ => .bad
theorem ev_neg (ha : EV X G W a ma) : EV X G W (.UnaryOp .USub a pos) (eNeg ma) := by
  obtain ⟨t, p, q⟩ := ha
  refine ⟨_, pe_un un_neg p, fun ρ st σ ι H Q rs re h => ?_⟩
  refine q ρ st σ ι H _ rs re (h.first fun w st1 ι1 v H1 e1 rs1 r1 h1 => ?_)
  split at h1
  · cases r1; exact ⟨_, rfl, h1.now rs1 (.int _)⟩
  · exact h1.elim
/-! ### tests -/
def tOf (a : EM) : BM := fun ρ st => (a ρ st).bind asB
def tAnd (a b : BM) : BM := fun ρ st => (a ρ st).bind fun c st1 => if c then b ρ st1 else .ok false st1
def tOr (a b : BM) : BM := fun ρ st => (a ρ st).bind fun c st1 => if c then .ok true st1 else b ρ st1
def tNot (a : BM) : BM := fun ρ st => (a ρ st).bind fun c st1 => .ok (!c) st1
/-- a test whatever its whole is -/
def WV (X : Cx) (G : Gc) (W : WX) (e : Expr) (m : BM) : Prop := ∃ t, PW X e t ∧ ∀ ρ st σ ι H Q, RelS G ι st H → RelE G ι H ρ σ → PostB G W σ ι H (m ρ st) Q → t σ H Q
theorem WV.tv {e : Expr} {m : BM} (h : WV X G W e m) : TV X G W e m := by
  obtain ⟨t, p, q⟩ := h
  exact ⟨t, p.pt, q⟩
theorem tv_val {e : Expr} {m : EM} (h : EV X G W e m) (he : ∀ whole, isTrue e X.env whole = (do let v ← whole; standAt e.pos; holding [v] (truthy v))) : TV X G W e (tOf m) := by
  obtain ⟨t, p, q⟩ := h
  refine ⟨_, pt_val p he, fun ρ st σ ι H Q rs re h => ?_⟩
  refine q ρ st σ ι H _ rs re (PostB.first h fun w st1 ι1 v H1 e1 rs1 r1 h1 => ?_)
  unfold asB at h1
  split at h1
  · cases r1; exact ⟨_, rfl, h1 ι1 H1 (Ext.refl _ _) rs1⟩
  · exact h1.elim
theorem wv_and1 (ha : TV X G W a ta) : WV X G W (.BoolOp .And [a] pos) ta := by
  obtain ⟨t, p, q⟩ := ha
  exact ⟨_, pw_and1 p, q⟩
theorem wv_or1 (ha : TV X G W a ta) : WV X G W (.BoolOp .Or [a] pos) ta := by
  obtain ⟨t, p, q⟩ := ha
  exact ⟨_, pw_or1 p, q⟩
theorem wv_and (ha : TV X G W a ta) (hb : WV X G W (.BoolOp .And (b :: rest) pos) tb) : WV X G W (.BoolOp .And (a :: b :: rest) pos) (tAnd ta tb) := by
  obtain ⟨t, p, q⟩ := ha
  obtain ⟨u, p', q'⟩ := hb
  refine ⟨_, pw_and p p', fun ρ st σ ι H Q rs re h => ?_⟩
  refine q ρ st σ ι H _ rs re (PostB.firstB h fun c st1 ι1 H1 e1 rs1 h1 => ?_)
  cases c with
  | true => exact q' ρ st1 σ ι1 H1 Q rs1 (re.ext e1) h1
  | false => exact h1 ι1 H1 (Ext.refl _ _) rs1
theorem wv_or (ha : TV X G W a ta) (hb : WV X G W (.BoolOp .Or (b :: rest) pos) tb) : WV X G W (.BoolOp .Or (a :: b :: rest) pos) (tOr ta tb) := by
  obtain ⟨t, p, q⟩ := ha
  obtain ⟨u, p', q'⟩ := hb
  refine ⟨_, pw_or p p', fun ρ st σ ι H Q rs re h => ?_⟩
  refine q ρ st σ ι H _ rs re (PostB.firstB h fun c st1 ι1 H1 e1 rs1 h1 => ?_)
  cases c with
  | true => exact h1 ι1 H1 (Ext.refl _ _) rs1
  | false => exact q' ρ st1 σ ι1 H1 Q rs1 (re.ext e1) h1
theorem tv_not (ha : TV X G W a ta) : TV X G W (.UnaryOp .Not a pos) (tNot ta) := by
  obtain ⟨t, p, q⟩ := ha
  refine ⟨_, pt_not p, fun ρ st σ ι H Q rs re h => ?_⟩
  refine q ρ st σ ι H _ rs re (PostB.firstB h fun c st1 ι1 H1 e1 rs1 h1 => ?_)
  exact h1 ι1 H1 (Ext.refl _ _) rs1
def eIte (c : BM) (a b : EM) : EM := fun ρ st => (c ρ st).bind fun k st1 => if k then a ρ st1 else b ρ st1
theorem ev_ite (hc : TV X G W c tc) (ha : EV X G W a ma) (hb : EV X G W b mb) : EV X G W (.IfExp c a b pos) (eIte tc ma mb) := by
  obtain ⟨t, p, q⟩ := hc
  obtain ⟨u, p', q'⟩ := ha
  obtain ⟨u2, p2, q2⟩ := hb
  refine ⟨_, pe_ifExp p p' p2, fun ρ st σ ι H Q rs re h => ?_⟩
  refine q ρ st σ ι H _ rs re (h.firstB fun k st1 ι1 H1 e1 rs1 h1 => ?_)
  cases k with
  | true => exact q' ρ st1 σ ι1 H1 Q rs1 (re.ext e1) h1
  | false => exact q2 ρ st1 σ ι1 H1 Q rs1 (re.ext e1) h1
/-- a < b < c -/
def eChn (f g : OF) (a b c : EM) : EM := fun ρ st => (a ρ st).bind fun x st1 => (b ρ st1).bind fun y st2 => (f x y st2).bind fun z st3 => (asB z st3).bind fun k st4 =>
  if k then (c ρ st4).bind fun u st5 => g y u st5 else .ok (.v (.bl false)) st4
theorem ev_chn {op op' : CmpOp} {r r' : R2} {f g : OF} (ho : OpR X (compareOp op) r) (ho' : OpR X (compareOp op') r') (hf : OpD G r f) (hg : OpD G r' g) (ha : EV X G W a ma) (hb : EV X G W b mb) (hc : EV X G W c mc)
    (hm : noStar c = true) : EV X G W (.Compare a [op, op'] [b, c] pos) (eChn f g ma mb mc) := by
  obtain ⟨t1, p1, q1⟩ := ha
  obtain ⟨t2, p2, q2⟩ := hb
  obtain ⟨t3, p3, q3⟩ := hc
  refine ⟨_, pe_chain ho ho' p1 p2 p3 (show behindInMarks op' c = false from behind_plain hm), fun ρ st σ ι H Q rs re h => ?_⟩
  refine q1 ρ st σ ι H _ rs re (h.first fun wx st1 ι1 x H1 e1 rs1 rx h1 => ?_)
  refine q2 ρ st1 σ ι1 H1 _ rs1 (re.ext e1) (h1.first fun wy st2 ι2 y H2 e2 rs2 ry h2 => ?_)
  refine hf W σ ι2 st2 H2 x y wx wy _ rs2 (rx.ext e2) ry (h2.first fun wz st3 ι3 z H3 e3 rs3 rz h3 => ?_)
  obtain ⟨k, rfl, h4⟩ := asB_rep rz h3
  refine ⟨k, rfl, ?_⟩
  cases k with
  | true =>
    refine q3 ρ st3 σ ι3 H3 _ rs3 ((re.ext e1).ext (e2.tr e3)) (Post.first (f := fun u st5 => g wy u st5) h4 fun wu st5 ι5 u H5 e5 rs5 ru h5 => ?_)
    exact hg W σ ι5 st5 H5 y u wy wu Q rs5 (ry.ext (e3.tr e5)) ru h5
  | false => exact h4.now rs3 (.bl _)
theorem tv_chn {op op' : CmpOp} {r r' : R2} {f g : OF} (ho : OpR X (compareOp op) r) (ho' : OpR X (compareOp op') r') (hf : OpD G r f) (hg : OpD G r' g) (ha : EV X G W a ma) (hb : EV X G W b mb) (hc : EV X G W c mc)
    (hm : noStar c = true) : TV X G W (.Compare a [op, op'] [b, c] pos) (tOf (eChn f g ma mb mc)) := by
  obtain ⟨t1, p1, q1⟩ := ha
  obtain ⟨t2, p2, q2⟩ := hb
  obtain ⟨t3, p3, q3⟩ := hc
  refine ⟨_, pt_chain ho ho' p1 p2 p3 (show behindInMarks op' c = false from behind_plain hm), fun ρ st σ ι H Q rs re h => ?_⟩
  have fin : ∀ {ι1 H1} {r : R Wd}, PostB G W σ ι1 H1 (r.bind asB) Q → Post G W σ ι1 H1 r (fun x H' => ∃ k, x = .bl k ∧ Q k H') := fun {ι1 H1 r} h => PostB.first h fun w st1 ι2 v H2 e2 rs2 r2 h2 => by
    unfold asB at h2
    split at h2
    · cases r2; exact ⟨_, rfl, h2 ι2 H2 (Ext.refl _ _) rs2⟩
    · exact h2.elim
  have h := fin h
  refine q1 ρ st σ ι H _ rs re (h.first fun wx st1 ι1 x H1 e1 rs1 rx h1 => ?_)
  refine q2 ρ st1 σ ι1 H1 _ rs1 (re.ext e1) (h1.first fun wy st2 ι2 y H2 e2 rs2 ry h2 => ?_)
  refine hf W σ ι2 st2 H2 x y wx wy _ rs2 (rx.ext e2) ry (h2.first fun wz st3 ι3 z H3 e3 rs3 rz h3 => ?_)
  obtain ⟨k, rfl, h4⟩ := asB_rep rz h3
  refine ⟨k, rfl, ?_⟩
  cases k with
  | true =>
    refine q3 ρ st3 σ ι3 H3 _ rs3 ((re.ext e1).ext (e2.tr e3)) (Post.first (f := fun u st5 => g wy u st5) h4 fun wu st5 ι5 u H5 e5 rs5 ru h5 => ?_)
    exact hg W σ ι5 st5 H5 y u wy wu _ rs5 (ry.ext (e3.tr e5)) ru h5
  | false => exact h4.now rs3 (.bl _)

/-! ### argument lists, displays -/
def lNil : LM := fun _ st => .ok [] st
def lCons (a : EM) (r : LM) : LM := fun ρ st => (a ρ st).bind fun w st1 => (r ρ st1).bind fun ws st2 => .ok (w :: ws) st2
variable {es : List Expr} {ml : LM}
theorem av_nil : AV X G W [] lNil := ⟨_, pa_nil, fun ρ st σ ι H Q rs re h => h ι [] H (Ext.refl _ _) rs .nil⟩
theorem av_cons (hs : noStar a = true) (ha : EV X G W a ma) (hl : AV X G W es ml) : AV X G W (a :: es) (lCons ma ml) := by
  obtain ⟨t, p, q⟩ := ha
  obtain ⟨u, p', q'⟩ := hl
  refine ⟨_, pa_cons p p' (star_plain hs), fun ρ st σ ι H Q rs re h => ?_⟩
  refine q ρ st σ ι H _ rs re (PostL.first h fun w st1 ι1 v H1 e1 rs1 r1 h1 => ?_)
  refine q' ρ st1 σ ι1 H1 _ rs1 (re.ext e1) (PostL.firstL h1 fun ws st2 ι2 vs H2 e2 rs2 r2 h2 => ?_)
  exact h2 ι2 _ H2 (Ext.refl _ _) rs2 (.cons (r1.ext e2) r2)
/-- (a, b, ..), [a, b, ..]: frozen things within -/
def mkTup (ws : List Wd) (st : Sto) : R Wd := match allT ws with
  | some ts => if ts.length ≤ 1000 then .ok (.v (.tup ts)) st else .bad
  | none => .bad
def mkLst (ws : List Wd) (st : Sto) : R Wd := match allT ws with
  | some ts => if ts.length ≤ 1000 then .ok (.v (.lst ts)) st else .bad
  | none => .bad
/-- a list of our own -/
def mkLstM (ws : List Wd) (st : Sto) : R Wd := if ws.length ≤ 1000 then .ok (.ref st.length) (st ++ [.lst ws]) else .bad
theorem small1000L {n : Nat} (h : n ≤ 1000) : n ≤ sizeLine := Nat.le_of_lt (small1000 h)
theorem ev_tup {k : Nat} (ha : AV X G W es ml) : EV X G W (.Tuple es k pos) (fun ρ st => (ml ρ st).bind mkTup) := by
  obtain ⟨t, p, q⟩ := ha
  refine ⟨_, pe_tup p, fun ρ st σ ι H Q rs re h => ?_⟩
  refine q ρ st σ ι H _ rs re (h.firstL fun ws st1 ι1 vs H1 e1 rs1 r1 h1 => ?_)
  unfold mkTup at h1
  split at h1
  · rename_i ts e
    rw [allT_some e] at r1
    have r1 := RepWs.of_map r1
    split at h1
    · rename_i hl
      exact ⟨by rw [← r1.length]; exact small1000L hl, fun p n => h1.tup rs1 r1 (small1000L hl) n⟩
    · exact h1.elim
  · exact h1.elim
theorem ev_lst (ha : AV X G W es ml) : EV X G W (.List es pos) (fun ρ st => (ml ρ st).bind mkLst) := by
  obtain ⟨t, p, q⟩ := ha
  refine ⟨_, pe_lst p, fun ρ st σ ι H Q rs re h => ?_⟩
  refine q ρ st σ ι H _ rs re (h.firstL fun ws st1 ι1 vs H1 e1 rs1 r1 h1 => ?_)
  unfold mkLst at h1
  split at h1
  · rename_i ts e
    rw [allT_some e] at r1
    have r1 := RepWs.of_map r1
    split at h1
    · rename_i hl
      exact ⟨by rw [← r1.length]; exact small1000L hl, fun p n => h1.lst rs1 r1 (small1000L hl) n⟩
    · exact h1.elim
  · exact h1.elim
theorem ev_lstM (ha : AV X G W es ml) : EV X G W (.List es pos) (fun ρ st => (ml ρ st).bind mkLstM) := by
  obtain ⟨t, p, q⟩ := ha
  refine ⟨_, pe_lst p, fun ρ st σ ι H Q rs re h => ?_⟩
  refine q ρ st σ ι H _ rs re (h.firstL fun ws st1 ι1 vs H1 e1 rs1 r1 h1 => ?_)
  unfold mkLstM at h1
  split at h1
  · rename_i hl
    exact ⟨by rw [← r1.length]; exact small1000L hl, fun p n => h1.lstM rs1 r1 (small1000L hl) n⟩
  · exact h1.elim

/-! ### items -/
def bIdx : OF := fun x y st => match y with
  | .v (.int i) => match x with
    | .v (.str z) => if z.length ≤ LINE then match atI z.cps.toList i with
      | some c => .ok (.v (.str ⟨#[c]⟩)) st
      | none => .bad
      else .bad
    | x => match items st x with
      | some ws => match atI ws i with
        | some w => .ok w st
        | none => .bad
      | none => match dLook st x y with
        | some (some w) => .ok w st
        | _ => .bad
  | y => match dLook st x y with
    | some (some w) => .ok w st
    | _ => .bad
def rIxD : R2 := fun x y H Q => ∃ a v, x = .ref a ∧ DGet H a y (some v) ∧ Q v H
theorem ix_dict (hu : X.A.units + 1 < cLine) : IxR X rIxD := by
  intro value slice pins s σ H x y v u Q I rx ry h hs
  obtain ⟨a, w, rfl, g, q⟩ := h
  cases rx
  exact tail_any (dict_typeIs I g) PySem.F.slot_dict_getitem.lookup (d_getItem hu I g ry fun w' s3 I3 rw' => ⟨w, H, I3, rw', q⟩) hs
def rIxA (K : PySem.W.Frag) : R2 := fun x y H Q => rIx K x y H Q ∨ rIxD x y H Q
theorem ix_any (hu : X.A.units + 1 < cLine) : IxR X (rIxA X.K) := IxR.or ix_seq (ix_dict hu)
theorem atI_rep {ι : Io} {H : Hp} {ws : List Wd} {vs : List V} {i : Int} {w : Wd} (r : RepWs G ι H ws vs) (h : atI ws i = some w) : ∃ v, atI vs i = some v ∧ RepW G ι H w v := by
  unfold atI at h ⊢
  rw [← r.length]
  simp only [Option.bind_eq_some_iff] at h
  obtain ⟨j, h1, h2⟩ := h
  obtain ⟨v, h3, h4⟩ := RepWs.get r h2
  exact ⟨v, by rw [h1]; exact h3, h4⟩
theorem od_idx : OpD G (rIxA G.K) bIdx := by
  intro W σ ι st H x y wx wy Q rs rx ry h
  have dl : Post G W σ ι H (match dLook st wx wy with | some (some w) => .ok w st | _ => .bad) Q → rIxD x y H Q := fun h => by
    split at h
    · rename_i w e
      obtain ⟨a, u, rfl, r, g⟩ := dLook_rep rs rx ry e
      rcases r with ⟨h1, _⟩ | ⟨w', v, h1, h2, h3⟩
      · cases h1
      · cases h1
        subst h2
        exact ⟨a, v, rfl, g, h.now rs h3⟩
    · exact h.elim
  unfold bIdx at h
  split at h
  · rename_i i
    split at h
    · rename_i z
      split at h
      · rename_i hl
        split at h
        · rename_i c e
          cases rx
          cases ry
          exact .inl (.inr (.inr ⟨z, i, c, rfl, rfl, hl, e, h.now rs (.str _)⟩))
        · exact h.elim
      · exact h.elim
    · split at h
      · rename_i ws e
        split at h
        · rename_i w e2
          obtain ⟨a, vs, rfl, h1, h2, _⟩ := items_rep rs rx e
          obtain ⟨v, h3, h4⟩ := atI_rep h2 e2
          cases ry
          rcases h1 with h1 | h1
          · exact .inl (.inl ⟨a, vs, i, v, rfl, rfl, h1, h3, h.now rs h4⟩)
          · exact .inl (.inr (.inl ⟨a, vs, i, v, rfl, rfl, h1, h3, h.now rs h4⟩))
        · exact h.elim
      · exact .inr (dl h)
  · exact .inr (dl h)
theorem ev_idx (hu : X.A.units + 1 < cLine) (hK : X.K = G.K) (hs : noStar b = true) (ha : EV X G W a ma) (hb : EV X G W b mb) : EV X G W (.Subscript a b pos) (fun ρ st => (ma ρ st).bind fun x st1 => (mb ρ st1).bind fun y st2 => bIdx x y st2) := by
  obtain ⟨t1, p1, q1⟩ := ha
  obtain ⟨t2, p2, q2⟩ := hb
  refine ⟨_, pe_ix (ix_any hu) p1 p2 (fun _ _ => subs_plain hs), fun ρ st σ ι H Q rs re h => ?_⟩
  refine q1 ρ st σ ι H _ rs re (h.first fun wx st1 ι1 x H1 e1 rs1 rx h1 => ?_)
  refine q2 ρ st1 σ ι1 H1 _ rs1 (re.ext e1) (h1.first fun wy st2 ι2 y H2 e2 rs2 ry h2 => ?_)
  rw [hK]
  exact od_idx W σ ι2 st2 H2 x y wx wy Q rs2 (rx.ext e2) ry h2

/-! ### slices -/
/-- a part of a slice -/
abbrev PM := Ev → Sto → R (Option Int)
def pNone : PM := fun _ st => .ok none st
def pSome (a : EM) : PM := fun ρ st => (a ρ st).bind fun w st1 => match w with | .v (.int i) => .ok (some i) st1 | _ => .bad
def cutT {α : Type} (xs : List α) (lo hi : Option Int) : List α := (xs.drop (HT.sIx xs.length 0 lo)).take (HT.sIx xs.length xs.length hi - HT.sIx xs.length 0 lo)
def bSlc (x : Wd) (lo hi : Option Int) (st : Sto) : R Wd := match x with
  | .v (.str z) => if z.length ≤ LINE then .ok (.v (.str (cutS z lo hi))) st else .bad
  | .v (.tup ts) => .ok (.v (.tup (cutT ts lo hi))) st
  | .v (.scr ns) => .ok (.v (.lst ((cutT ns lo hi).map T.int))) st
  | x => match itemsL st x with
    | some ws => match allT ws with
      | some ts => .ok (.v (.lst (cutT ts lo hi))) st
      | none => .bad
    | none => .bad
def eSlc (a : EM) (lo hi : PM) : EM := fun ρ st => (a ρ st).bind fun x st1 => (lo ρ st1).bind fun l st2 => (hi ρ st2).bind fun h st3 => bSlc x l h st3
def OV (X : Cx) (G : Gc) (W : WX) (e : Option Expr) (m : PM) : Prop := ∃ t, PO X e t ∧ ∀ ρ st σ ι H Q, RelS G ι st H → RelE G ι H ρ σ → (match m ρ st with
  | .bad => False
  | .ok w st' => ∀ ι' H', Ext ι H ι' H' → RelS G ι' st' H' → Q w H'
  | .exc x st' => ∀ ι' H' cls d, Ext ι H ι' H' → RelS G ι' st' H' → RepX G ι' H' x cls d → W cls d σ H') → t σ H Q
theorem ov_none : OV X G W none pNone := ⟨_, po_none, fun ρ st σ ι H Q rs re h => h ι H (Ext.refl _ _) rs⟩
theorem ov_some (ha : EV X G W a ma) : OV X G W (some a) (pSome ma) := by
  obtain ⟨t, p, q⟩ := ha
  refine ⟨_, po_some p, fun ρ st σ ι H Q rs re h => ?_⟩
  refine q ρ st σ ι H _ rs re ?_
  unfold pSome at h
  cases e : ma ρ st with
  | bad => rw [e] at h; exact h
  | exc x st' => rw [e] at h; exact h
  | ok w st' =>
    rw [e, R.bind_ok] at h
    intro ι1 v H1 e1 rs1 r1
    cases w with
    | ref n => exact (show False from h).elim
    | v t =>
      cases t with
      | int i => cases r1; exact ⟨_, rfl, h ι1 H1 e1 rs1⟩
      | _ => exact (show False from h).elim
theorem cutV_map {xs : List Int} {lo hi : Option Int} : cutV (xs.map V.int) lo hi = (cutT xs lo hi).map V.int := by
  unfold cutV cutT
  simp [List.map_drop, List.map_take]
theorem Reps.cut {ι : Io} {H : Hp} {ts : List T} {vs : List V} {lo hi : Option Int} (r : Reps G ι H ts vs) : Reps G ι H (cutT ts lo hi) (cutV vs lo hi) := by
  unfold cutT cutV
  rw [← r.length]
  have z := RepWs.take (HT.sIx ts.length ts.length hi - HT.sIx ts.length 0 lo) (RepWs.drop (HT.sIx ts.length 0 lo) r.map)
  rw [← List.map_drop, ← List.map_take] at z
  exact z.of_map
theorem cutT_length {α : Type} (xs : List α) (lo hi : Option Int) : (cutT xs lo hi).length ≤ xs.length := by
  unfold cutT
  rw [List.length_take, List.length_drop]
  omega
theorem ints_reps {ι : Io} {H : Hp} : ∀ ns : List Int, Reps G ι H (ns.map T.int) (ns.map V.int)
  | [] => .nil
  | n :: r => .cons (.int n) (ints_reps r)
def rSlE (K : PySem.W.Frag) : V → Option Int → Option Int → Hp → VK → Prop := fun x lo hi H Q => rSlL K x lo hi H Q ∨ (rSlA K x lo hi H Q ∨ rSlS x lo hi H Q)
theorem sl_any : SlR X (rSlE X.K) := SlR.or sl_list (SlR.or sl_tupA sl_str)
theorem ev_slc {lo hi : Option Expr} {p2 : Pos} {ml mh : PM} (hK : X.K = G.K) (ha : EV X G W a ma) (hl : OV X G W lo ml) (hh : OV X G W hi mh) : EV X G W (.Subscript a (.Slice lo hi none p2) pos) (eSlc ma ml mh) := by
  obtain ⟨t1, p1, q1⟩ := ha
  obtain ⟨t2, p2, q2⟩ := hl
  obtain ⟨t3, p3, q3⟩ := hh
  refine ⟨_, pe_slice sl_any p1 p2 p3, fun ρ st σ ι H Q rs re h => ?_⟩
  refine q1 ρ st σ ι H _ rs re (h.first fun wx st1 ι1 x H1 e1 rs1 rx h1 => ?_)
  refine q2 ρ st1 σ ι1 H1 _ rs1 (re.ext e1) ?_
  cases em : ml ρ st1 with
  | bad => rw [em] at h1; exact h1
  | exc x st' => rw [em] at h1; exact fun ι' H' cls d e' => h1 ι' H' cls d e'
  | ok l st2 =>
    rw [em, R.bind_ok] at h1
    intro ι2 H2 e2 rs2
    have h2 := Post.at_ e2 h1
    refine q3 ρ st2 σ ι2 H2 _ rs2 (re.ext (e1.tr e2)) ?_
    cases en : mh ρ st2 with
    | bad => rw [en] at h2; exact h2
    | exc x st' => rw [en] at h2; exact fun ι' H' cls d e' => h2 ι' H' cls d e'
    | ok u st3 =>
      rw [en, R.bind_ok] at h2
      intro ι3 H3 e3 rs3
      have h3 := Post.at_ e3 h2
      have rx3 := (rx.ext e2).ext e3
      have lists : ∀ {r : R Wd}, r = (match itemsL st3 wx with
        | some ws => match allT ws with
          | some ts => .ok (.v (.lst (cutT ts l u))) st3
          | none => .bad
        | none => .bad) → Post G W σ ι3 H3 r Q → rSlL X.K x l u H3 Q := fun {r} er h => by
        subst er
        split at h
        · rename_i ws e4
          split at h
          · rename_i ts e5
            obtain ⟨a, vs, rfl, g1, g2, g3⟩ := itemsL_rep rs3 rx3 e4
            rw [allT_some e5] at g2 g3
            have g2 := RepWs.of_map g2
            refine ⟨a, vs, rfl, SqL.of g1, fun p n => h.lst rs3 g2.cut ?_ n⟩
            have := cutT_length ts l u
            simp at g3
            omega
          · exact h.elim
        · exact h.elim
      unfold bSlc at h3
      split at h3
      · rename_i z
        split at h3
        · rename_i hz
          cases rx3
          exact .inr (.inr ⟨z, rfl, hz, h3.now rs3 (.str _)⟩)
        · exact h3.elim
      · rename_i ts
        obtain ⟨a, vs, rfl, g1, g2, g3⟩ := Rep.tupR rx3
        have gl := g2.length
        refine .inr (.inl ⟨a, vs, rfl, SqT.of g1, fun hw => ?_, fun _ p n => h3.tup rs3 g2.cut (Nat.le_trans (cutT_length _ _ _) g3) n⟩)
        have : cutT ts l u = ts := by
          unfold cutT
          rw [gl, hw.1, hw.2]
          simp [← gl]
        rw [this] at h3
        exact h3.now rs3 rx3
      · rename_i ns
        cases rx3 with
        | scr g1 g2 =>
          refine .inl ⟨_, _, rfl, (show SqL X.K _ _ (ns.map V.int) from by rw [hK]; exact g1.sq), fun p n => ?_⟩
          rw [cutV_map]
          refine h3.lst rs3 (ints_reps _) ?_ n
          have := cutT_length ns l u
          rw [List.length_map, sizeLine_eq]
          omega
      · exact .inl (lists rfl h3)

/-! ### built-ins by name -/
/-- a call by values -/
def CallD (G : Gc) (r : List V → Hp → VK → Prop) (f : List Wd → Sto → R Wd) : Prop := ∀ W σ ι st H vs ws Q, RelS G ι st H → RepWs G ι H ws vs → Post G W σ ι H (f ws st) Q → r vs H Q
theorem ev_callB {r : List V → Hp → VK → Prop} {f : List Wd → Sto → R Wd} {id : String} {x : Str} {p : Pos} (hc : CallR X (.builtin id) r) (hf : CallD G r f) (hg : Gl X x) (hm : X.mg x = none) (hv : bootBuiltins x = some (.builtin id))
    (hn : x ≠ "__name__") (hdb : (x == ("__debug__" : Str)) = false) (hs : noStar a = true) (hss : es.all noStar = true) (ha : AV X G W (a :: es) ml) : EV X G W (.Call (.Name x p) (a :: es) [] pos) (fun ρ st => (ml ρ st).bind f) := by
  obtain ⟨t, pa, q⟩ := ha
  refine ⟨_, pe_callB hc hg hm hv pa hn hdb (star_plain hs) (stars_plain hss), fun ρ st σ ι H Q rs re h => ?_⟩
  refine q ρ st σ ι H _ rs re (h.firstL fun ws st1 ι1 vs H1 e1 rs1 r1 h1 => ?_)
  exact hf W σ ι1 st1 H1 vs ws Q rs1 r1 h1
theorem ev_callTy {r : List V → Hp → VK → Prop} {f : List Wd → Sto → R Wd} {id : String} {x : Str} {p : Pos} (hc : CallR X (.type id) r) (hf : CallD G r f) (hg : Gl X x) (hm : X.mg x = none) (hv : bootBuiltins x = some (.type id))
    (hn : x ≠ "__name__") (hdb : (x == ("__debug__" : Str)) = false) (hs : noStar a = true) (hss : es.all noStar = true) (ha : AV X G W (a :: es) ml) : EV X G W (.Call (.Name x p) (a :: es) [] pos) (fun ρ st => (ml ρ st).bind f) := by
  obtain ⟨t, pa, q⟩ := ha
  refine ⟨_, pe_callTy hc hg hm hv pa hn hdb (star_plain hs) (stars_plain hss), fun ρ st σ ι H Q rs re h => ?_⟩
  refine q ρ st σ ι H _ rs re (h.firstL fun ws st1 ι1 vs H1 e1 rs1 r1 h1 => ?_)
  exact hf W σ ι1 st1 H1 vs ws Q rs1 r1 h1
end
end DL

set_option Elab.async false
set_option linter.all false
set_option maxRecDepth 100000
set_option maxHeartbeats 4000000
/-! DLf: statements by mirrors: blocks, stores, if, for, while. -/
namespace DL
open PySem PySem.Spec PyProof.Rows L2

inductive RS where
  | nx (ρ : Ev) (st : Sto) | rt (w : Wd) (st : Sto) | bk (ρ : Ev) (st : Sto) | ct (ρ : Ev) (st : Sto) | ex (x : Exn) (ρ : Ev) (st : Sto) | bad
abbrev SM := Ev → Sto → RS
def R.toS {α : Type} (r : R α) (ρ : Ev) (f : α → Sto → RS) : RS := match r with
  | .ok w st => f w st
  | .exc x st => .ex x ρ st
  | .bad => .bad
@[simp] theorem R.toS_ok {α : Type} (a : α) (st : Sto) (ρ : Ev) (f : α → Sto → RS) : (R.ok a st).toS ρ f = f a st := rfl
@[simp] theorem R.toS_exc {α : Type} (x : Exn) (st : Sto) (ρ : Ev) (f : α → Sto → RS) : (R.exc x st : R α).toS ρ f = .ex x ρ st := rfl
@[simp] theorem R.toS_bad {α : Type} (ρ : Ev) (f : α → Sto → RS) : (R.bad : R α).toS ρ f = .bad := rfl
def PostS (G : Gc) (W : WX) (ι : Io) (H : Hp) (r : RS) (D : Ends) : Prop := match r with
  | .bad => False
  | .nx ρ st => ∀ ι' σ' H', Ext ι H ι' H' → RelS G ι' st H' → RelE G ι' H' ρ σ' → D.nx σ' H'
  | .bk ρ st => ∀ ι' σ' H', Ext ι H ι' H' → RelS G ι' st H' → RelE G ι' H' ρ σ' → D.bk σ' H'
  | .ct ρ st => ∀ ι' σ' H', Ext ι H ι' H' → RelS G ι' st H' → RelE G ι' H' ρ σ' → D.ct σ' H'
  | .rt w st => ∀ ι' v H', Ext ι H ι' H' → RelS G ι' st H' → RepW G ι' H' w v → D.rt v H'
  | .ex x ρ st => ∀ ι' σ' H' cls d, Ext ι H ι' H' → RelS G ι' st H' → RelE G ι' H' ρ σ' → RepX G ι' H' x cls d → W cls d σ' H'
def SV (X : Cx) (G : Gc) (W : WX) (s : Stmt) (m : SM) : Prop := ∃ t, PS X s t ∧ ∀ ρ st σ ι H D, RelS G ι st H → RelE G ι H ρ σ → PostS G W ι H (m ρ st) D → t D σ H
def SVs (X : Cx) (G : Gc) (W : WX) (s : List Stmt) (m : SM) : Prop := ∃ t, PSs X s t ∧ ∀ ρ st σ ι H D, RelS G ι st H → RelE G ι H ρ σ → PostS G W ι H (m ρ st) D → t D σ H
section
variable {G : Gc} {W : WX} {σ : St} {ι ι1 : Io} {H H1 : Hp} {D : Ends}
theorem PostS.at_ {r : RS} (e : Ext ι H ι1 H1) (h : PostS G W ι H r D) : PostS G W ι1 H1 r D := by
  cases r with
  | bad => exact h
  | nx ρ st => exact fun ι' σ' H' e' => h ι' σ' H' (e.tr e')
  | bk ρ st => exact fun ι' σ' H' e' => h ι' σ' H' (e.tr e')
  | ct ρ st => exact fun ι' σ' H' e' => h ι' σ' H' (e.tr e')
  | rt w st => exact fun ι' v H' e' => h ι' v H' (e.tr e')
  | ex x ρ st => exact fun ι' σ' H' cls d e' => h ι' σ' H' cls d (e.tr e')
theorem PostS.first {r : R Wd} {ρ : Ev} {f : Wd → Sto → RS} {P : VK} (re : RelE G ι H ρ σ) (h : PostS G W ι H (r.toS ρ f) D)
    (k : ∀ w st ι' v H', Ext ι H ι' H' → RelS G ι' st H' → RepW G ι' H' w v → PostS G W ι' H' (f w st) D → P v H') : Post G W σ ι H r P := by
  cases r with
  | bad => exact h
  | exc x st => exact fun ι' H' cls d e rs rx => h ι' σ H' cls d e rs (re.ext e) rx
  | ok w st => exact fun ι' v H' e rs rw' => k w st ι' v H' e rs rw' (PostS.at_ e h)
theorem PostS.firstB {r : R Bool} {ρ : Ev} {f : Bool → Sto → RS} {P : Bool → Hp → Prop} (re : RelE G ι H ρ σ) (h : PostS G W ι H (r.toS ρ f) D)
    (k : ∀ w st ι' H', Ext ι H ι' H' → RelS G ι' st H' → PostS G W ι' H' (f w st) D → P w H') : PostB G W σ ι H r P := by
  cases r with
  | bad => exact h
  | exc x st => exact fun ι' H' cls d e rs rx => h ι' σ H' cls d e rs (re.ext e) rx
  | ok w st => exact fun ι' H' e rs => k w st ι' H' e rs (PostS.at_ e h)
theorem PostS.firstL {r : R (List Wd)} {ρ : Ev} {f : List Wd → Sto → RS} {P : List V → Hp → Prop} (re : RelE G ι H ρ σ) (h : PostS G W ι H (r.toS ρ f) D)
    (k : ∀ w st ι' v H', Ext ι H ι' H' → RelS G ι' st H' → RepWs G ι' H' w v → PostS G W ι' H' (f w st) D → P v H') : PostL G W σ ι H r P := by
  cases r with
  | bad => exact h
  | exc x st => exact fun ι' H' cls d e rs rx => h ι' σ H' cls d e rs (re.ext e) rx
  | ok w st => exact fun ι' v H' e rs rw' => k w st ι' v H' e rs rw' (PostS.at_ e h)
end
/-! ### blocks, small statements -/
def sNil : SM := fun ρ st => .nx ρ st
def sSeq (a b : SM) : SM := fun ρ st => match a ρ st with
  | .nx ρ1 st1 => b ρ1 st1
  | r => r
def sRet (a : EM) : SM := fun ρ st => (a ρ st).toS ρ fun w st1 => .rt w st1
def sExp (a : EM) : SM := fun ρ st => (a ρ st).toS ρ fun _ st1 => .nx ρ st1
def sIf (c : BM) (a b : SM) : SM := fun ρ st => (c ρ st).toS ρ fun k st1 => if k then a ρ st1 else b ρ st1
section
variable {X : Cx} {G : Gc} {W : WX} {s : Stmt} {ss : List Stmt} {m m' : SM} {e : Expr} {me : EM} {pos : Pos}
theorem svs_nil : SVs X G W [] sNil := ⟨_, pss_nil, fun ρ st σ ι H D rs re h => h ι σ H (Ext.refl _ _) rs re⟩
theorem svs_cons (a : SV X G W s m) (b : SVs X G W ss m') : SVs X G W (s :: ss) (sSeq m m') := by
  obtain ⟨t, p, q⟩ := a
  obtain ⟨u, p', q'⟩ := b
  refine ⟨_, pss_cons p p', fun ρ st σ ι H D rs re h => ?_⟩
  refine q ρ st σ ι H { D with nx := u D } rs re ?_
  unfold sSeq at h
  cases hm : m ρ st with
  | bad => rw [hm] at h; exact h
  | nx ρ1 st1 =>
    rw [hm] at h
    intro ι1 σ1 H1 e1 rs1 re1
    exact q' ρ1 st1 σ1 ι1 H1 D rs1 re1 (PostS.at_ e1 h)
  | rt w st1 => rw [hm] at h; exact h
  | bk ρ1 st1 => rw [hm] at h; exact h
  | ct ρ1 st1 => rw [hm] at h; exact h
  | ex x ρ1 st1 => rw [hm] at h; exact h
theorem sv_pass : SV X G W (.Pass pos) sNil := ⟨_, ps_pass, fun ρ st σ ι H D rs re h => h ι σ H (Ext.refl _ _) rs re⟩
theorem sv_break : SV X G W (.Break pos) (fun ρ st => .bk ρ st) := ⟨_, ps_break, fun ρ st σ ι H D rs re h => h ι σ H (Ext.refl _ _) rs re⟩
theorem sv_continue : SV X G W (.Continue pos) (fun ρ st => .ct ρ st) := ⟨_, ps_continue, fun ρ st σ ι H D rs re h => h ι σ H (Ext.refl _ _) rs re⟩
theorem sv_ret (h : EV X G W e me) : SV X G W (.Return (some e) pos) (sRet me) := by
  obtain ⟨t, p, q⟩ := h
  refine ⟨_, ps_ret p, fun ρ st σ ι H D rs re h => ?_⟩
  exact q ρ st σ ι H _ rs re (PostS.first re h fun w st1 ι1 v H1 e1 rs1 r1 h1 => h1 ι1 v H1 (Ext.refl _ _) rs1 r1)
theorem sv_retN : SV X G W (.Return none pos) (fun _ st => .rt (.v .non) st) := ⟨_, ps_retN, fun ρ st σ ι H D rs re h => h ι .non H (Ext.refl _ _) rs .non⟩
theorem sv_exp (hp : plainE e = true) (h : EV X G W e me) : SV X G W (.Expr e pos) (sExp me) := by
  obtain ⟨t, p, q⟩ := h
  refine ⟨_, ps_expr p (swaps_plain hp), fun ρ st σ ι H D rs re h => ?_⟩
  exact q ρ st σ ι H _ rs re (PostS.first re h fun w st1 ι1 v H1 e1 rs1 r1 h1 => h1 ι1 σ H1 (Ext.refl _ _) rs1 (re.ext e1))
theorem sv_if {c : Expr} {a b : List Stmt} {mc : BM} {ma mb : SM} (hc : TV X G W c mc) (ha : SVs X G W a ma) (hb : SVs X G W b mb) : SV X G W (.If c a b pos) (sIf mc ma mb) := by
  obtain ⟨t, p, q⟩ := hc
  obtain ⟨u, p', q'⟩ := ha
  obtain ⟨u2, p2, q2⟩ := hb
  refine ⟨_, ps_if p p' p2, fun ρ st σ ι H D rs re h => ?_⟩
  refine q ρ st σ ι H _ rs re (PostS.firstB re h fun k st1 ι1 H1 e1 rs1 h1 => ?_)
  cases k with
  | true => exact q' ρ st1 σ ι1 H1 D rs1 (re.ext e1) h1
  | false => exact q2 ρ st1 σ ι1 H1 D rs1 (re.ext e1) h1
end

/-! ### targets -/
abbrev GM := Wd → Ev → Sto → R Ev
/-- the slots out of vs stand as they stood -/
def PostG (G : Gc) (vs : List Nat) (σ : St) (ι : Io) (H : Hp) (r : R Ev) (Q : St → Hp → Prop) : Prop := match r with
  | .ok ρ st => ∀ ι' σ' H', Ext ι H ι' H' → RelS G ι' st H' → RelE G ι' H' ρ σ' → wipe σ' vs = wipe σ vs → Q σ' H'
  | _ => False
def GV (X : Cx) (G : Gc) (vs : List Nat) (e : Expr) (m : GM) : Prop := ∃ t, PG X e t ∧ ∀ w ρ st σ ι H v Q, RelS G ι st H → RelE G ι H ρ σ → RepW G ι H w v → PostG G vs σ ι H (m w ρ st) Q → t v σ H Q
def GVs (X : Cx) (G : Gc) (vs : List Nat) (es : List Expr) (m : List Wd → Ev → Sto → R Ev) : Prop := ∃ t, PGs X es t ∧ ∀ w ρ st σ ι H v Q, RelS G ι st H → RelE G ι H ρ σ → RepWs G ι H w v → PostG G vs σ ι H (m w ρ st) Q → t v σ H Q
theorem wipe_at (vs : List Nat) (σ : St) (j : Nat) : (wipe σ vs)[j]? = if j ∈ vs then (if j < σ.length then some none else none) else σ[j]? := by
  induction vs with
  | nil => simp [wipe]
  | cons v r ih =>
    unfold wipe
    by_cases hj : v = j
    · subst hj
      by_cases hl : v < σ.length
      · rw [List.getElem?_set_self (by rw [wipe_length]; exact hl)]; simp [hl]
      · rw [List.getElem?_eq_none (by rw [List.length_set, wipe_length]; omega)]; simp [hl]
    · rw [List.getElem?_set_ne hj, ih]
      have : (j ∈ v :: r) ↔ j ∈ r := by simp; intro e; exact absurd e.symm hj
      simp only [this]
theorem wipe_set {vs : List Nat} {σ : St} {i : Nat} {x : Option V} (h : i ∈ vs) : wipe (σ.set i x) vs = wipe σ vs := by
  apply List.ext_getElem?
  intro j
  rw [wipe_at, wipe_at]
  by_cases hj : j ∈ vs
  · simp [hj]
  · simp only [hj, if_false]
    rw [List.getElem?_set_ne (fun (e : i = j) => hj (by rw [← e]; exact h))]
def gNam (i : Nat) : GM := fun w ρ st => .ok (ρ.set i (some w)) st
def gsNil : List Wd → Ev → Sto → R Ev := fun ws ρ st => match ws with | [] => .ok ρ st | _ => .bad
def gsCons (g : GM) (r : List Wd → Ev → Sto → R Ev) : List Wd → Ev → Sto → R Ev := fun ws ρ st => match ws with | w :: ws => (g w ρ st).bind fun ρ1 st1 => r ws ρ1 st1 | [] => .bad
def gTp (n : Nat) (g : List Wd → Ev → Sto → R Ev) : GM := fun w ρ st => match w with
  | .v (.tup ts) => if ts.length = n then g (ts.map Wd.v) ρ st else .bad
  | .v (.ktup ts) => if ts.length = n then g (ts.map Wd.v) ρ st else .bad
  | _ => .bad
section
variable {X : Cx} {G : Gc} {W : WX} {pos : Pos} {e : Expr} {es : List Expr}
variable {vs : List Nat}
theorem PostG.at_ {σ : St} {ι ι1 : Io} {H H1 : Hp} {r : R Ev} {Q : St → Hp → Prop} (e : Ext ι H ι1 H1) (h : PostG G vs σ ι H r Q) : PostG G vs σ ι1 H1 r Q := by
  cases r with
  | bad => exact h
  | exc x st => exact h
  | ok ρ st => exact fun ι' σ' H' e' => h ι' σ' H' (e.tr e')
theorem gv_name {i : Nat} {x : Str} (hN : X.N.Nodup) (hi : X.N[i]? = some x) (hx : Loc X.env.scope x) (hf : X.fn x = true ∨ X.env.scope.names.lookup x = some .local) (hv : i ∈ vs) : GV X G vs (.Name x pos) (gNam i) :=
  ⟨_, pg_name hN hi hx hf, fun w ρ st σ ι H v Q rs re r h => h ι _ H (Ext.refl _ _) rs (re.set i r) (wipe_set hv)⟩
theorem gvs_nil : GVs X G vs [] gsNil := ⟨_, pgs_nil, fun w ρ st σ ι H v Q rs re r h => by
  cases r with
  | nil => exact ⟨rfl, h ι σ H (Ext.refl _ _) rs re rfl⟩
  | cons _ _ => exact h.elim⟩
theorem asg_plain {env : Env} (h : noStar e = true) : (assignEach (e :: es) env).map (·.2) = assign e env :: (assignEach es env).map (·.2) := by
  cases e <;> first | rfl | (cases h)
theorem asg_len {env : Env} : ∀ {es : List Expr}, (assignEach es env).length = es.length
  | [] => rfl
  | e :: es => by
    have z := asg_len (env := env) (es := es)
    cases e <;> (show (assignEach es env).length + 1 = es.length + 1; rw [z])
theorem asg_star {env : Env} : ∀ {es : List Expr}, es.all noStar = true → (assignEach es env).findIdx? (·.1) = none
  | [], _ => rfl
  | e :: es, h => by
    simp only [List.all_cons, Bool.and_eq_true] at h
    have z := asg_star (env := env) h.2
    have step : ∀ t : Value → Sem Unit, ((false, t) :: assignEach es env).findIdx? (·.1) = none := fun t => by
      rw [List.findIdx?_cons]
      simp only [Bool.false_eq_true, if_false, z, Option.map_none]
    have h1 := h.1
    cases e <;> first | exact step _ | (cases h1)
theorem gvs_cons {g : GM} {r : List Wd → Ev → Sto → R Ev} (hs : noStar e = true) (a : GV X G vs e g) (b : GVs X G vs es r) : GVs X G vs (e :: es) (gsCons g r) := by
  obtain ⟨t, p, q⟩ := a
  obtain ⟨u, p', q'⟩ := b
  refine ⟨_, pgs_cons p p' (asg_plain hs), fun w ρ st σ ι H v Q rs re r h => ?_⟩
  cases r with
  | nil => exact h.elim
  | @cons w0 v0 ws us r0 r1 =>
    refine ⟨_, _, rfl, ?_⟩
    refine q w0 ρ st σ ι H v0 _ rs re r0 ?_
    have h : PostG G vs σ ι H ((g w0 ρ st).bind fun ρ1 st1 => _) Q := h
    cases hm : g w0 ρ st with
    | bad => rw [hm] at h; exact h
    | exc x st' => rw [hm] at h; exact h
    | ok ρ1 st1 =>
      rw [hm] at h
      intro ι1 σ1 H1 e1 rs1 re1 w1
      refine q' ws ρ1 st1 σ1 ι1 H1 us Q rs1 re1 (RepWs.ext e1 r1) ?_
      have h := PostG.at_ e1 h
      dsimp only [R.bind] at h
      cases hr : r ws ρ1 st1 with
      | bad => rw [hr] at h; exact h
      | exc x st' => rw [hr] at h; exact h
      | ok ρ2 st2 =>
        rw [hr] at h
        exact fun ι2 σ2 H2 e2 rs2 re2 w2 => h ι2 σ2 H2 e2 rs2 re2 (w2.trans w1)
theorem gv_tup {k : Nat} {g : List Wd → Ev → Sto → R Ev} (hc : X.calm = true) (hK : X.K = G.K) (h : GVs X G vs es g) (hs : es.all noStar = true) : GV X G vs (.Tuple es k pos) (gTp es.length g) := by
  obtain ⟨t, p, q⟩ := h
  refine ⟨_, pg_tup hc p (n := es.length) asg_len (asg_star hs), fun w ρ st σ ι H v Q rs re r h => ?_⟩
  unfold gTp at h
  split at h
  · rename_i ts
    split at h
    · rename_i hl
      obtain ⟨a, us, rfl, h1, h2, _⟩ := Rep.tupR r
      exact ⟨a, us, rfl, SqT.of h1, by rw [← h2.length]; exact hl, q _ ρ st σ ι H us Q rs re h2.map h⟩
    · exact h.elim
  · rename_i ts
    split at h
    · rename_i hl
      obtain ⟨a, us, rfl, h1, h2, _⟩ := Rep.ktupR r
      exact ⟨a, us, rfl, by rw [hK]; exact h1, by rw [← h2.length]; exact hl, q _ ρ st σ ι H us Q rs re h2.map h⟩
    · exact h.elim
  · exact h.elim
/-! ### stores -/
/-- pairs with a key stored: in its place, or at the end -/
def putP {κ α : Type} [DecidableEq κ] (kvs : List (κ × α)) (k : κ) (v : α) : List (κ × α) := if (kvs.any fun kv => decide (kv.1 = k)) then kvs.map (fun kv => if kv.1 = k then (kv.1, v) else kv) else kvs ++ [(k, v)]
def stPut (o i w : Wd) (st : Sto) : R Unit := match o with
  | .ref n => match st[n]? with
    | some (.lst ws) => match i with
      | .v (.int k) => match ixN ws.length k with
        | some j => .ok () (st.set n (.lst (ws.set j w)))
        | none => .bad
      | _ => .bad
    | some (.dct kvs) => match keyW i with
      | some k => if kvs.length < LINE then .ok () (st.set n (.dct (putP kvs k w))) else .bad
      | none => .bad
    | some (.dcT kvs) => match i with
      | .v (.tup ts) => match keyTs ts with
        | some k => if kvs.length < LINE then .ok () (st.set n (.dcT (putP kvs k w))) else .bad
        | none => .bad
      | _ => .bad
    | _ => .bad
  | _ => .bad
def rSetD : V → V → V → Hp → (Hp → Prop) → Prop := fun o i v H Q => ∃ a H', o = .ref a ∧ DPut H a i v H' ∧ Q H'
theorem set_dict (hu : X.A.units + 1 < cLine) : PSet X rSetD := by
  intro pins s σ H o i v ov iv u Q I ro ri rv h
  obtain ⟨a, H', rfl, g, q⟩ := h
  cases ro
  exact d_setItem hu I g ri rv fun s' I' => ⟨H', I', q⟩
theorem PSet.or {r r' : TSet} (h : PSet X r) (h' : PSet X r') : PSet X (fun o i v H Q => r o i v H Q ∨ r' o i v H Q) := by
  intro pins s σ H o i v ov iv u Q I ro ri rv q
  rcases q with q | q
  · exact h pins s σ H o i v ov iv u Q I ro ri rv q
  · exact h' pins s σ H o i v ov iv u Q I ro ri rv q
theorem RepWK.put {κ : Type} [DecidableEq κ] {ι : Io} {H : Hp} {ks : List (κ × Wd)} {vs : List (κ × V)} (r : RepWK G ι H ks vs) (k : κ) {w : Wd} {v : V} (h : RepW G ι H w v) : RepWK G ι H (putP ks k w) (putK vs k v) := by
  have hany : (ks.any fun kv => decide (kv.1 = k)) = (vs.any fun kv => decide (kv.1 = k)) := by
    induction r with
    | nil => rfl
    | cons a b ih => simp only [List.any_cons, ih, a.1]
  have hmap : RepWK G ι H (ks.map fun kv => if kv.1 = k then (kv.1, w) else kv) (vs.map fun kv => if kv.1 = k then (kv.1, v) else kv) := by
    clear hany
    induction r with
    | nil => exact .nil
    | @cons p q ps qs a b ih =>
      rw [List.map_cons, List.map_cons]
      refine .cons ?_ ih
      by_cases hk : p.1 = k
      · rw [if_pos hk, if_pos (a.1 ▸ hk)]; exact ⟨a.1, h⟩
      · rw [if_neg hk, if_neg (a.1 ▸ hk)]; exact a
  have happ : RepWK G ι H (ks ++ [(k, w)]) (vs ++ [(k, v)]) := by
    clear hany hmap
    induction r with
    | nil => exact .cons ⟨rfl, h⟩ .nil
    | cons a b ih => exact .cons a ih
  unfold putP putK
  rw [hany]
  split
  · exact hmap
  · exact happ
theorem putP_length {κ α : Type} [DecidableEq κ] (kvs : List (κ × α)) (k : κ) (v : α) : (putP kvs k v).length ≤ kvs.length + 1 := by
  unfold putP
  split
  · simp
  · simp
theorem RepWK.length {κ : Type} {ι : Io} {H : Hp} {ks : List (κ × Wd)} {vs : List (κ × V)} (r : RepWK G ι H ks vs) : ks.length = vs.length := Paired.length r
theorem stPut_rep {ι : Io} {H : Hp} {st st' : Sto} {o i w : Wd} {x y v : V} {Q : Hp → Prop} (rs : RelS G ι st H) (ro : RepW G ι H o x) (ri : RepW G ι H i y) (rw' : RepW G ι H w v) (h : stPut o i w st = .ok () st')
    (k : ∀ a ho, InI ι a → a ∉ ι.pv → RelS G ι st' (upd H a ho) → Q (upd H a ho)) : rSetL x y v H Q ∨ rSetD x y v H Q := by
  unfold stPut at h
  split at h
  · rename_i n
    obtain ⟨a, hn, rfl⟩ := ro
    split at h
    · rename_i ws e
      obtain ⟨b, vs, h2, h3, hl, h4⟩ := rs.ob e
      rw [hn] at h2; cases h2
      split at h
      · rename_i k'
        split at h
        · rename_i j ej
          cases h
          cases ri
          exact .inl ⟨a, vs, k', j, rfl, rfl, h3, by rw [← h4.length]; exact ej, k a _ (InI.of hn) (rs.dis _ _ hn) (rs.write (o := .lst (ws.set j w)) hn ⟨_, rfl, by simpa using hl, RepWs.set j rw' h4⟩)⟩
        · cases h
      · cases h
    · rename_i kvs e
      obtain ⟨b, vs, h2, h3, hl, h4⟩ := rs.ob e
      rw [hn] at h2; cases h2
      split at h
      · rename_i q eq
        split at h
        · rename_i hz
          cases h
          have := keyW_rep eq ri
          subst this
          exact .inr ⟨a, _, rfl, DPut.k h3 (by rw [← RepWK.length h4]; exact hz), k a _ (InI.of hn) (rs.dis _ _ hn) (rs.write (o := .dct (putP kvs q w)) hn ⟨_, rfl, Nat.le_trans (putP_length _ _ _) hz, RepWK.put h4 q rw'⟩)⟩
        · cases h
      · cases h
    · rename_i kvs e
      obtain ⟨b, vs, h2, h3, hl, h4⟩ := rs.ob e
      rw [hn] at h2; cases h2
      split at h
      · rename_i ts
        split at h
        · rename_i q eq
          split at h
          · rename_i hz
            cases h
            obtain ⟨c, us, rfl, g1, g2, _⟩ := Rep.tupR ri
            rw [keyTs_rep eq g2] at g1
            exact .inr ⟨a, _, rfl, DPut.t h3 g1 (by rw [← RepWK.length h4]; exact hz), k a _ (InI.of hn) (rs.dis _ _ hn) (rs.write (o := .dcT (putP kvs q w)) hn ⟨_, rfl, Nat.le_trans (putP_length _ _ _) hz, RepWK.put h4 q rw'⟩)⟩
          · cases h
        · cases h
      · cases h
    · cases h
  · cases h
/-- target = value -/
def sAsg (a : EM) (g : GM) : SM := fun ρ st => (a ρ st).toS ρ fun w st1 => match g w ρ st1 with
  | .ok ρ2 st2 => .nx ρ2 st2
  | _ => .bad
variable {me : EM}
theorem asg_fin {σ : St} {ι1 : Io} {H1 : Hp} {D : Ends} {r : R Ev} (h : PostS G W ι1 H1 (match r with | .ok ρ2 st2 => .nx ρ2 st2 | _ => .bad) D) : PostG G vs σ ι1 H1 r D.nx := by
  cases r with
  | bad => exact h
  | exc x st => exact h
  | ok ρ st => exact fun ι' σ' H' e rs re _ => h ι' σ' H' e rs re
theorem sv_set {i : Nat} {x : Str} {pos' : Pos} (hN : X.N.Nodup) (hi : X.N[i]? = some x) (hx : Loc X.env.scope x) (hf : X.fn x = true ∨ X.env.scope.names.lookup x = some .local) (he : EV X G W e me) (hs : swapsWith e (some (.Name x pos')) pos.line X.env = pure false) : SV X G W (.Assign [.Name x pos'] e pos) (sAsg me (gNam i)) := by
  obtain ⟨t, p, q⟩ := he
  refine ⟨_, ps_set hN hi hx p hs hf, fun ρ st σ ι H D rs re h => ?_⟩
  exact q ρ st σ ι H _ rs re (PostS.first re h fun w st1 ι1 v H1 e1 rs1 r1 h1 => h1 ι1 _ H1 (Ext.refl _ _) rs1 ((re.ext e1).set i r1))
/-- a, b = e, e no tuple display -/
theorem sv_unp {k : Nat} {tp : Pos} {es : List Expr} {g : GM} (hg : GV X G vs (.Tuple es k tp) g) (he : EV X G W e me) (hp : plainE e = true) (ht : (match e with | .Tuple .. => false | _ => true) = true) : SV X G W (.Assign [.Tuple es k tp] e pos) (sAsg me g) := by
  obtain ⟨t, p, q⟩ := he
  obtain ⟨u, p', q'⟩ := hg
  refine ⟨_, ps_asg p p' (by unfold swapsWithSole; exact swaps_plain hp) (by cases e <;> first | rfl | (cases ht)) rfl, fun ρ st σ ι H D rs re h => ?_⟩
  refine q ρ st σ ι H _ rs re (PostS.first re h fun w st1 ι1 v H1 e1 rs1 r1 h1 => ?_)
  exact q' w ρ st1 σ ι1 H1 v _ rs1 (re.ext e1) r1 (asg_fin h1)
/-- o[i] = e -/
def sPut (e o i : EM) : SM := fun ρ st => (e ρ st).toS ρ fun w st1 => (o ρ st1).toS ρ fun x st2 => (i ρ st2).toS ρ fun y st3 => match stPut x y w st3 with
  | .ok _ st4 => .nx ρ st4
  | _ => .bad
theorem sv_put {o i : Expr} {mo mi : EM} {tp : Pos} (hu : X.A.units + 1 < cLine) (ho : EV X G (fun _ _ _ _ => False) o mo) (hi : EV X G (fun _ _ _ _ => False) i mi) (he : EV X G W e me) (hp : plainE e = true) (hs : noStar i = true) :
    SV X G W (.Assign [.Subscript o i tp] e pos) (fun ρ st => (me ρ st).toS ρ fun w st1 => match mo ρ st1 with
      | .ok x st2 => match mi ρ st2 with
        | .ok y st3 => match stPut x y w st3 with
          | .ok _ st4 => .nx ρ st4
          | _ => .bad
        | _ => .bad
      | _ => .bad) := by
  obtain ⟨t, p, q⟩ := he
  obtain ⟨t2, p2, q2⟩ := ho
  obtain ⟨t3, p3, q3⟩ := hi
  have ha : ∀ v, assign (.Subscript o i tp) X.env v = (do
      let ov ← holding [v] (eval o X.env)
      let iv ← holding [v, ov] (eval i X.env)
      standAt tp
      holding [v, ov, iv] (setItem ov iv v)
      release [v, ov, iv] []) := by
    intro v
    cases i <;> first | rfl | (cases hs)
  have pg := pg_sub (X := X) (pos := tp) p2 p3 (PSet.or set_list (set_dict hu)) ha
  refine ⟨_, ps_asg p pg (by unfold swapsWithSole; exact swaps_plain hp) rfl rfl, fun ρ st σ ι H D rs re h => ?_⟩
  refine q ρ st σ ι H _ rs re (PostS.first re h fun w st1 ι1 v H1 e1 rs1 r1 h1 => ?_)
  refine q2 ρ st1 σ ι1 H1 _ rs1 (re.ext e1) ?_
  cases em : mo ρ st1 with
  | bad => rw [em] at h1; exact h1
  | exc x st' => rw [em] at h1; exact h1.elim
  | ok x st2 =>
    rw [em] at h1
    intro ι2 xv H2 e2 rs2 rx
    refine q3 ρ st2 σ ι2 H2 _ rs2 ((re.ext e1).ext e2) ?_
    have h2 := PostS.at_ e2 h1
    dsimp only at h2
    cases en : mi ρ st2 with
    | bad => rw [en] at h2; exact h2
    | exc y st' => rw [en] at h2; exact h2.elim
    | ok y st3 =>
      rw [en] at h2
      intro ι3 yv H3 e3 rs3 ry
      have h3 := PostS.at_ e3 h2
      dsimp only at h3
      cases ep : stPut x y w st3 with
      | bad => rw [ep] at h3; exact h3.elim
      | exc _ _ => rw [ep] at h3; exact h3.elim
      | ok u st4 =>
        rw [ep] at h3
        refine stPut_rep rs3 (rx.ext e3) ry ((r1.ext e2).ext e3) ep fun a ho hI hv rs4 => ?_
        exact h3 ι3 σ _ (ext_upd hI hv) rs4 ((((re.ext e1).ext e2).ext e3).ext (ext_upd hI hv))
end
end DL

set_option Elab.async false
set_option linter.all false
set_option maxRecDepth 100000
set_option maxHeartbeats 4000000
/-! DLg: what is walked; for, while, comprehensions. -/
namespace DL
open PySem PySem.Spec PyProof.Rows L2
open Classical

/-! ### what is walked -/
def IterOk (G : Gc) (ι : Io) (H : Hp) (J : It) (xs : List Wd) (chk : Sto → Prop) : Prop :=
  ∀ (i : Nat) (ι2 : Io) (st2 : Sto) (H2 : Hp), Exw ι H ι2 H2 → PlM ι ι2 → RelS G ι2 st2 H2 → chk st2 →
    (i = xs.length → J.stop i H2) ∧ ∀ w, xs[i]? = some w → J.go i H2 ∧ ∀ x H3, J.yld i H2 x H3 → (∀ b o, H2 b = some o → H3 b = some o) ∧ RepW G ι2 H3 w x
abbrev IM := Ev → Sto → R (List Wd × (Sto → Prop))
def PostI (G : Gc) (W : WX) (σ : St) (ι : Io) (H : Hp) (r : R (List Wd × (Sto → Prop))) (P : It → Hp → Prop) : Prop := match r with
  | .bad => False
  | .ok (xs, chk) st => ∀ ι' H' J, Ext ι H ι' H' → RelS G ι' st H' → xs.length ≤ sizeLine → IterOk G ι' H' J xs chk → P J H'
  | .exc x st => ∀ ι' H' cls d, Ext ι H ι' H' → RelS G ι' st H' → RepX G ι' H' x cls d → W cls d σ H'
def IV (X : Cx) (G : Gc) (W : WX) (tg iter : Expr) (m : IM) : Prop := ∃ wi, PI X tg iter wi ∧ ∀ ρ st σ ι H P, RelS G ι st H → RelE G ι H ρ σ → PostI G W σ ι H (m ρ st) P → wi σ H P
section
variable {X : Cx} {G : Gc} {W : WX} {tg : Expr} {e : Expr} {me : EM}
theorem PI.or {iter : Expr} {w1 w2 : TI} (a : PI X tg iter w1) (b : PI X tg iter w2) : PI X tg iter (fun σ H P => w1 σ H P ∨ w2 σ H P) :=
  ⟨fun pins s σ H P I h => h.elim (a.run pins s σ H P I) (b.run pins s σ H P I)⟩
/-- a list, a tuple, a text, the script -/
def wIter (st : Sto) (w : Wd) : R (List Wd × (Sto → Prop)) := match w with
  | .v (.tup ts) => .ok (ts.map Wd.v, fun _ => True) st
  | .v (.ktup ts) => .ok (ts.map Wd.v, fun _ => True) st
  | .v (.lst ts) => .ok (ts.map Wd.v, fun _ => True) st
  | .v (.scr ns) => .ok (ns.map fun n => Wd.v (.int n), fun _ => True) st
  | .v (.str z) => if z.length ≤ LINE then .ok (z.cps.toList.map fun c => Wd.v (.str ⟨#[c]⟩), fun _ => True) st else .bad
  | .ref n => match st[n]? with
    | some (.lst ws) => .ok (ws, fun s => s[n]? = some (.lst ws)) st
    | _ => .bad
  | _ => .bad
theorem ints_repWs {ι : Io} {H : Hp} : ∀ ns : List Int, RepWs G ι H (ns.map fun n => Wd.v (.int n)) (ns.map V.int)
  | [] => .nil
  | n :: r => .cons (Rep.int n) (ints_repWs r)
theorem it_list {ι : Io} {H : Hp} {a : Addr} {xs : List Wd} {vs : List V} {chk : Sto → Prop} (h : ∀ ι2 st2 H2, Exw ι H ι2 H2 → PlM ι ι2 → RelS G ι2 st2 H2 → chk st2 → ∃ vs, SqL G.K H2 a vs ∧ RepWs G ι2 H2 xs vs) : IterOk G ι H (Itl G.K a) xs chk := by
  intro i ι2 st2 H2 e p rs c
  obtain ⟨vs, hs, hr⟩ := h ι2 st2 H2 e p rs c
  refine ⟨fun hi => ⟨vs, hs, by rw [hi, hr.length]; exact Nat.le_refl _⟩, fun w hw => ?_⟩
  obtain ⟨v, h1, h2⟩ := RepWs.get hr hw
  refine ⟨⟨vs, v, hs, h1⟩, fun x H3 y => ?_⟩
  obtain ⟨rfl, y⟩ := y
  have := (y vs hs).symm.trans h1
  cases this
  exact ⟨fun _ _ h => h, h2⟩
theorem it_tup {ι : Io} {H : Hp} {a : Addr} {xs : List Wd} {chk : Sto → Prop} (h : ∀ ι2 st2 H2, Exw ι H ι2 H2 → PlM ι ι2 → RelS G ι2 st2 H2 → chk st2 → ∃ vs, SqT G.K H2 a vs ∧ RepWs G ι2 H2 xs vs) : IterOk G ι H (Itt G.K a) xs chk := by
  intro i ι2 st2 H2 e p rs c
  obtain ⟨vs, hs, hr⟩ := h ι2 st2 H2 e p rs c
  refine ⟨fun hi => ⟨vs, hs, by rw [hi, hr.length]; exact Nat.le_refl _⟩, fun w hw => ?_⟩
  obtain ⟨v, h1, h2⟩ := RepWs.get hr hw
  refine ⟨⟨vs, v, hs, h1⟩, fun x H3 y => ?_⟩
  obtain ⟨rfl, y⟩ := y
  have := (y vs hs).symm.trans h1
  cases this
  exact ⟨fun _ _ h => h, h2⟩
theorem iv_expr (hK : X.K = G.K) (he : EV X G W e me) : IV X G W tg e (fun ρ st => (me ρ st).bind fun w st1 => wIter st1 w) := by
  obtain ⟨t, p, q⟩ := he
  refine ⟨_, PI.or (pi_list p) (PI.or (pi_tup p) (pi_str p)), fun ρ st σ ι H P rs re h => ?_⟩
  dsimp only at h
  have exc : ∀ {Q : VK}, (∀ w st1 ι1 v H1, Ext ι H ι1 H1 → RelS G ι1 st1 H1 → RepW G ι1 H1 w v → me ρ st = .ok w st1 → PostI G W σ ι1 H1 (wIter st1 w) P → Q v H1) → Post G W σ ι H (me ρ st) Q := fun {Q} k => by
    cases em : me ρ st with
    | bad => rw [em] at h; exact h
    | exc x st' => rw [em] at h; exact h
    | ok w st1 =>
      rw [em, R.bind_ok] at h
      intro ι1 v H1 e1 rs1 r1
      refine k w st1 ι1 v H1 e1 rs1 r1 em ?_
      revert h
      cases wIter st1 w with
      | bad => exact id
      | exc x st' => exact fun h ι' H' cls d e' => h ι' H' cls d (e1.tr e')
      | ok xc st' => exact fun h ι' H' J e' => h ι' H' J (e1.tr e')
  -- which kind it is
  cases em : me ρ st with
  | bad => rw [em] at h; exact h.elim
  | exc x st' => exact .inl (q ρ st σ ι H _ rs re (exc fun w st1 ι1 v H1 e1 rs1 r1 e2 _ => by rw [em] at e2; cases e2))
  | ok w0 st0 =>
    have isL : ∀ w st1, me ρ st = .ok w st1 → w = w0 ∧ st1 = st0 := fun w st1 e2 => by rw [em] at e2; cases e2; exact ⟨rfl, rfl⟩
    have asList : (∀ ι1 st1 v H1, RelS G ι1 st1 H1 → RepW G ι1 H1 w0 v → PostI G W σ ι1 H1 (wIter st1 w0) P → ∃ a, v = .ref a ∧ (∃ xs, SqL G.K H1 a xs) ∧ P (Itl G.K a) H1) → iList X.K t σ H P := fun k => by
      refine q ρ st σ ι H _ rs re (exc fun w st1 ι1 v H1 e1 rs1 r1 e2 h2 => ?_)
      obtain ⟨rfl, rfl⟩ := isL w st1 e2
      rw [hK]
      exact k ι1 st1 v H1 rs1 r1 h2
    have asTup : (∀ ι1 st1 v H1, RelS G ι1 st1 H1 → RepW G ι1 H1 w0 v → PostI G W σ ι1 H1 (wIter st1 w0) P → ∃ a, v = .ref a ∧ (∃ xs, SqT G.K H1 a xs) ∧ P (Itt G.K a) H1) → iTup X.K t σ H P := fun k => by
      refine q ρ st σ ι H _ rs re (exc fun w st1 ι1 v H1 e1 rs1 r1 e2 h2 => ?_)
      obtain ⟨rfl, rfl⟩ := isL w st1 e2
      rw [hK]
      exact k ι1 st1 v H1 rs1 r1 h2
    have asStr : (∀ ι1 st1 v H1, RelS G ι1 st1 H1 → RepW G ι1 H1 w0 v → PostI G W σ ι1 H1 (wIter st1 w0) P → ∃ x, v = .str x ∧ P (Its x) H1) → iStr t σ H P := fun k => by
      refine q ρ st σ ι H _ rs re (exc fun w st1 ι1 v H1 e1 rs1 r1 e2 h2 => ?_)
      obtain ⟨rfl, rfl⟩ := isL w st1 e2
      exact k ι1 st1 v H1 rs1 r1 h2
    cases w0 with
    | ref n =>
      refine .inl (asList fun ι1 st1 v H1 rs1 r1 h2 => ?_)
      obtain ⟨a, hn, rfl⟩ := r1
      unfold wIter at h2
      dsimp only at h2
      split at h2
      · rename_i ws e2
        obtain ⟨b, vs, h3, h4, hl, h5⟩ := rs1.ob e2
        rw [hn] at h3; cases h3
        refine ⟨a, rfl, ⟨vs, SqL.of h4⟩, h2 ι1 H1 _ (Ext.refl _ _) rs1 hl (it_list (vs := vs) fun ι2 st2 H2 e3 p3 rs2 c => ?_)⟩
        have c : st2[n]? = some (.lst ws) := c
        obtain ⟨b, us, h6, h7, _, h8⟩ := rs2.ob c
        rw [p3 n a hn] at h6; cases h6
        exact ⟨us, SqL.of h7, h8⟩
      · exact h2.elim
    | v t0 =>
      cases t0 with
      | lst ts =>
        refine .inl (asList fun ι1 st1 v H1 rs1 r1 h2 => ?_)
        obtain ⟨a, vs, rfl, h3, h4, h5, h6⟩ := Rep.lstR r1
        exact ⟨a, rfl, ⟨vs, SqL.of h3⟩, h2 ι1 H1 _ (Ext.refl _ _) rs1 (by simpa using h6) (it_list (vs := vs) fun ι2 st2 H2 e3 p3 rs2 c => ⟨vs, SqL.of (e3.keep _ _ h3 h4), (h5.exw e3).map⟩)⟩
      | scr ns =>
        refine .inl (asList fun ι1 st1 v H1 rs1 r1 h2 => ?_)
        cases r1 with
        | scr h3 h4 =>
          exact ⟨_, rfl, ⟨_, h3.sq⟩, h2 ι1 H1 _ (Ext.refl _ _) rs1 (by rw [List.length_map, sizeLine_eq]; omega) (it_list (vs := ns.map V.int) fun ι2 st2 H2 e3 p3 rs2 c => ⟨_, (h3.exw e3).sq, ints_repWs ns⟩)⟩
      | tup ts =>
        refine .inr (.inl (asTup fun ι1 st1 v H1 rs1 r1 h2 => ?_))
        have r1' : Rep G ι1 H1 (.tup ts) v := r1
        cases r1' with
        | tup h3 h6 h4 h5 =>
          exact ⟨_, rfl, ⟨_, SqT.of h3⟩, h2 ι1 H1 _ (Ext.refl _ _) rs1 (by simpa using h6) (it_tup fun ι2 st2 H2 e3 p3 rs2 c => ⟨_, SqT.of (e3.keep _ _ h3 h4), (h5.exw e3).map⟩)⟩
      | ktup ts =>
        refine .inr (.inl (asTup fun ι1 st1 v H1 rs1 r1 h2 => ?_))
        obtain ⟨a, vs, e6, h7, h8, h6⟩ := Rep.ktupR r1
        have r1' : Rep G ι1 H1 (.ktup ts) v := r1
        cases r1' with
        | tupK h3 h5 =>
          exact ⟨_, rfl, ⟨_, .inr h3⟩, h2 ι1 H1 _ (Ext.refl _ _) rs1 (by simpa using h6) (it_tup fun ι2 st2 H2 e3 p3 rs2 c => ⟨_, .inr h3, (h5.exw e3).map⟩)⟩
      | str z =>
        refine .inr (.inr (asStr fun ι1 st1 v H1 rs1 r1 h2 => ?_))
        cases r1
        unfold wIter at h2
        dsimp only at h2
        split at h2
        · rename_i hz
          refine ⟨z, rfl, h2 ι1 H1 _ (Ext.refl _ _) rs1 (by rw [List.length_map, Array.length_toList]; exact hz) fun i ι2 st2 H2 e3 p3 rs2 c => ⟨fun hi => ?_, fun w hw => ?_⟩⟩
          · show z.cps.size ≤ i
            rw [hi]; simp
          · rw [List.getElem?_map, Option.map_eq_some_iff] at hw
            obtain ⟨cp, h5, rfl⟩ := hw
            have hlt : i < z.cps.size := by
              have := (List.getElem?_eq_some_iff.mp h5).1
              simpa using this
            refine ⟨hlt, fun x H3 y => ?_⟩
            obtain ⟨rfl, c', h6, rfl⟩ := y
            have : some c' = some cp := by rw [← h6, ← h5]; simp
            cases this
            exact ⟨fun _ _ h => h, .str _⟩
        · exact h2.elim
      | non => rw [em] at h; exact (show False from h).elim
      | bl _ => rw [em] at h; exact (show False from h).elim
      | int _ => rw [em] at h; exact (show False from h).elim
      | dct _ => rw [em] at h; exact (show False from h).elim
      | dcT _ => rw [em] at h; exact (show False from h).elim
      | gdc _ => rw [em] at h; exact (show False from h).elim
      | set _ => rw [em] at h; exact (show False from h).elim
      | ins _ _ => rw [em] at h; exact (show False from h).elim
/-- lo, lo + 1, .. below hi -/
def rngL (lo hi : Int) : List Wd := (List.range (hi - lo).toNat).map fun (i : Nat) => Wd.v (.int (lo + (i : Int)))
def wRng1 (ws : List Wd) (st : Sto) : R (List Wd × (Sto → Prop)) := match ws with
  | [.v (.int j)] => if j ≤ 1000000 ∧ -1000000 ≤ j then .ok (rngL 0 j, fun _ => True) st else .bad
  | _ => .bad
def wRng2 (ws : List Wd) (st : Sto) : R (List Wd × (Sto → Prop)) := match ws with
  | [.v (.int i), .v (.int j)] => if (j ≤ 1000000 ∧ -1000000 ≤ j) ∧ i ≤ 1000000 ∧ -1000000 ≤ i then .ok (rngL i j, fun _ => True) st else .bad
  | _ => .bad
theorem it_rng {ι : Io} {H : Hp} {lo hi : Int} : IterOk G ι H (Itr lo (hi - lo).toNat) (rngL lo hi) (fun _ => True) := by
  intro i ι2 st2 H2 e p rs c
  refine ⟨fun h => ?_, fun w hw => ?_⟩
  · show (hi - lo).toNat ≤ i
    rw [h]; unfold rngL; simp
  · unfold rngL at hw
    rw [List.getElem?_map, Option.map_eq_some_iff] at hw
    obtain ⟨k, h1, rfl⟩ := hw
    by_cases hh : i < (hi - lo).toNat
    · rw [List.getElem?_range hh] at h1
      cases h1
      refine ⟨hh, fun x H3 y => ?_⟩
      obtain ⟨rfl, rfl⟩ := y
      exact ⟨fun _ _ h => h, .int _⟩
    · rw [List.getElem?_eq_none (by simpa using hh)] at h1; cases h1
theorem rngL_length (lo hi : Int) : (rngL lo hi).length = (hi - lo).toNat := by unfold rngL; simp
variable {ml : LM} {a b : Expr} {p pos : Pos}
theorem iv_rng1 (hg : Gl X "range") (hm : X.mg "range" = none) (hs : noStar a = true) (ha : AV X G W [a] ml) : IV X G W tg (.Call (.Name "range" p) [a] [] pos) (fun ρ st => (ml ρ st).bind wRng1) := by
  obtain ⟨t, pa, q⟩ := ha
  refine ⟨_, pi_range1 hg hm pa (star_plain hs), fun ρ st σ ι H P rs re h => ?_⟩
  dsimp only at h
  refine q ρ st σ ι H _ rs re ?_
  cases em : ml ρ st with
  | bad => rw [em] at h; exact h
  | exc x st' => rw [em] at h; exact h
  | ok ws st1 =>
    rw [em, R.bind_ok] at h
    intro ι1 vs H1 e1 rs1 r1
    unfold wRng1 at h
    split at h
    · rename_i j
      split at h
      · rename_i hj
        cases r1 with
        | cons r r' =>
          cases r
          cases r'
          refine ⟨j, rfl, by omega, by omega, ?_⟩
          have z := h ι1 H1 (Itr 0 (j - 0).toNat) e1 rs1 (by rw [rngL_length, sizeLine_eq]; omega) it_rng
          rw [Int.sub_zero] at z
          exact z
      · exact h.elim
    · exact h.elim
theorem iv_rng2 (hg : Gl X "range") (hm : X.mg "range" = none) (hs : noStar a = true) (hs2 : noStar b = true) (ha : AV X G W [a, b] ml) : IV X G W tg (.Call (.Name "range" p) [a, b] [] pos) (fun ρ st => (ml ρ st).bind wRng2) := by
  obtain ⟨t, pa, q⟩ := ha
  have h2 : starEach [b] X.env = [(false, eval b X.env)] := star_plain hs2
  refine ⟨_, pi_range2 hg hm pa (by rw [star_plain hs, h2]) h2, fun ρ st σ ι H P rs re h => ?_⟩
  dsimp only at h
  refine q ρ st σ ι H _ rs re ?_
  cases em : ml ρ st with
  | bad => rw [em] at h; exact h
  | exc x st' => rw [em] at h; exact h
  | ok ws st1 =>
    rw [em, R.bind_ok] at h
    intro ι1 vs H1 e1 rs1 r1
    unfold wRng2 at h
    split at h
    · rename_i i j
      split at h
      · rename_i hj
        cases r1 with
        | cons r r' =>
          cases r' with
          | cons r2 r3 =>
            cases r
            cases r2
            cases r3
            exact ⟨i, j, rfl, ⟨by omega, by omega, by omega, by omega⟩, h ι1 H1 (Itr i (j - i).toNat) e1 rs1 (by rw [rngL_length, sizeLine_eq]; omega) it_rng⟩
      · exact h.elim
    · exact h.elim
end

/-! ### for -/
noncomputable def forL (g : GM) (b : SM) (chk : Sto → Prop) : List Wd → Ev → Sto → RS
  | [], ρ, st => if chk st then .nx ρ st else .bad
  | w :: ws, ρ, st => if chk st then (match g w ρ st with
    | .ok ρ1 st1 => match b ρ1 st1 with
      | .nx ρ2 st2 => forL g b chk ws ρ2 st2
      | .ct ρ2 st2 => forL g b chk ws ρ2 st2
      | .bk ρ2 st2 => .nx ρ2 st2
      | r => r
    | _ => .bad) else .bad
noncomputable def sFor (i : IM) (g : GM) (b : SM) : SM := fun ρ st => (i ρ st).toS ρ fun xc st1 => forL g b xc.2 xc.1 ρ st1
section
variable {X : Cx} {G : Gc} {W : WX} {tg iter : Expr} {mi : IM} {g : GM} {mb : SM} {body : List Stmt} {pos : Pos} {vs : List Nat}
theorem sv_for (hp : PassesOwn (model X.prog X.w) X.A X.env X.xe) (hc : X.calm = true) (hi : IV X G W tg iter mi) (hg : GV X G vs tg g) (hb : SVs X G W body mb) (hs : noStar iter = true) : SV X G W (.For tg iter body [] pos) (sFor mi g mb) := by
  obtain ⟨wi, p1, q1⟩ := hi
  obtain ⟨tg', p2, q2⟩ := hg
  obtain ⟨tb, p3, q3⟩ := hb
  refine ⟨_, ps_for hp hc p1 p2 p3 (folded_plain hs), fun ρ st σ ι H D rs re h => ?_⟩
  refine q1 ρ st σ ι H _ rs re ?_
  unfold sFor at h
  cases em : mi ρ st with
  | bad => rw [em] at h; exact h
  | exc x st' => rw [em] at h; exact fun ι' H' cls d e rs' rx => h ι' σ H' cls d e rs' (re.ext e) rx
  | ok xc st1 =>
    obtain ⟨xs, chk⟩ := xc
    rw [em, R.toS_ok] at h
    intro ι1 H1 J e1 rs1 hl ok
    have h := PostS.at_ e1 h
    refine ⟨fun i m σ2 H2 => m = xs.length - i ∧ i ≤ xs.length ∧ ∃ ρ2 st2 ι2, Ext ι1 H1 ι2 H2 ∧ RelS G ι2 st2 H2 ∧ RelE G ι2 H2 ρ2 σ2 ∧ PostS G W ι2 H2 (forL g mb chk (xs.drop i) ρ2 st2) D, ⟨xs.length, by simp, Nat.zero_le _, ρ, st1, ι1, Ext.refl _ _, rs1, re.ext e1, h⟩, ?_⟩
    rintro i m σ2 H2 ⟨rfl, hi, ρ2, st2, ι2, e2, rs2, re2, h2⟩
    by_cases hlt : i < xs.length
    · right
      obtain ⟨w, hw⟩ : ∃ w, xs[i]? = some w := ⟨xs[i], List.getElem?_eq_getElem hlt⟩
      have hd : xs.drop i = w :: xs.drop (i + 1) := by
        rw [List.drop_eq_getElem_cons hlt]
        have : xs[i] = w := by rw [List.getElem?_eq_getElem hlt] at hw; exact Option.some.inj hw
        rw [this]
      rw [hd] at h2
      unfold forL at h2
      by_cases hk : chk st2
      · rw [if_pos hk] at h2
        obtain ⟨_, ok2⟩ := ok i ι2 st2 H2 e2.w e2.pl rs2 hk
        obtain ⟨go, yl⟩ := ok2 w hw
        refine ⟨go, fun σ' H' => i + 1 ≤ xs.length ∧ ∃ ρ2 st2 ι2, Ext ι1 H1 ι2 H' ∧ RelS G ι2 st2 H' ∧ RelE G ι2 H' ρ2 σ' ∧ PostS G W ι2 H' (forL g mb chk (xs.drop (i + 1)) ρ2 st2) D,
          fun σ' H' z => ⟨xs.length - (i + 1), by omega, rfl, z.1, z.2⟩, fun x H3 y => ?_⟩
        obtain ⟨same, rx⟩ := yl x H3 y
        have e3 : Ext ι2 H2 ι2 H3 := Ext.same same
        have rs3 := rs2.same same
        refine q2 w ρ2 st2 σ2 ι2 H3 x _ rs3 (re2.ext e3) rx ?_
        have h3 := PostS.at_ e3 h2
        cases eg : g w ρ2 st2 with
        | bad => rw [eg] at h3; exact h3
        | exc x st' => rw [eg] at h3; exact h3
        | ok ρ3 st3 =>
          rw [eg] at h3
          intro ι4 σ4 H4 e4 rs4 re4 _
          have h4 := PostS.at_ e4 h3
          dsimp only at h4
          refine q3 ρ3 st3 σ4 ι4 H4 _ rs4 re4 ?_
          have e14 := (e2.tr e3).tr e4
          cases eb : mb ρ3 st3 with
          | bad => rw [eb] at h4; exact h4
          | nx ρ5 st5 =>
            rw [eb] at h4
            exact fun ι5 σ5 H5 e5 rs5 re5 => ⟨hlt, ρ5, st5, ι5, e14.tr e5, rs5, re5, PostS.at_ e5 h4⟩
          | ct ρ5 st5 =>
            rw [eb] at h4
            exact fun ι5 σ5 H5 e5 rs5 re5 => ⟨hlt, ρ5, st5, ι5, e14.tr e5, rs5, re5, PostS.at_ e5 h4⟩
          | bk ρ5 st5 => rw [eb] at h4; exact h4
          | rt w5 st5 => rw [eb] at h4; exact h4
          | ex x5 ρ5 st5 => rw [eb] at h4; exact h4
      · rw [if_neg hk] at h2; exact h2.elim
    · left
      have hie : i = xs.length := by omega
      rw [hie, List.drop_length] at h2
      unfold forL at h2
      by_cases hk : chk st2
      · rw [if_pos hk] at h2
        exact ⟨(ok i ι2 st2 H2 e2.w e2.pl rs2 hk).1 hie, h2 ι2 σ2 H2 (Ext.refl _ _) rs2 re2⟩
      · rw [if_neg hk] at h2; exact h2.elim
end

/-! ### while -/
def whN (c : BM) (b : SM) : Nat → Ev → Sto → RS
  | 0, _, _ => .bad
  | n + 1, ρ, st => (c ρ st).toS ρ fun k st1 => if k then (match b ρ st1 with
    | .nx ρ2 st2 => whN c b n ρ2 st2
    | .ct ρ2 st2 => whN c b n ρ2 st2
    | .bk ρ2 st2 => .nx ρ2 st2
    | r => r) else .nx ρ st1
noncomputable def sWhl (c : BM) (b : SM) : SM := fun ρ st => if h : ∃ n, whN c b n ρ st ≠ .bad then whN c b h.choose ρ st else .bad
section
variable {X : Cx} {G : Gc} {W : WX} {c : Expr} {mc : BM} {mb : SM} {body : List Stmt} {pos : Pos}
theorem sv_while (hp : PassesOwn (model X.prog X.w) X.A X.env X.xe) (hc : TV X G W c mc) (hb : SVs X G W body mb) : SV X G W (.While c body [] pos) (sWhl mc mb) := by
  obtain ⟨tc, p1, q1⟩ := hc
  obtain ⟨tb, p3, q3⟩ := hb
  refine ⟨_, ps_while hp p1 p3, fun ρ st σ ι H D rs re h => ?_⟩
  obtain ⟨n, h⟩ : ∃ n, PostS G W ι H (whN mc mb n ρ st) D := by
    unfold sWhl at h
    split at h
    · exact ⟨_, h⟩
    · exact h.elim
  refine ⟨fun m σ2 H2 => ∃ ρ2 st2 ι2, RelS G ι2 st2 H2 ∧ RelE G ι2 H2 ρ2 σ2 ∧ PostS G W ι2 H2 (whN mc mb m ρ2 st2) D, ⟨n, ρ, st, ι, rs, re, h⟩, ?_⟩
  rintro m σ2 H2 ⟨ρ2, st2, ι2, rs2, re2, h2⟩
  cases m with
  | zero => exact h2.elim
  | succ m =>
    unfold whN at h2
    refine q1 ρ2 st2 σ2 ι2 H2 _ rs2 re2 (PostS.firstB re2 h2 fun k st3 ι3 H3 e3 rs3 h3 => ?_)
    cases k with
    | false =>
      rw [if_neg Bool.false_ne_true]
      exact h3 ι3 σ2 H3 (Ext.refl _ _) rs3 (re2.ext e3)
    | true =>
      rw [if_pos rfl]
      have h3 : PostS G W ι3 H3 (match mb ρ2 st3 with
        | .nx ρ2 st2 => whN mc mb m ρ2 st2
        | .ct ρ2 st2 => whN mc mb m ρ2 st2
        | .bk ρ2 st2 => .nx ρ2 st2
        | r => r) D := h3
      refine ⟨fun σ' H' => ∃ ρ2 st2 ι2, RelS G ι2 st2 H' ∧ RelE G ι2 H' ρ2 σ' ∧ PostS G W ι2 H' (whN mc mb m ρ2 st2) D, fun σ' H' z => ⟨m, Nat.lt_succ_self m, z⟩, ?_⟩
      refine q3 ρ2 st3 σ2 ι3 H3 _ rs3 (re2.ext e3) ?_
      cases eb : mb ρ2 st3 with
      | bad => rw [eb] at h3; exact h3
      | nx ρ5 st5 =>
        rw [eb] at h3
        exact fun ι5 σ5 H5 e5 rs5 re5 => ⟨ρ5, st5, ι5, rs5, re5, PostS.at_ e5 h3⟩
      | ct ρ5 st5 =>
        rw [eb] at h3
        exact fun ι5 σ5 H5 e5 rs5 re5 => ⟨ρ5, st5, ι5, rs5, re5, PostS.at_ e5 h3⟩
      | bk ρ5 st5 => rw [eb] at h3; exact h3
      | rt w5 st5 => rw [eb] at h3; exact h3
      | ex x5 ρ5 st5 => rw [eb] at h3; exact h3
end
end DL

set_option Elab.async false
set_option linter.all false
set_option maxRecDepth 100000
set_option maxHeartbeats 4000000
/-! DLh: list comprehensions. -/
namespace DL
open PySem PySem.Spec PyProof.Rows L2
open Classical
section
variable {G : Gc} {ι ι1 : Io} {H H1 : Hp}
/-- one more place of ours, at the end -/
theorem RelS.push {st : Sto} {p : Addr} {o : Ob} {ho : HO} (r : RelS G ι st H) (e : Exw ι H (ι1.add p) H1) (hpl : ι1.pl = ι.pl) (h : ∀ (n : Nat) a u, ι.pl[n]? = some (some a) → H a = some u → H1 a = some u) (np : some p ∉ ι.pl) (nv : p ∉ ι1.pv)
    (hd : ∀ (n : Nat) a, ι.pl[n]? = some (some a) → a ∉ ι1.pv) (ht : ∀ a, a ∈ ι1.pv → ∃ u, H1 a = some u) (e2 : H1 p = some ho) (ob : ObHO G (ι1.add p) H1 o ho) : RelS G (ι1.add p) (st ++ [o]) H1 := by
  have pm : PlM ι (ι1.add p) := fun m a q => by
    show (ι1.pl ++ [some p])[m]? = some (some a)
    rw [hpl, List.getElem?_append_left (List.getElem?_eq_some_iff.mp q).1]; exact q
  have lastL : ∀ (i : Nat) (a : Addr), (ι1.add p).pl[i]? = some (some a) → (i < ι.pl.length ∧ ι.pl[i]? = some (some a)) ∨ (i = ι.pl.length ∧ a = p) := fun i a q => by
    have q : (ι1.pl ++ [some p])[i]? = some (some a) := q
    rw [hpl] at q
    by_cases hi : i < ι.pl.length
    · rw [List.getElem?_append_left hi] at q; exact .inl ⟨hi, q⟩
    · by_cases he : i = ι.pl.length
      · subst he; simp at q; exact .inr ⟨rfl, q.symm⟩
      · rw [List.getElem?_eq_none (by simp; omega)] at q; cases q
  refine ⟨by simp [Io.add, hpl, r.len], fun i j a h1 h2 => ?_, fun m o' q => ?_, fun i a h1 h2 => ?_, ht⟩
  · rcases lastL i a h1 with ⟨_, q1⟩ | ⟨e1, a1⟩ <;> rcases lastL j a h2 with ⟨_, q2⟩ | ⟨e2, a2⟩
    · exact r.inj i j a q1 q2
    · exact absurd (a2 ▸ List.mem_of_getElem? q1) np
    · exact absurd (a1 ▸ List.mem_of_getElem? q2) np
    · rw [e1, e2]
  · by_cases hm : m < st.length
    · rw [List.getElem?_append_left hm] at q
      have z := r.at_ m o' q
      cases hh : ι.pl[m]? with
      | none => rw [List.getElem?_eq_none_iff] at hh; have := r.len; omega
      | some x =>
        cases x with
        | none =>
          cases o' with
          | hid => show (ι1.pl ++ [some p])[m]? = some none; rw [hpl, List.getElem?_append_left (by rw [r.len]; exact hm)]; exact hh
          | lst ws => obtain ⟨_, _, q, _⟩ := z; rw [hh] at q; cases q
          | dct ws => obtain ⟨_, _, q, _⟩ := z; rw [hh] at q; cases q
          | dcT ws => obtain ⟨_, _, q, _⟩ := z; rw [hh] at q; cases q
          | ins c ws => obtain ⟨_, _, _, _, q, _⟩ := z; rw [hh] at q; cases q
        | some a =>
          have h1 := pm m a hh
          cases o' with
          | hid => have z : ι.pl[m]? = some none := z; rw [hh] at z; cases z
          | lst ws => obtain ⟨b, vs, q, g, l, k⟩ := z; rw [hh] at q; cases q; exact ⟨a, vs, h1, h m a _ hh g, l, k.exw e pm⟩
          | dct ws => obtain ⟨b, vs, q, g, l, k⟩ := z; rw [hh] at q; cases q; exact ⟨a, vs, h1, h m a _ hh g, l, RepWK.exw e pm k⟩
          | dcT ws => obtain ⟨b, vs, q, g, l, k⟩ := z; rw [hh] at q; cases q; exact ⟨a, vs, h1, h m a _ hh g, l, RepWK.exw e pm k⟩
          | ins c ws => obtain ⟨b, C, dx, vs, q, g, hc, k⟩ := z; rw [hh] at q; cases q; exact ⟨a, C, dx, vs, h1, h m a _ hh g, hc, RepWK.exw e pm k⟩
    · by_cases he : m = st.length
      · subst he
        simp at q
        subst q
        exact ob.at_ (a := p) (by rw [← r.len, ← hpl]; simp [Io.add]) e2
      · rw [List.getElem?_eq_none (by simp; omega)] at q; cases q
  · rcases lastL i a h1 with ⟨_, q1⟩ | ⟨e1, a1⟩
    · exact hd i a q1 h2
    · rw [a1] at h2; exact nv h2
/-- what is made stands apart -/
theorem exw_prv {D : Addr} {o : HO} (n : H D = none) : Exw ι H (ι.prv D) (upd H D o) := ⟨fun a h => by
  rcases h with h | h
  · exact .inl (.inl h)
  · rcases List.mem_cons.mp h with e | h
    · rw [e]; exact .inr n
    · exact .inl (.inr h), fun b u e _ => upd_keeps n b u e⟩
theorem RelS.prv {st : Sto} {D : Addr} {o : HO} (r : RelS G ι st H) (n : H D = none) : RelS G (ι.prv D) st (upd H D o) :=
  r.move (exw_prv n) rfl (fun _ a u _ q => upd_keeps n a u q) (fun m a q h => by
    rcases List.mem_cons.mp h with e | h
    · obtain ⟨u, z⟩ := r.there0 q
      rw [e, n] at z; cases z
    · exact r.dis m a q h) fun a h => by
    rcases List.mem_cons.mp h with e | h
    · rw [e]; exact ⟨o, upd_same⟩
    · obtain ⟨u, z⟩ := r.pvt a h
      exact ⟨u, upd_keeps n _ _ z⟩
/-- the thing that is being made is written: no tree holds it -/
theorem RelS.wr {st : Sto} {D : Addr} {o : HO} (r : RelS G (ι.prv D) st H) : RelS G (ι.prv D) st (upd H D o) ∧ Exw (ι.prv D) H (ι.prv D) (upd H D o) := by
  have e : Exw (ι.prv D) H (ι.prv D) (upd H D o) := ⟨fun _ h => .inl h, fun b u q n => by rw [upd_ne (fun z => n (by rw [z]; exact .inr (List.mem_cons_self ..)))]; exact q⟩
  refine ⟨r.move e rfl (fun m a u q z => ?_) r.dis fun a h => ?_, e⟩
  · rw [upd_ne (fun y => r.dis m a q (by rw [y]; exact List.mem_cons_self ..))]; exact z
  · by_cases hd : a = D
    · rw [hd]; exact ⟨o, upd_same⟩
    · obtain ⟨u, z⟩ := r.pvt a h
      exact ⟨u, by rw [upd_ne hd]; exact z⟩
/-- a step over what stands apart, seen from ahead of it -/
theorem Ext.over {ι0 : Io} {H0 : Hp} {D : Addr} (e : Ext ι0 H0 ι H) (nD : H0 D = none) {st : Sto} {ι2 : Io} {H2 : Hp} (s : Ext (ι.prv D) H ι2 H2) (r : RelS G ι2 st H2) : Ext ι0 H0 ⟨ι2.pl, ι.pv⟩ H2 ∧ ι2 = Io.prv ⟨ι2.pl, ι.pv⟩ D := by
  have ep : ι2 = Io.prv ⟨ι2.pl, ι.pv⟩ D := by
    obtain ⟨a, b⟩ := ι2
    have := s.pv
    have this : b = D :: ι.pv := this
    subst this
    rfl
  have out : ∀ b o, H0 b = some o → ¬ InI ι b → ¬ InI (ι.prv D) b := fun b o q n z => by
    rcases z with z | z
    · exact n (.inl z)
    · rcases List.mem_cons.mp z with z | z
      · rw [z, nD] at q; cases q
      · exact n (.inr z)
  refine ⟨⟨⟨fun a h => ?_, fun b o q n => ?_⟩, fun m a q => s.pl m a (e.pl m a q), e.pv, fun b o h q => ?_⟩, ep⟩
  · have h2 : InI ι2 a := by
      rcases h with h | h
      · exact .inl h
      · rw [ep]; exact .inr (List.mem_cons_of_mem _ h)
    rcases s.w.new a h2 with z | z
    · rcases z with z | z
      · exact e.w.new a (.inl z)
      · rcases List.mem_cons.mp z with z | z
        · rw [z]; exact .inr nD
        · exact e.w.new a (.inr z)
    · cases q : H0 a with
      | none => exact .inr rfl
      | some o =>
        by_cases hi : InI ι0 a
        · exact .inl hi
        · have := e.w.keep a o q hi
          rw [z] at this; cases this
  · exact s.w.keep b o (e.w.keep b o q n) (out b o q (e.w.notIn q n))
  · exact s.pvk b o (List.mem_cons_of_mem _ (by rw [e.pv]; exact h)) (e.pvk b o h q)
end

/-! ### the canonical reading -/
def tCan (G : Gc) (W : WX) (m : EM) : TE := fun σ H Q => ∃ ρ st ι, RelS G ι st H ∧ RelE G ι H ρ σ ∧ Post G W σ ι H (m ρ st) Q
def tCanB (G : Gc) (W : WX) (m : BM) : TT := fun σ H Q => ∃ ρ st ι, RelS G ι st H ∧ RelE G ι H ρ σ ∧ PostB G W σ ι H (m ρ st) Q
def tCanG (G : Gc) (vs : List Nat) (m : GM) : TG := fun v σ H Q => ∃ w ρ st ι, RelS G ι st H ∧ RelE G ι H ρ σ ∧ RepW G ι H w v ∧ PostG G vs σ ι H (m w ρ st) Q
abbrev W0 : WX := fun _ _ _ _ => False
section
variable {X : Cx} {G : Gc} {W : WX} {e : Expr}
theorem EV.can {m : EM} (h : EV X G W e m) : PE X e (tCan G W m) := by
  obtain ⟨t, p, q⟩ := h
  exact ⟨fun pins s σ H Q I ⟨ρ, st, ι, rs, re, h⟩ => p.run pins s σ H Q I (q ρ st σ ι H Q rs re h)⟩
theorem TV.can {m : BM} (h : TV X G W e m) : PT X e (tCanB G W m) := by
  obtain ⟨t, p, q⟩ := h
  exact ⟨fun pins s σ H Q I ⟨ρ, st, ι, rs, re, h⟩ => p.run pins s σ H Q I (q ρ st σ ι H Q rs re h)⟩
theorem GV.can {vs : List Nat} {m : GM} (h : GV X G vs e m) : PG X e (tCanG G vs m) := by
  obtain ⟨t, p, q⟩ := h
  exact ⟨fun pins s σ H v u Q I r ⟨w, ρ, st, ι, rs, re, rw', h⟩ => p.run pins s σ H v u Q I r (q w ρ st σ ι H v Q rs re rw' h)⟩
end
def bYes : BM := fun _ st => .ok true st
/-- the slots of a comprehension's own names forgotten -/
def wipeE (ρ : Ev) : List Nat → Ev
  | [] => ρ
  | v :: vs => (wipeE ρ vs).set v none
theorem RelE.wipe {G : Gc} {ι : Io} {H : Hp} {ρ : Ev} {σ : St} (r : RelE G ι H ρ σ) : ∀ vs, RelE G ι H (wipeE ρ vs) (wipe σ vs)
  | [] => r
  | v :: vs => (RelE.wipe r vs).drop v none

theorem wipe_wipe (σ : St) (vs : List Nat) : wipe (wipe σ vs) vs = wipe σ vs := by
  apply List.ext_getElem?
  intro j
  rw [wipe_at, wipe_at]
  by_cases hj : j ∈ vs
  · simp [hj, wipe_length]
  · simp [hj]

noncomputable def cmpL (g : GM) (tt : BM) (te : EM) (chk : Sto → Prop) (ρ : Ev) : List Wd → List Wd → Sto → R (List Wd)
  | [], acc, st => if chk st then .ok acc st else .bad
  | w :: ws, acc, st => if chk st then (match g w ρ st with
    | .ok ρ1 st1 => match tt ρ1 st1 with
      | .ok true st2 => match te ρ1 st2 with
        | .ok y st3 => cmpL g tt te chk ρ ws (acc ++ [y]) st3
        | _ => .bad
      | .ok false st2 => cmpL g tt te chk ρ ws acc st2
      | _ => .bad
    | _ => .bad) else .bad
def frzL (acc : List Wd) (st : Sto) : R Wd := match allT acc with
  | some ts => .ok (.v (.lst ts)) st
  | none => .bad
def ownL (acc : List Wd) (st : Sto) : R Wd := .ok (.ref st.length) (st ++ [.lst acc])
noncomputable def eCmp (i : IM) (g : GM) (tt : BM) (te : EM) (own : List Nat) (fin : List Wd → Sto → R Wd) : EM := fun ρ st => (i ρ st).bind fun xc st1 => (cmpL g tt te xc.2 (wipeE ρ own) xc.1 [] st1).bind fin
section
variable {X : Cx} {G : Gc} {W : WX} {tg iter elt : Expr} {mi : IM} {g : GM} {mt : BM} {me : EM} {ifs : List Expr} {scope : Scope} {own : List (Str × Nat)} {pos : Pos} {vs : List Nat}
/-- how the made list is handed on -/
def FinOk (G : Gc) (fin : List Wd → Sto → R Wd) : Prop := ∀ W σ ι0 H0 ι st H D acc us Q, Ext ι0 H0 ι H → H0 D = none → D ∉ ι.pv → RelS G (ι.prv D) st H → H D = some (.lst us) → RepWs G (ι.prv D) H acc us → acc.length ≤ sizeLine → Post G W σ ι0 H0 (fin acc st) Q → Q (.ref D) H
theorem fin_frz : FinOk G frzL := by
  intro W σ ι0 H0 ι st H D acc us Q e nD nv rs hD ra hl h
  unfold frzL at h
  split at h
  · rename_i ts et
    rw [allT_some et] at ra hl
    have ra := RepWs.of_map ra
    have e1 : Exw (ι.prv D) H ι H := ⟨fun a h => .inl (by rcases h with h | h; exact .inl h; exact .inr (List.mem_cons_of_mem _ h)), fun _ _ q _ => q⟩
    have rs1 : RelS G ι st H := rs.move e1 rfl (fun _ _ _ _ q => q) (fun n a q z => rs.dis n a q (List.mem_cons_of_mem _ z)) fun a h => rs.pvt a (List.mem_cons_of_mem _ h)
    refine h ι (.ref D) H e rs1 (.lst hD (by simpa using hl) (fun z => ?_) (ra.exw e1))
    rcases z with z | z
    · obtain ⟨n, hn, e⟩ := List.mem_iff_getElem.mp z
      exact rs.dis n D (by show ι.pl[n]? = _; rw [List.getElem?_eq_getElem hn]; exact congrArg some e) (List.mem_cons_self ..)
    · exact nv z
  · exact h.elim
theorem fin_own : FinOk G ownL := by
  intro W σ ι0 H0 ι st H D acc us Q e nD nv rs hD ra hl h
  have e1 : Exw (ι.prv D) H (ι.add D) H := ⟨fun a h => .inl (by
    rcases h with h | h
    · rcases List.mem_append.mp h with h | h
      · exact .inl h
      · have : a = D := by simpa using h
        rw [this]; exact .inr (List.mem_cons_self ..)
    · exact .inr (List.mem_cons_of_mem _ h)), fun _ _ q _ => q⟩
  have pm : PlM (ι.prv D) (ι.add D) := fun m a q => by
    show (ι.pl ++ [some D])[m]? = some (some a)
    have q : ι.pl[m]? = some (some a) := q
    rw [List.getElem?_append_left (List.getElem?_eq_some_iff.mp q).1]; exact q
  have nD' : some D ∉ ι.pl := fun z => by
    obtain ⟨n, hn, e⟩ := List.mem_iff_getElem.mp z
    exact rs.dis n D (by show ι.pl[n]? = _; rw [List.getElem?_eq_getElem hn, e]) (List.mem_cons_self ..)
  have rs1 : RelS G (ι.add D) (st ++ [.lst acc]) H := rs.push (ι1 := ι) e1 rfl (fun _ _ _ _ q => q) nD' nv (fun n a q z => rs.dis n a q (List.mem_cons_of_mem _ z)) (fun a h => rs.pvt a (List.mem_cons_of_mem _ h)) hD ⟨us, rfl, hl, ra.exw e1 pm⟩
  have e2 : Ext ι0 H0 (ι.add D) H := by
    refine ⟨⟨fun a h => ?_, e.w.keep⟩, fun m a q => ?_, e.pv, e.pvk⟩
    · rcases h with h | h
      · rcases List.mem_append.mp h with h | h
        · exact e.w.new a (.inl h)
        · have : a = D := by simpa using h
          rw [this]; exact .inr nD
      · exact e.w.new a (.inr h)
    · exact pm m a (e.pl m a q)
  refine h (ι.add D) (.ref D) H e2 rs1 ⟨D, ?_, rfl⟩
  have : st.length = ι.pl.length := rs.len.symm
  rw [this]
  show (ι.pl ++ [some D])[ι.pl.length]? = _
  simp
theorem ev_cmp_list {fin : List Wd → Sto → R Wd} (hf : FinOk G fin) (hc : X.calm = true) (hN : X.N.Nodup) (hi : IV X G W tg iter mi) (ok : BlkOk X.N X.env.scope scope own)
    (hg : ∀ (s : Shared) (H : Hp) (C : Addr) (cl : List (Str × Addr)) (fp : List Addr), GV (X.blk s H scope (compEnvC scope cl C X.env) fp) G (own.map (·.2)) tg g)
    (ht : (ifs = [] ∧ mt = bYes) ∨ ∃ c, ifs = [c] ∧ ∀ (s : Shared) (H : Hp) (C : Addr) (cl : List (Str × Addr)) (fp : List Addr), TV (X.blk s H scope (compEnvC scope cl C X.env) fp) G W0 c mt)
    (he : ∀ (s : Shared) (H : Hp) (C : Addr) (cl : List (Str × Addr)) (fp : List Addr), EV (X.blk s H scope (compEnvC scope cl C X.env) fp) G W0 elt me) (hs : noStar iter = true) :
    ∃ t, (PE X (.ListComp elt [⟨tg, iter, ifs, 0⟩] scope pos) t ∧ (∀ (i : Nat) (y : Str) (py spos : Pos) (hy : X.N[i]? = some y) (hyl : X.env.scope.names.lookup y = some .local) (hsw : swapsWith (.ListComp elt [⟨tg, iter, ifs, 0⟩] scope pos) (some (.Name y py)) spos.line X.env = pure true), PS X (.Assign [.Name y py] (.ListComp elt [⟨tg, iter, ifs, 0⟩] scope pos) spos) (tAsg t (L2.gName i)))) ∧
      ∀ ρ st σ ι H Q, RelS G ι st H → RelE G ι H ρ σ → Post G W σ ι H (eCmp mi g mt me (own.map (·.2)) fin ρ st) Q → t σ H Q := by
  obtain ⟨wi, p1, q1⟩ := hi
  have pt : ∀ (s : Shared) (H : Hp) (C : Addr) (cl : List (Str × Addr)) (fp : List Addr), PTs (X.blk s H scope (compEnvC scope cl C X.env) fp) ifs (tCanB G W0 mt) := fun s H C cl fp => by
    rcases ht with ⟨rfl, rfl⟩ | ⟨c, rfl, ht⟩
    · refine ⟨fun pins s' σ H' Q I ⟨ρ, st, ι, rs, re, h⟩ => ?_⟩
      exact pts_nil.run pins s' σ H' Q I (show tYes σ H' Q from h ι H' (Ext.refl _ _) rs)
    · exact pts_one (ht s H C cl fp).can
  refine ⟨tLc wi (tCanG G (own.map (·.2)) g) (tCanB G W0 mt) (tCan G W0 me) (own.map (·.2)), ⟨pe_lc hc hN p1 ok (fun s H C cl fp => (hg s H C cl fp).can) pt (fun s H C cl fp => (he s H C cl fp).can) (folded_plain hs),
    fun i y py spos hy hyl hsw => ps_setLc (i := i) (own := own) hc hN hy hyl hsw p1 ok (fun s H C cl fp => (hg s H C cl fp).can) pt (fun s H C cl fp => (he s H C cl fp).can) (folded_plain hs)⟩, fun ρ st σ ι H Q rs re h => ?_⟩
  refine q1 ρ st σ ι H _ rs re ?_
  unfold eCmp at h
  cases em : mi ρ st with
  | bad => rw [em] at h; exact h
  | exc x st' => rw [em] at h; exact h
  | ok xc st1 =>
    obtain ⟨xs, chk⟩ := xc
    rw [em, R.bind_ok] at h
    intro ι1 H1 J e1 rs1 hl ok1 D nD
    have h := Post.at_ e1 h
    have re1 := re.ext e1
    have nv1 : D ∉ ι1.pv := fun z => by
      obtain ⟨o, q⟩ := rs1.pvt D z
      rw [nD] at q; cases q
    refine ⟨fun i m H2 => m = xs.length - i ∧ i ≤ xs.length ∧ ∃ st2 ι2 acc us, Ext ι1 H1 ι2 H2 ∧ RelS G (ι2.prv D) st2 H2 ∧ RelE G (ι2.prv D) H2 (wipeE ρ (own.map (·.2))) (wipe σ (own.map (·.2))) ∧ H2 D = some (.lst us) ∧ RepWs G (ι2.prv D) H2 acc us ∧ acc.length ≤ i ∧
      Post G W σ ι1 H1 ((cmpL g mt me chk (wipeE ρ (own.map (·.2))) (xs.drop i) acc st2).bind fin) Q, ⟨xs.length, by simp, Nat.zero_le _, st1, ι1, [], [], Ext.same (upd_keeps nD), rs1.prv nD, ((re1.wipe _).exw (exw_prv nD) fun _ _ q => q), upd_same, .nil, Nat.le_refl _, h⟩, ?_⟩
    rintro i m H2 ⟨rfl, hi, st2, ι2, acc, us, e2, rs2, re2, hD, ra, hal, h2⟩
    have nv2 : D ∉ ι2.pv := by rw [e2.pv]; exact nv1
    have ew : Exw ι1 H1 (ι2.prv D) H2 := ⟨fun a z => by
      rcases z with z | z
      · exact e2.w.new a (.inl z)
      · rcases List.mem_cons.mp z with z | z
        · rw [z]; exact .inr nD
        · exact e2.w.new a (.inr z), e2.w.keep⟩
    by_cases hlt : i < xs.length
    · right
      obtain ⟨w, hw⟩ : ∃ w, xs[i]? = some w := ⟨xs[i], List.getElem?_eq_getElem hlt⟩
      have hd : xs.drop i = w :: xs.drop (i + 1) := by
        rw [List.drop_eq_getElem_cons hlt]
        have : xs[i] = w := by rw [List.getElem?_eq_getElem hlt] at hw; exact Option.some.inj hw
        rw [this]
      rw [hd] at h2
      unfold cmpL at h2
      by_cases hk : chk st2
      · rw [if_pos hk] at h2
        obtain ⟨_, ok2⟩ := ok1 i (ι2.prv D) st2 H2 ew e2.pl rs2 hk
        obtain ⟨go, yl⟩ := ok2 w hw
        refine ⟨go, fun H' => i + 1 ≤ xs.length ∧ ∃ st2 ι2 acc us, Ext ι1 H1 ι2 H' ∧ RelS G (ι2.prv D) st2 H' ∧ RelE G (ι2.prv D) H' (wipeE ρ (own.map (·.2))) (wipe σ (own.map (·.2))) ∧ H' D = some (.lst us) ∧ RepWs G (ι2.prv D) H' acc us ∧ acc.length ≤ i + 1 ∧
          Post G W σ ι1 H1 ((cmpL g mt me chk (wipeE ρ (own.map (·.2))) (xs.drop (i + 1)) acc st2).bind fin) Q, fun H' z => ⟨xs.length - (i + 1), by omega, rfl, z.1, z.2⟩, fun x H3 y => ?_⟩
        obtain ⟨same, rx⟩ := yl x H3 y
        have s3 : Ext (ι2.prv D) H2 (ι2.prv D) H3 := Ext.same same
        have rs3 := rs2.same same
        have e3 : Ext ι1 H1 ι2 H3 := (e2.over nD s3 rs3).1
        refine ⟨w, _, st2, ι2.prv D, rs3, re2.ext s3, rx, ?_⟩
        cases eg : g w (wipeE ρ (own.map (·.2))) st2 with
        | bad => rw [eg] at h2; exact h2.elim
        | exc x st' => rw [eg] at h2; exact h2.elim
        | ok ρ3 st3 =>
          rw [eg] at h2
          dsimp only at h2
          intro ι4 σ4 H4 s4 rs4 re4 w4
          refine ⟨by rw [w4]; exact wipe_wipe _ _, ρ3, st3, ι4, rs4, re4, ?_⟩
          have s24 := s3.tr s4
          cases et : mt ρ3 st3 with
          | bad => rw [et] at h2; exact h2.elim
          | exc x st' => rw [et] at h2; exact h2.elim
          | ok b st4 =>
            rw [et] at h2
            intro ι5 H5 s5 rs5
            have s25 := s24.tr s5
            cases b with
            | false =>
              rw [if_neg Bool.false_ne_true]
              dsimp only at h2
              obtain ⟨e5, ep⟩ := e2.over nD s25 rs5
              refine ⟨hlt, st4, ⟨ι5.pl, ι2.pv⟩, acc, us, e5, ep ▸ rs5, ?_, s25.pvk D _ (List.mem_cons_self ..) hD, ?_, by omega, h2⟩
              · rw [← ep]; exact re2.ext s25
              · rw [← ep]; exact RepWs.ext s25 ra
            | true =>
              rw [if_pos rfl]
              dsimp only at h2
              refine ⟨ρ3, st4, ι5, rs5, re4.ext s5, ?_⟩
              cases ey : me ρ3 st4 with
              | bad => rw [ey] at h2; exact h2.elim
              | exc x st' => rw [ey] at h2; exact h2.elim
              | ok yw st6 =>
                rw [ey] at h2
                dsimp only at h2
                intro ι6 yv H6 s6 rs6 ry
                have s26 := s25.tr s6
                obtain ⟨e6, ep⟩ := e2.over nD s26 rs6
                have hD6 := s26.pvk D _ (List.mem_cons_self ..) hD
                have ra6 := RepWs.ext s26 ra
                rw [ep] at rs6 ry ra6
                have re6 := re2.ext s26
                rw [ep] at re6
                obtain ⟨rs7, ex7⟩ := rs6.wr (o := .lst (us ++ [yv]))
                refine ⟨us, hD6, by rw [← RepWs.length ra]; omega, hlt, st6, ⟨ι6.pl, ι2.pv⟩, acc ++ [yw], us ++ [yv], ?_, rs7, re6.exw ex7 fun _ _ q => q, upd_same, ?_, by simp; omega, h2⟩
                · refine ⟨⟨e6.w.new, fun b o q n => ?_⟩, e6.pl, e6.pv, fun b o hb q => ?_⟩
                  · rw [upd_ne (ne_of_none q nD)]; exact e6.w.keep b o q n
                  · rw [upd_ne (ne_of_none q nD)]; exact e6.pvk b o hb q
                · exact RepWs.app (RepWs.exw ex7 (fun _ _ q => q) ra6) (.cons (ry.exw ex7 fun _ _ q => q) .nil)
      · rw [if_neg hk] at h2; exact h2.elim
    · left
      have hie : i = xs.length := by omega
      rw [hie, List.drop_length] at h2
      unfold cmpL at h2
      by_cases hk : chk st2
      · rw [if_pos hk] at h2
        refine ⟨(ok1 i (ι2.prv D) st2 H2 ew e2.pl rs2 hk).1 hie, ?_⟩
        exact hf W σ ι1 H1 ι2 st2 H2 D acc us Q e2 nD nv2 rs2 hD ra (by omega) h2
      · rw [if_neg hk] at h2; exact h2.elim
end
end DL

set_option Elab.async false
set_option linter.all false
set_option maxRecDepth 100000
set_option maxHeartbeats 4000000
/-! DLi: what a def promises by its mirror; calls, methods, making. -/
namespace DL
open PySem PySem.Spec PyProof.Rows L2
open Classical

/-! ### leaving a def: what was made within is frozen or forgotten -/
def closedW (k : Nat) : Wd → Bool
  | .v _ => true
  | .ref n => decide (n < k)
def closedO (k : Nat) : Ob → Bool
  | .lst ws => ws.all (closedW k)
  | .dct kvs => kvs.all fun p => closedW k p.2
  | .dcT kvs => kvs.all fun p => closedW k p.2
  | .ins _ fs => fs.all fun p => closedW k p.2
  | .hid => true
/-- of the objects ahead each stands as it stood, or holds nothing that was made since -/
def Trunc (st0 st : Sto) : Prop := st0.length ≤ st.length ∧ ∀ (i : Nat) (o : Ob), i < st0.length → st[i]? = some o → st0[i]? = some o ∨ closedO st0.length o = true
def allF {κ : Type} : List (κ × Wd) → Option (List (κ × T))
  | [] => some []
  | (k, .v t) :: r => (allF r).map ((k, t) :: ·)
  | (_, .ref _) :: _ => none
theorem allF_some {κ : Type} : ∀ {ws : List (κ × Wd)} {ts : List (κ × T)}, allF ws = some ts → ws = ts.map fun p => (p.1, Wd.v p.2)
  | [], _, h => by cases h; rfl
  | (k, .v t) :: r, ts, h => by
    simp only [allF, Option.map_eq_some_iff] at h
    obtain ⟨q, h1, rfl⟩ := h
    rw [allF_some h1]; rfl
  | (_, .ref _) :: _, _, h => by cases h
@[simp] theorem allF_map {κ : Type} (ts : List (κ × T)) : allF (ts.map fun p => (p.1, Wd.v p.2)) = some ts := by
  induction ts with
  | nil => rfl
  | cons t r ih => obtain ⟨k, t⟩ := t; simp only [List.map_cons, allF, ih, Option.map_some]
/-- an object's content as a frozen thing -/
def frzO : Ob → Option T
  | .lst ws => (allT ws).map .lst
  | .dct kvs => (allF kvs).map .dct
  | .dcT kvs => (allF kvs).map .dcT
  | .ins c fs => (allF fs).map (.ins c)
  | .hid => none
def frzW (k : Nat) (st : Sto) : Wd → Option Wd
  | .v t => some (.v t)
  | .ref n => if n < k then some (.ref n) else match st[n]? with
    | some o => (frzO o).map .v
    | none => none
noncomputable def closeR (st0 : Sto) (r : R Wd) : R Wd := match r with
  | .ok w st => if Trunc st0 st then (match frzW st0.length st w with | some w' => .ok w' (st.take st0.length) | none => .bad) else .bad
  | .exc x st => if Trunc st0 st then .exc x (st.take st0.length) else .bad
  | .bad => .bad
section
variable {G : Gc} {ι ι1 : Io} {H H1 : Hp}
theorem closedW_of {k : Nat} (hk : k = ι.pl.length) {w : Wd} {v : V} (r : RepW G ι H w v) : closedW k w = true := by
  cases w with
  | v t => rfl
  | ref n =>
    obtain ⟨a, h, _⟩ := r
    exact decide_eq_true (by rw [hk]; exact (List.getElem?_eq_some_iff.mp h).1)
theorem closedWs_of {k : Nat} (hk : k = ι.pl.length) : ∀ {ws : List Wd} {vs : List V}, RepWs G ι H ws vs → ws.all (closedW k) = true
  | _, _, .nil => rfl
  | _, _, .cons a b => by simp [closedW_of hk a, closedWs_of hk b]
theorem closedK_of {κ : Type} {k : Nat} (hk : k = ι.pl.length) : ∀ {ws : List (κ × Wd)} {vs : List (κ × V)}, RepWK G ι H ws vs → (ws.all fun p => closedW k p.2) = true
  | _, _, .nil => rfl
  | _, _, .cons a b => by simp [closedW_of hk a.2, closedK_of hk b]
theorem RelS.closed {st : Sto} (r : RelS G ι st H) {i : Nat} {o : Ob} (h : st[i]? = some o) : closedO st.length o = true := by
  have z := r.at_ i o h
  have hk : st.length = ι.pl.length := r.len.symm
  cases o with
  | hid => rfl
  | lst ws => obtain ⟨a, vs, _, _, _, q⟩ := z; exact closedWs_of hk q
  | dct ws => obtain ⟨a, vs, _, _, _, q⟩ := z; exact closedK_of hk q
  | dcT ws => obtain ⟨a, vs, _, _, _, q⟩ := z; exact closedK_of hk q
  | ins c ws => obtain ⟨a, C, dx, vs, _, _, _, q⟩ := z; exact closedK_of hk q
def Io.cut (ι : Io) (k : Nat) : Io := ⟨ι.pl.take k, ι.pv⟩
theorem exw_cut (k : Nat) : Exw ι H (ι.cut k) H := ⟨fun a h => .inl (by
  rcases h with h | h
  · exact .inl (List.mem_of_mem_take h)
  · exact .inr h), fun _ _ q _ => q⟩
theorem RepW.cut {k : Nat} {w : Wd} {v : V} (c : closedW k w = true) (r : RepW G ι H w v) : RepW G (ι.cut k) H w v := by
  cases w with
  | v t => exact Rep.exw (exw_cut k) r
  | ref n =>
    obtain ⟨a, h, q⟩ := r
    have hn : n < k := of_decide_eq_true c
    exact ⟨a, by show (ι.pl.take k)[n]? = _; rw [List.getElem?_take_of_lt hn]; exact h, q⟩
theorem RepWs.cut {k : Nat} : ∀ {ws : List Wd} {vs : List V}, ws.all (closedW k) = true → RepWs G ι H ws vs → RepWs G (ι.cut k) H ws vs
  | _, _, _, .nil => .nil
  | _, _, c, .cons a b => by
    simp only [List.all_cons, Bool.and_eq_true] at c
    exact .cons (a.cut c.1) (RepWs.cut c.2 b)
theorem RepWK.cut {κ : Type} {k : Nat} : ∀ {ws : List (κ × Wd)} {vs : List (κ × V)}, (ws.all fun p => closedW k p.2) = true → RepWK G ι H ws vs → RepWK G (ι.cut k) H ws vs
  | _, _, _, .nil => .nil
  | _, _, c, .cons a b => by
    simp only [List.all_cons, Bool.and_eq_true] at c
    exact .cons ⟨a.1, a.2.cut c.1⟩ (RepWK.cut c.2 b)
theorem RelS.cut {st0 st : Sto} {ι0 : Io} {H0 : Hp} (r0 : RelS G ι0 st0 H0) (r : RelS G ι st H) (t : Trunc st0 st) : RelS G (ι.cut st0.length) (st.take st0.length) H := by
  have at' : ∀ (n : Nat) (a : Option Addr), (ι.cut st0.length).pl[n]? = some a → ι.pl[n]? = some a := fun n a q => by
    have q : (ι.pl.take st0.length)[n]? = some a := q
    rw [List.getElem?_take] at q
    split at q
    · exact q
    · cases q
  refine ⟨by show (ι.pl.take st0.length).length = _; rw [List.length_take, List.length_take, r.len], fun i j a h1 h2 => r.inj i j a (at' i _ h1) (at' j _ h2), fun n o q => ?_, fun n a h => r.dis n a (at' n _ h), r.pvt⟩
  rw [List.getElem?_take] at q
  split at q
  · rename_i hn
    have c : closedO st0.length o = true := by
      rcases t.2 n o hn q with h | h
      · exact r0.closed h
      · exact h
    have z := r.at_ n o q
    have pl : ∀ x, ι.pl[n]? = some x → (ι.cut st0.length).pl[n]? = some x := fun x h => by
      show (ι.pl.take st0.length)[n]? = _
      rw [List.getElem?_take_of_lt hn]; exact h
    cases o with
    | hid => exact pl none z
    | lst ws => obtain ⟨a, vs, h1, h2, l, h3⟩ := z; exact ⟨a, vs, pl _ h1, h2, l, RepWs.cut c h3⟩
    | dct ws => obtain ⟨a, vs, h1, h2, l, h3⟩ := z; exact ⟨a, vs, pl _ h1, h2, l, RepWK.cut c h3⟩
    | dcT ws => obtain ⟨a, vs, h1, h2, l, h3⟩ := z; exact ⟨a, vs, pl _ h1, h2, l, RepWK.cut c h3⟩
    | ins c' ws => obtain ⟨a, C, dx, vs, h1, h2, hc, h3⟩ := z; exact ⟨a, C, dx, vs, pl _ h1, h2, hc, RepWK.cut c h3⟩
  · cases q
theorem Ext.cut {st0 : Sto} {ι0 : Io} {H0 : Hp} (r0 : RelS G ι0 st0 H0) (e : Ext ι0 H0 ι H) : Ext ι0 H0 (ι.cut st0.length) H :=
  ⟨e.w.tr (exw_cut _), fun n a q => by
    show (ι.pl.take st0.length)[n]? = _
    rw [List.getElem?_take_of_lt (by rw [← r0.len]; exact (List.getElem?_eq_some_iff.mp q).1)]
    exact e.pl n a q, e.pv, e.pvk⟩
theorem RepWK.of_map {κ : Type} {ts : List (κ × T)} {vs : List (κ × V)} (r : RepWK G ι H (ts.map fun p => (p.1, Wd.v p.2)) vs) : Paired (fun p q => p.1 = q.1 ∧ Rep G ι H p.2 q.2) ts vs := by
  induction ts generalizing vs with
  | nil => cases r; exact .nil
  | cons p ps ih =>
    cases r with
    | cons a b => exact .cons a (ih b)
theorem frzW_rep {st0 st : Sto} (rs : RelS G ι st H) {k : Nat} {w w' : Wd} {v : V} (r : RepW G ι H w v) (h : frzW k st w = some w') : RepW G (ι.cut k) H w' v := by
  unfold frzW at h
  split at h
  · cases h; exact Rep.exw (exw_cut k) r
  · rename_i n
    split at h
    · rename_i hn
      cases h
      exact r.cut (decide_eq_true hn)
    · rename_i hn
      obtain ⟨a, hp, rfl⟩ := r
      have na : ¬ InI (ι.cut k) a := fun z => by
        rcases z with z | z
        · obtain ⟨m, e⟩ := List.mem_iff_getElem?.mp z
          have e : (ι.pl.take k)[m]? = some (some a) := e
          rw [List.getElem?_take] at e
          split at e
          · have := rs.inj m n a e hp
            omega
          · cases e
        · exact rs.dis n a hp z
      split at h
      · rename_i o eo
        simp only [Option.map_eq_some_iff] at h
        obtain ⟨t, h1, rfl⟩ := h
        have z := rs.at_ n o eo
        cases o with
        | hid => cases h1
        | lst ws =>
          simp only [frzO, Option.map_eq_some_iff] at h1
          obtain ⟨ts, h2, rfl⟩ := h1
          obtain ⟨b, vs, q, h4, l, h5⟩ := z
          rw [hp] at q; cases q
          rw [allT_some h2] at h5 l
          exact .lst h4 (by simpa using l) na ((RepWs.of_map h5).exw (exw_cut k))
        | dct ws =>
          simp only [frzO, Option.map_eq_some_iff] at h1
          obtain ⟨ts, h2, rfl⟩ := h1
          obtain ⟨b, vs, q, h4, l, h5⟩ := z
          rw [hp] at q; cases q
          rw [allF_some h2] at h5 l
          exact .dct h4 (by simpa using l) na ((repK_of (RepWK.of_map h5)).exw (exw_cut k))
        | dcT ws =>
          simp only [frzO, Option.map_eq_some_iff] at h1
          obtain ⟨ts, h2, rfl⟩ := h1
          obtain ⟨b, vs, q, h4, l, h5⟩ := z
          rw [hp] at q; cases q
          rw [allF_some h2] at h5 l
          exact .dcT h4 (by simpa using l) na ((repKT_of (RepWK.of_map h5)).exw (exw_cut k))
        | ins c ws =>
          simp only [frzO, Option.map_eq_some_iff] at h1
          obtain ⟨ts, h2, rfl⟩ := h1
          obtain ⟨b, C, dx, vs, q, h4, hc, h5⟩ := z
          rw [hp] at q; cases q
          rw [allF_some h2] at h5
          exact .ins h4 na hc ((repF_of (RepWK.of_map h5)).exw (exw_cut k))
      · cases h
theorem RepX.exw {x : Exn} {cls : Value} {d : Option Addr} (e : Exw ι H ι1 H1) (r : RepX G ι H x cls d) : RepX G ι1 H1 x cls d := by
  obtain ⟨C, D, fs, h1, h2, h3, h4, h5, h6⟩ := r
  exact ⟨C, D, fs, h1, h2, h3, e.keep _ _ h4 h5, e.notIn h4 h5, RepF.exw e h6⟩
end

/-! ### a def's promise -/
def PostF (G : Gc) (ι : Io) (H : Hp) (r : R Wd) (Q : VK) (E : XK) : Prop := match r with
  | .bad => False
  | .ok w st => ∀ ι' v H', Ext ι H ι' H' → RelS G ι' st H' → RepW G ι' H' w v → Q v H'
  | .exc x st => ∀ ι' H' cls d, Ext ι H ι' H' → RelS G ι' st H' → RepX G ι' H' x cls d → E cls d H'
def spM (G : Gc) (n : Nat) (m : MF) : Sp := fun vs H Q E => ∃ ι st ws, ws.length = n ∧ RelS G ι st H ∧ RepWs G ι H ws vs ∧ PostF G ι H (m ws st) Q E
/-- a body's end as a call's -/
def RS.fin : RS → R Wd
  | .nx _ st => .ok (.v .non) st
  | .rt w st => .ok w st
  | .ex x _ st => .exc x st
  | _ => .bad
/-- a def's mirror: nN names, np parameters; keep: what it makes stays ours -/
noncomputable def runD (keep : Bool) (nN np : Nat) (b : SM) : MF := fun ws st => if ws.length = np then (if keep then (b (ws.map some ++ List.replicate (nN - np) none) st).fin else closeR st (b (ws.map some ++ List.replicate (nN - np) none) st).fin) else .bad
theorem PostF.close {G : Gc} {ι : Io} {H : Hp} {st0 : Sto} {r : R Wd} {Q : VK} {E : XK} (r0 : RelS G ι st0 H) (h : PostF G ι H (closeR st0 r) Q E) : PostF G ι H r Q E := by
  unfold closeR at h
  split at h
  · rename_i w st
    split at h
    · rename_i t
      split at h
      · rename_i w' ew
        intro ι' v H' e rs rw'
        exact h (ι'.cut st0.length) v H' (e.cut r0) (r0.cut rs t) (frzW_rep (st0 := st0) rs rw' ew)
      · exact h.elim
    · exact h.elim
  · rename_i x st
    split at h
    · rename_i t
      intro ι' H' cls d e rs rx
      exact h (ι'.cut st0.length) H' cls d (e.cut r0) (r0.cut rs t) (rx.exw (exw_cut _))
    · exact h.elim
  · exact h
/-- where a body stands -/
structure DCx (X : Cx) (P : Program) (w : World) (K : PySem.W.Frag) (mg : Str → Option Value) (base : Heap) (N : List Str) (sc : Scope) (k : Nat) (W : WX) : Prop where
  prog : X.prog = P
  w : X.w = w
  K : X.K = K
  mg : X.mg = mg
  base : X.base = base
  N : X.N = N
  sc : X.env.scope = sc
  calm : X.calm = true
  room : Room k X.A
  tk : Takes X W
  own : PassesOwn (model X.prog X.w) X.A X.env X.xe
  stk : X.stack = X.env :: X.outer
  frm : X.env.frame = some X.env.locals
  fn : ∀ x, X.fn x = true
section
variable {P : Program} {w : World} {K : PySem.W.Frag} {mg : Str → Option Value} {base : Heap} {G : Gc}
theorem relE_start {ι : Io} {H : Hp} {ws : List Wd} {vs : List V} (r : RepWs G ι H ws vs) (N : List Str) (n : Nat) (hn : vs.length = n) : RelE G ι H (ws.map some ++ List.replicate (N.length - n) none) (L2.start N vs) := by
  unfold L2.start
  have hl := r.length
  refine ⟨by simp [hl, hn], fun i x e => ?_⟩
  by_cases hi : i < ws.length
  · rw [List.getElem?_append_left (by simpa using hi), List.getElem?_map, Option.map_eq_some_iff] at e
    obtain ⟨y, h1, h2⟩ := e
    cases h2
    obtain ⟨v, h3, h4⟩ := RepWs.get r h1
    exact ⟨v, by rw [List.getElem?_append_left (by rw [List.length_map, ← hl]; exact hi), List.getElem?_map, h3]; rfl, h4⟩
  · rw [List.getElem?_append_right (by simpa using Nat.le_of_not_lt hi), List.getElem?_replicate] at e
    split at e <;> cases e
/-- THE RULE: a def keeps its mirror's promise -/
theorem fn_mir {x qual : Str} {prm : Arguments} {body : List Stmt} {scope : Scope} {dvs : List V} {kws : List (Str × V)} {f : Addr} {fd : FuncData} {N ps : List Str} {k : Nat} {keep : Bool} {mb : SM} (F : FunD K x qual prm body scope dvs kws f fd) (S : FnScope N ps scope)
    (hb : ∀ (X : Cx) (W : WX), DCx X P w K mg base N scope k W → SVs X G W body mb) : FnOk P w K mg base (L2.CX P w) (k + 1) f fd ps (spM G ps.length (runD keep N.length ps.length mb)) := by
  refine F.ok S (fun vs H Q E h => ?_) (fun cdv A outer s H vs Q E hr h => ?_)
  · obtain ⟨ι, sto, ws, hl, rs, r, h⟩ := h
    rw [← r.length]; exact hl
  · obtain ⟨ι, sto, ws, hl, rs, r, h⟩ := h
    obtain ⟨t, p, q⟩ := hb (cxOf (L2.CX P w) P w K mg base N qual scope f cdv A outer s H E) (fun cls d _ H => E cls d H) ⟨rfl, rfl, rfl, rfl, rfl, rfl, rfl, rfl, hr, takes_of rfl rfl rfl rfl, passes_of rfl, rfl, rfl, fun _ => rfl⟩
    refine ⟨t, p, q _ sto _ ι H _ rs (relE_start r N ps.length (by rw [← r.length]; exact hl)) ?_⟩
    have h : PostF G ι H (mb (ws.map some ++ List.replicate (N.length - ps.length) none) sto).fin Q E := by
      unfold runD at h
      rw [if_pos hl] at h
      cases keep with
      | true => exact h
      | false => exact PostF.close rs h
    cases em : mb (ws.map some ++ List.replicate (N.length - ps.length) none) sto with
    | bad => rw [em] at h; exact h
    | bk ρ st' => rw [em] at h; exact h.elim
    | ct ρ st' => rw [em] at h; exact h.elim
    | nx ρ st' => rw [em] at h; exact fun ι' σ' H' e rs' re' => h ι' .non H' e rs' .non
    | rt w' st' => rw [em] at h; exact h
    | ex x' ρ st' => rw [em] at h; exact fun ι' σ' H' cls d e rs' re' rx => h ι' H' cls d e rs' rx
end

/-! ### calls -/
theorem meth_plain {o : Expr} {m : Str} {apos pos : Pos} {es : List Expr} {env : Env} (hb : attributeBase o m env (eval o env) = eval o env) (hl : (apos.endLine == pos.line) = true) (hs : es.all noStar = true) (hn : es.length < 30) :
    eval (.Call (.Attribute o m apos) es [] pos) env = (do
      let ov ← eval o env
      standAt apos.atName
      let (f, first) ← holding [ov] (getMethod ov m (do return (← importBound o env).getD true))
      callWith pos f first (backTo pos (starEach es env)) (backToKw pos (keywordEach [] env))) := by
  have hst : ∀ {l : List Expr}, l.all noStar = true → (backTo pos (starEach l env)).all (fun x => !x.1) = true := by
    intro l
    induction l with
    | nil => intro _; rfl
    | cons e l ih =>
      intro h
      simp only [List.all_cons, Bool.and_eq_true] at h
      rw [star_plain h.1]
      show (!false && (backTo pos (starEach l env)).all (fun x => !x.1)) = true
      rw [ih h.2]; rfl
  have hform : methodCallForm (es.length + ([] : List Keyword).length) (backTo pos (starEach es env)) (backToKw pos (keywordEach [] env)) = true := by
    unfold methodCallForm
    rw [hst hs]
    show (true && true && decide (es.length + 0 + (if ([] : List (Option Str × Sem Value)).isEmpty then 0 else 1) < 30)) = true
    simp [hn]
  show (do
    let ov ← attributeBase o m env (eval o env)
    standAt apos.atName
    methodCall o m apos pos env ov (es.length + ([] : List Keyword).length) (backTo pos (starEach es env)) (backToKw pos (keywordEach [] env))) = _
  rw [hb]
  unfold methodCall calleeOf methodCallPos
  rw [hform, hl]
  rfl
section
variable {X : Cx} {G : Gc} {W : WX} {k : Nat} {f C : Addr} {fd : FuncData} {ps : List Str} {m : MF} {x : Str} {p pos apos : Pos} {e o : Expr} {es : List Expr} {ml : LM} {mo : EM} {ds : List Value} {dvs : List V} {dts : List T} {n : Nat}
/-- a def of the text, for its callers: dts what is left out -/
structure FnE (P : Program) (w : World) (K : PySem.W.Frag) (mg : Str → Option Value) (base : Heap) (G : Gc) (k : Nat) (x : Str) (n : Nat) (dts : List T) (m : MF) : Prop where
  ex : ∃ (f : Addr) (fd : FuncData) (ps : List Str) (ds : List Value) (dvs : List V), FnOk P w K mg base (L2.CX P w) k f fd ps (spM G n m) ∧ mg x = some (.ref f) ∧ PySem.W.keepIn K (.ref f) = true ∧ Binds K fd ps ds ∧ Vals dvs ds ∧ ∀ ι H, Reps G ι H dts dvs
  len : ∀ ws st, m ws st ≠ .bad → ws.length = n
/-- the arguments in, the promise out -/
theorem spM_of {σ : St} {ι : Io} {H : Hp} {ws : List Wd} {vs : List V} {st : Sto} {Q : VK} {n : Nat} (hlen : ∀ ws st, m ws st ≠ .bad → ws.length = n) (rs : RelS G ι st H) (r : RepWs G ι H ws vs) (h : Post G W σ ι H (m ws st) Q) : spM G n m vs H Q (WE W σ) := by
  refine ⟨ι, st, ws, hlen ws st (fun z => by rw [z] at h; exact h), rs, r, ?_⟩
  cases em : m ws st with
  | bad => rw [em] at h; exact h
  | ok w' st' => rw [em] at h; exact h
  | exc x' st' => rw [em] at h; exact h
theorem ev_call (F : FnE X.prog X.w X.K X.mg X.base G k x n dts m) (hr : Room k X.A) (hg : Gl X x) (tk : Takes X W) (hdb : (x == ("__debug__" : Str)) = false) (hs : noStar e = true) (hss : es.all noStar = true) (ha : AV X G W (e :: es) ml) :
    EV X G W (.Call (.Name x p) (e :: es) [] pos) (fun ρ st => (ml ρ st).bind fun ws st1 => m (ws ++ dts.map Wd.v) st1) := by
  obtain ⟨⟨f, fd, ps, ds, dvs, F, hm, hk, hb, hd, hr'⟩, hlen⟩ := F
  obtain ⟨t, pa, q⟩ := ha
  refine ⟨_, pe_callSD (E := WE W) F hr hg hm hk hb hd (passAt tk) pa hdb (star_plain hs) (stars_plain hss), fun ρ st σ ι H Q rs re h => ?_⟩
  refine q ρ st σ ι H _ rs re (h.firstL fun ws st1 ι1 vs H1 e1 rs1 r1 h1 => ?_)
  exact spM_of hlen rs1 (RepWs.app r1 (hr' ι1 H1).map) h1
theorem ev_call0 (F : FnE X.prog X.w X.K X.mg X.base G k x n dts m) (hr : Room k X.A) (hg : Gl X x) (tk : Takes X W) (hdb : (x == ("__debug__" : Str)) = false) :
    EV X G W (.Call (.Name x p) [] [] pos) (fun _ st => m (dts.map Wd.v) st) := by
  obtain ⟨⟨f, fd, ps, ds, dvs, F, hm, hk, hb, hd, hr'⟩, hlen⟩ := F
  refine ⟨fun σ H Q => spM G n m dvs H Q (WE W σ), ⟨fun pins s σ H Q I h => ?_⟩, fun ρ st σ ι H Q rs re h => ?_⟩
  · refine wpAny_Call_Name_kw (ld_glob I hg hm ?_ hdb)
    exact PySem.W.callWith_K0 I.kIn hk (run_fnSD (us := []) (vs := []) (dvs := dvs) (E := WE W) F hr hb hd (passAt tk σ) I .nil h)
  · exact spM_of hlen rs (hr' ι H).map h
/-- a method of the text -/
structure MtE (P : Program) (w : World) (K : PySem.W.Frag) (mg : Str → Option Value) (base : Heap) (G : Gc) (k : Nat) (c : Str) (mn : Str) (n : Nat) (dts : List T) (m : MF) : Prop where
  ex : ∃ (f C : Addr) (fd : FuncData) (ps : List Str) (ds : List Value) (dvs : List V), FnOk P w K mg base (L2.CX P w) k f fd ps (spM G n m) ∧ G.cl c = some C ∧ Cls K C ∧ Meth K C mn f ∧ Binds K fd ps ds ∧ Vals dvs ds ∧ ∀ ι H, Reps G ι H dts dvs
  len : ∀ ws st, m ws st ≠ .bad → ws.length = n
/-- an instance, ours or frozen, that has no field of the name -/
def isIns (st : Sto) (c mn : Str) : Wd → Bool
  | .v (.ins c' fs) => decide (c' = c) && (fs.lookup mn).isNone
  | .ref n => match st[n]? with
    | some (.ins c' fs) => decide (c' = c) && (fs.lookup mn).isNone
    | _ => false
  | _ => false
theorem RepF.lookup {ι : Io} {H : Hp} : ∀ {ts : List (Str × T)} {vs : List (Str × V)} (f : Str), RepF G ι H ts vs → (ts.lookup f = none ∧ vs.lookup f = none) ∨ ∃ t v, ts.lookup f = some t ∧ vs.lookup f = some v ∧ Rep G ι H t v
  | _, _, f, .nil => .inl ⟨rfl, rfl⟩
  | (k, t) :: ts, (_, v) :: vs, f, .cons a b => by
    by_cases hf : (f == k) = true
    · exact .inr ⟨t, v, by simp only [List.lookup, hf], by simp only [List.lookup, hf], a⟩
    · have hf : (f == k) = false := by simpa using hf
      have h1 : ((k, t) :: ts).lookup f = ts.lookup f := by simp only [List.lookup, hf]
      have h2 : ((k, v) :: vs).lookup f = vs.lookup f := by simp only [List.lookup, hf]
      rw [h1, h2]
      exact RepF.lookup f b
theorem RepWK.lookup {ι : Io} {H : Hp} : ∀ {ts : List (Str × Wd)} {vs : List (Str × V)} (f : Str), RepWK G ι H ts vs → (ts.lookup f = none ∧ vs.lookup f = none) ∨ ∃ t v, ts.lookup f = some t ∧ vs.lookup f = some v ∧ RepW G ι H t v
  | _, _, f, .nil => .inl ⟨rfl, rfl⟩
  | (k, t) :: ts, (k', v) :: vs, f, .cons a b => by
    obtain ⟨e, a⟩ := a
    have e : k = k' := e
    subst e
    by_cases hf : (f == k) = true
    · exact .inr ⟨t, v, by simp only [List.lookup, hf], by simp only [List.lookup, hf], a⟩
    · have hf : (f == k) = false := by simpa using hf
      have h1 : ((k, t) :: ts).lookup f = ts.lookup f := by simp only [List.lookup, hf]
      have h2 : ((k, v) :: vs).lookup f = vs.lookup f := by simp only [List.lookup, hf]
      rw [h1, h2]
      exact RepWK.lookup f b
theorem isIns_rep {ι : Io} {H : Hp} {st : Sto} {c mn : Str} {w : Wd} {v : V} (rs : RelS G ι st H) (r : RepW G ι H w v) (h : isIns st c mn w = true) : ∃ a C dx fs, v = .ref a ∧ H a = some (.ins C dx fs) ∧ G.cl c = some C ∧ fs.lookup mn = none := by
  unfold isIns at h
  split at h
  · rename_i c' fs
    simp only [Bool.and_eq_true, decide_eq_true_eq] at h
    obtain ⟨rfl, h⟩ := h
    cases r with
    | ins h1 h2 h3 h4 =>
      refine ⟨_, _, _, _, rfl, h1, h3, ?_⟩
      rcases RepF.lookup mn h4 with ⟨_, q⟩ | ⟨t, v, q, _, _⟩
      · exact q
      · rw [q] at h; cases h
  · rename_i n
    obtain ⟨a, hn, rfl⟩ := r
    split at h
    · rename_i c' fs e
      simp only [Bool.and_eq_true, decide_eq_true_eq] at h
      obtain ⟨rfl, h⟩ := h
      obtain ⟨b, C, dx, vs, h1, h2, h3, h4⟩ := rs.ob e
      rw [hn] at h1; cases h1
      refine ⟨a, C, dx, vs, rfl, h2, h3, ?_⟩
      rcases RepWK.lookup mn h4 with ⟨_, q⟩ | ⟨t, v, q, _, _⟩
      · exact q
      · rw [q] at h; cases h
    · cases h
  · cases h
def eMeth (c mn : Str) (mo : EM) (ml : LM) (dts : List T) (m : MF) : EM := fun ρ st => (mo ρ st).bind fun w st1 => if isIns st1 c mn w then (ml ρ st1).bind fun ws st2 => m (w :: (ws ++ dts.map Wd.v)) st2 else .bad
/-- o.m(e, ..) -/
theorem ev_meth {c mn : Str} (F : MtE X.prog X.w X.K X.mg X.base G k c mn n dts m) (hr : Room k X.A) (tk : Takes X W) (ho : EV X G W o mo) (hb : attributeBase o mn X.env (eval o X.env) = eval o X.env) (hl : (apos.endLine == pos.line) = true)
    (hs : (e :: es).all noStar = true) (hn : (e :: es).length < 30) (ha : AV X G W (e :: es) ml) : EV X G W (.Call (.Attribute o mn apos) (e :: es) [] pos) (eMeth c mn mo ml dts m) := by
  obtain ⟨⟨f, C, fd, ps, ds, dvs, F, hC, cls, hm, hbd, hd, hr'⟩, hlen⟩ := F
  obtain ⟨to, po, qo⟩ := ho
  obtain ⟨t, pa, q⟩ := ha
  refine ⟨fun σ H Q => to σ H fun x H1 => ∃ a dx fs, x = .ref a ∧ H1 a = some (.ins C dx fs) ∧ fs.lookup mn = none ∧ t σ H1 fun vs H2 => spM G n m (x :: (vs ++ dvs)) H2 Q (WE W σ), ⟨fun pins s σ H Q I h => ?_⟩, fun ρ st σ ι H Q rs re h => ?_⟩
  · refine PySem.W.methodCall_KW (thn (po.run pins s σ H _ I h) fun u s1 ⟨x, H1, I1, rx, a, dx, fs, ex, ea, l, q⟩ => ?_) (meth_plain hb hl hs hn)
    subst ex
    obtain rfl : u = Value.ref a := rx
    refine getmeth_ok I1 ea cls hm l ?_
    simp only [List.all_cons, Bool.and_eq_true] at hs
    refine PySem.W.callWith_K (first := [.ref a]) (h₀ := X.base) I1.ok.mod.kin hm.kp (thn (pa.run pos pins s1 σ H1 _ I1 q) fun us s2 ⟨vs, H2, I2, r, q2⟩ => ⟨I2.kIn, ?_⟩) (star_plain hs.1) (stars_plain hs.2)
    exact run_fnSD (us := .ref a :: us) (vs := .ref a :: vs) (E := WE W) F hr hbd hd (passAt tk σ) I2 (.cons rfl r) q2
  · unfold eMeth at h
    refine qo ρ st σ ι H _ rs re (h.first fun wo st1 ι1 x H1 e1 rs1 rx h1 => ?_)
    split at h1
    · rename_i hi
      obtain ⟨a, C', dx, fs, rfl, h2, h3, h4⟩ := isIns_rep rs1 rx hi
      rw [hC] at h3; cases h3
      refine ⟨a, dx, fs, rfl, h2, h4, ?_⟩
      refine q ρ st1 σ ι1 H1 _ rs1 (re.ext e1) (h1.firstL fun ws st2 ι2 vs H2 e2 rs2 r2 h5 => ?_)
      exact spM_of hlen rs2 (.cons (rx.ext e2) (RepWs.app r2 (hr' ι2 H2).map)) h5
    · exact h1.elim
theorem ev_meth0 {c mn : Str} (F : MtE X.prog X.w X.K X.mg X.base G k c mn n dts m) (hr : Room k X.A) (tk : Takes X W) (ho : EV X G W o mo) (hb : attributeBase o mn X.env (eval o X.env) = eval o X.env) (hl : (apos.endLine == pos.line) = true) :
    EV X G W (.Call (.Attribute o mn apos) [] [] pos) (eMeth c mn mo lNil dts m) := by
  obtain ⟨⟨f, C, fd, ps, ds, dvs, F, hC, cls, hm, hbd, hd, hr'⟩, hlen⟩ := F
  obtain ⟨to, po, qo⟩ := ho
  refine ⟨fun σ H Q => to σ H fun x H1 => ∃ a dx fs, x = .ref a ∧ H1 a = some (.ins C dx fs) ∧ fs.lookup mn = none ∧ spM G n m (x :: dvs) H1 Q (WE W σ), ⟨fun pins s σ H Q I h => ?_⟩, fun ρ st σ ι H Q rs re h => ?_⟩
  · refine PySem.W.methodCall_KW (thn (po.run pins s σ H _ I h) fun u s1 ⟨x, H1, I1, rx, a, dx, fs, ex, ea, l, q⟩ => ?_) (meth_plain hb hl rfl (by show (0 : Nat) < 30; decide))
    subst ex
    obtain rfl : u = Value.ref a := rx
    refine getmeth_ok I1 ea cls hm l ?_
    exact PySem.W.callWith_K0 (first := [.ref a]) I1.kIn hm.kp (run_fnSD (us := [.ref a]) (vs := [.ref a]) (E := WE W) F hr hbd hd (passAt tk σ) I1 (.cons rfl .nil) q)
  · unfold eMeth at h
    refine qo ρ st σ ι H _ rs re (h.first fun wo st1 ι1 x H1 e1 rs1 rx h1 => ?_)
    split at h1
    · rename_i hi
      obtain ⟨a, C', dx, fs, rfl, h2, h3, h4⟩ := isIns_rep rs1 rx hi
      rw [hC] at h3; cases h3
      refine ⟨a, dx, fs, rfl, h2, h4, ?_⟩
      exact spM_of hlen rs1 (.cons rx (hr' ι1 H1).map) h1
    · exact h1.elim
/-- o.f -/
def fldW (st : Sto) (f : Str) : Wd → Option Wd
  | .v (.ins _ fs) => (fs.lookup f).map Wd.v
  | .ref n => match st[n]? with
    | some (.ins _ fs) => fs.lookup f
    | _ => none
  | _ => none
def eFld (f : Str) (mo : EM) : EM := fun ρ st => (mo ρ st).bind fun w st1 => match fldW st1 f w with | some x => .ok x st1 | none => .bad
/-- what the written part says of the text's own classes -/
structure ClsOk (K : PySem.W.Frag) (G : Gc) (f : Str) : Prop where
  cls : ∀ c C, G.cl c = some C → Cls K C
  no : ∀ c C, G.cl c = some C → NoAttr K C f
theorem fldW_rep {ι : Io} {H : Hp} {st : Sto} {f : Str} {w x : Wd} {v : V} (rs : RelS G ι st H) (r : RepW G ι H w v) (h : fldW st f w = some x) : ∃ a C dx fs u c, v = .ref a ∧ H a = some (.ins C dx fs) ∧ G.cl c = some C ∧ fs.lookup f = some u ∧ RepW G ι H x u := by
  unfold fldW at h
  split at h
  · rename_i c fs
    simp only [Option.map_eq_some_iff] at h
    obtain ⟨t, h1, rfl⟩ := h
    cases r with
    | ins h2 h3 h4 h5 =>
      rcases RepF.lookup f h5 with ⟨q, _⟩ | ⟨t', u, q1, q2, q3⟩
      · rw [q] at h1; cases h1
      · rw [q1] at h1; cases h1
        exact ⟨_, _, _, _, u, c, rfl, h2, h4, q2, q3⟩
  · rename_i n
    obtain ⟨a, hn, rfl⟩ := r
    split at h
    · rename_i c fs e
      obtain ⟨b, C, dx, vs, h1, h2, h3, h4⟩ := rs.ob e
      rw [hn] at h1; cases h1
      rcases RepWK.lookup f h4 with ⟨q, _⟩ | ⟨t', u, q1, q2, q3⟩
      · rw [q] at h; cases h
      · rw [q1] at h; cases h
        exact ⟨a, C, dx, vs, u, c, rfl, h2, h3, q2, q3⟩
    · cases h
  · cases h
theorem ev_fld {f : Str} (hK : X.K = G.K) (hc : ClsOk G.K G f) (ho : EV X G W o mo) (hb : attributeBase o f X.env (eval o X.env) = eval o X.env) : EV X G W (.Attribute o f pos) (eFld f mo) := by
  obtain ⟨to, po, qo⟩ := ho
  refine ⟨_, pe_fld po hb, fun ρ st σ ι H Q rs re h => ?_⟩
  unfold eFld at h
  refine qo ρ st σ ι H _ rs re (h.first fun w st1 ι1 x H1 e1 rs1 rx h1 => ?_)
  split at h1
  · rename_i y e
    obtain ⟨a, C, dx, fs, u, c, rfl, g1, g2, g3, g4⟩ := fldW_rep rs1 rx e
    rw [hK]
    exact ⟨a, C, dx, fs, u, rfl, g1, hc.cls c C g2, hc.no c C g2, g3, h1.now rs1 g4⟩
  · exact h1.elim
/-- o.f = e, o ours -/
def putFW (f : Str) (w : Wd) : List (Str × Wd) → List (Str × Wd)
  | [] => [(f, w)]
  | (k, x) :: r => if k = f then (k, w) :: r else (k, x) :: putFW f w r
theorem putFW_length (f : Str) (w : Wd) : ∀ fs : List (Str × Wd), (putFW f w fs).length ≤ fs.length + 1
  | [] => by simp [putFW]
  | (k, x) :: r => by
    unfold putFW
    split
    · simp
    · have := putFW_length f w r
      simp; omega
theorem RepWK.putF {ι : Io} {H : Hp} {f : Str} {w : Wd} {v : V} (h : RepW G ι H w v) : ∀ {ts : List (Str × Wd)} {vs : List (Str × V)}, RepWK G ι H ts vs → RepWK G ι H (putFW f w ts) (L2.putF f v vs)
  | _, _, .nil => .cons ⟨rfl, h⟩ .nil
  | (k, t) :: ts, (k', u) :: vs, .cons a b => by
    obtain ⟨e, a⟩ := a
    have e : k = k' := e
    subst e
    unfold putFW L2.putF
    by_cases hk : k = f
    · rw [if_pos hk, if_pos hk]
      exact .cons ⟨by first | rfl | exact hk, h⟩ b
    · rw [if_neg hk, if_neg hk]
      exact .cons ⟨rfl, a⟩ (RepWK.putF h b)
def stFld (f : Str) (o w : Wd) (st : Sto) : R Unit := match o with
  | .ref n => match st[n]? with
    | some (.ins c fs) => if fs.length < 1000 then .ok () (st.set n (.ins c (putFW f w fs))) else .bad
    | _ => .bad
  | _ => .bad
def sFld (f : Str) (mo me : EM) : SM := fun ρ st => (me ρ st).toS ρ fun w st1 => match mo ρ st1 with
  | .ok x st2 => match stFld f x w st2 with
    | .ok _ st3 => .nx ρ st3
    | _ => .bad
  | _ => .bad
theorem sv_fld {f : Str} {me : EM} {p' : Pos} (hK : X.K = G.K) (hc : ClsOk G.K G f) (ho : EV X G (fun _ _ _ _ => False) o mo) (he : EV X G W e me) (hp : plainE e = true) : SV X G W (.Assign [.Attribute o f p'] e pos) (sFld f mo me) := by
  obtain ⟨to, po, qo⟩ := ho
  obtain ⟨t, p, q⟩ := he
  refine ⟨_, ps_fld po p (swaps_plain hp), fun ρ st σ ι H D rs re h => ?_⟩
  unfold sFld at h
  refine q ρ st σ ι H _ rs re (PostS.first re h fun w st1 ι1 v H1 e1 rs1 r1 h1 => ?_)
  refine qo ρ st1 σ ι1 H1 _ rs1 (re.ext e1) ?_
  cases em : mo ρ st1 with
  | bad => rw [em] at h1; exact h1
  | exc x st' => rw [em] at h1; exact h1.elim
  | ok x st2 =>
    rw [em] at h1
    intro ι2 xv H2 e2 rs2 rx
    have h2 := PostS.at_ e2 h1
    dsimp only at h2
    unfold stFld at h2
    split at h2
    · rename_i st3 e3
      split at e3
      · rename_i n
        obtain ⟨a, hn, rfl⟩ := rx
        split at e3
        · rename_i c fs eo
          obtain ⟨b, C, dx, vs, g1, g2, g3, g4⟩ := rs2.ob eo
          rw [hn] at g1; cases g1
          split at e3
          · rename_i hl
            cases e3
            rw [hK]
            refine ⟨a, C, dx, vs, rfl, g2, hc.cls c C g3, hc.no c C g3, by rw [← RepWK.length g4]; exact hl, ?_⟩
            have rs4 := rs2.write (o := .ins c (putFW f w fs)) (ho := .ins C dx (L2.putF f v vs)) hn ⟨C, dx, _, rfl, g3, RepWK.putF (r1.ext e2) g4⟩
            have ex := ext_upd (H := H2) (o := .ins C dx (L2.putF f v vs)) (InI.of hn) (rs2.dis _ _ hn)
            exact h2 ι2 σ _ ex rs4 (((re.ext e1).ext e2).ext ex)
          · cases e3
        · cases e3
      · cases e3
    · exact h2.elim
/-- C(e, ..): the class c, its __init__ by m -/
structure MkE (P : Program) (w : World) (K : PySem.W.Frag) (mg : Str → Option Value) (base : Heap) (G : Gc) (k : Nat) (c : Str) (n : Nat) (dts : List T) (m : MF) : Prop where
  ex : ∃ (f C : Addr) (fd : FuncData) (ps : List Str) (ds : List Value) (dvs : List V), FnOk P w K mg base (L2.CX P w) k f fd ps (spM G n m) ∧ G.cl c = some C ∧ mg c = some (.ref C) ∧ Mk K C f ∧ Binds K fd ps ds ∧ Vals dvs ds ∧ ∀ ι H, Reps G ι H dts dvs
  len : ∀ ws st, m ws st ≠ .bad → ws.length = n
def mkIns (c : Str) (m : MF) (ws : List Wd) (st : Sto) : R Wd := match m (.ref st.length :: ws) (st ++ [.ins c []]) with
  | .ok (.v .non) st' => .ok (.ref st.length) st'
  | _ => .bad
/-- .. frozen at once -/
noncomputable def mkInsF (c : Str) (m : MF) (ws : List Wd) (st : Sto) : R Wd := closeR st (mkIns c m ws st)
theorem mkIns_rep {ι : Io} {H : Hp} {c : Str} {C : Addr} {ws : List Wd} {vs : List V} {st : Sto} {Q : VK} {σ : St} (hlen : ∀ ws st, m ws st ≠ .bad → ws.length = n) (hC : G.cl c = some C) (rs : RelS G ι st H) (r : RepWs G ι H ws vs) (h : Post G W σ ι H (mkIns c m ws st) Q) :
    ∀ x dx, H x = none → H dx = none → dx ≠ x → spM G n m (.ref x :: vs) (upd (upd H dx (.own x)) x (.ins C dx [])) (fun v H2 => v = .non ∧ Q (.ref x) H2) (fun _ _ _ => False) := by
  intro x dx nx ndx ne
  have s1 : ∀ b o, H b = some o → upd H dx (.own x) b = some o := upd_keeps ndx
  have nx1 : upd H dx (.own x) x = none := by rw [upd_ne (Ne.symm ne)]; exact nx
  have e1 : Ext ι H ι (upd H dx (.own x)) := Ext.same s1
  have e2 : Ext ι (upd H dx (.own x)) (ι.add x) (upd (upd H dx (.own x)) x (.ins C dx [])) := ext_app nx1
  have rs2 : RelS G (ι.add x) (st ++ [.ins c []]) (upd (upd H dx (.own x)) x (.ins C dx [])) := (rs.same s1).alloc (o := .ins c []) nx1 ⟨C, dx, [], rfl, hC, .nil⟩
  have px : (ι.add x).pl[st.length]? = some (some x) := by rw [← rs.len]; simp [Io.add]
  have r2 : RepWs G (ι.add x) (upd (upd H dx (.own x)) x (.ins C dx [])) (.ref st.length :: ws) (.ref x :: vs) := .cons ⟨x, px, rfl⟩ (RepWs.ext (e1.tr e2) r)
  unfold mkIns at h
  cases em : m (.ref st.length :: ws) (st ++ [.ins c []]) with
  | bad => rw [em] at h; exact h.elim
  | exc y st' => rw [em] at h; exact h.elim
  | ok w' st' =>
    rw [em] at h
    have hl := hlen (.ref st.length :: ws) (st ++ [.ins c []]) (by rw [em]; intro z; cases z)
    refine ⟨ι.add x, _, _, hl, rs2, r2, ?_⟩
    rw [em]
    intro ι' v H' e' rs' r'
    have fin : ∀ t, w' = .v t → t = .non → v = .non ∧ Q (.ref x) H' := fun t h1 h2 => by
      subst h1 h2
      cases r'
      exact ⟨rfl, h ι' (.ref x) H' ((e1.tr e2).tr e') rs' ⟨x, e'.pl _ _ px, rfl⟩⟩
    cases w' with
    | ref _ => exact h.elim
    | v t => cases t with
      | non => exact fin .non rfl rfl
      | _ => exact h.elim
theorem Post.close {σ : St} {ι : Io} {H : Hp} {st0 : Sto} {r : R Wd} {Q : VK} (r0 : RelS G ι st0 H) (h : Post G W σ ι H (closeR st0 r) Q) : Post G W σ ι H r Q := by
  have z : PostF G ι H (closeR st0 r) Q (fun cls d H' => W cls d σ H') := by
    cases em : closeR st0 r with
    | bad => rw [em] at h; exact h
    | ok w st => rw [em] at h; exact h
    | exc x st => rw [em] at h; exact h
  have z := PostF.close r0 z
  cases em : r with
  | bad => rw [em] at z; exact z
  | ok w st => rw [em] at z; exact z
  | exc x st => rw [em] at z; exact z
theorem ev_make {c : Str} (F : MkE X.prog X.w X.K X.mg X.base G k c n dts m) (hr : Room (k + 1) X.A) (hg : Gl X c) (hdb : (c == ("__debug__" : Str)) = false) (hs : noStar e = true) (hss : es.all noStar = true) (ha : AV X G W (e :: es) ml) :
    EV X G W (.Call (.Name c p) (e :: es) [] pos) (fun ρ st => (ml ρ st).bind fun ws st1 => mkIns c m (ws ++ dts.map Wd.v) st1) := by
  obtain ⟨⟨f, C, fd, ps, ds, dvs, F, hC, hm, M, hb, hd, hr'⟩, hlen⟩ := F
  obtain ⟨t, pa, q⟩ := ha
  refine ⟨_, pe_make M F hr hg hm hb hd passL pa hdb (star_plain hs) (stars_plain hss), fun ρ st σ ι H Q rs re h => ?_⟩
  refine q ρ st σ ι H _ rs re (h.firstL fun ws st1 ι1 vs H1 e1 rs1 r1 h1 => ?_)
  exact mkIns_rep hlen hC rs1 (RepWs.app r1 (hr' ι1 H1).map) h1
theorem ev_make0 {c : Str} (F : MkE X.prog X.w X.K X.mg X.base G k c n dts m) (hr : Room (k + 1) X.A) (hg : Gl X c) (hdb : (c == ("__debug__" : Str)) = false) :
    EV X G W (.Call (.Name c p) [] [] pos) (fun _ st => mkIns c m (dts.map Wd.v) st) := by
  obtain ⟨⟨f, C, fd, ps, ds, dvs, F, hC, hm, M, hb, hd, hr'⟩, hlen⟩ := F
  refine ⟨_, pe_make0 M F hr hg hm hb hd passL hdb, fun ρ st σ ι H Q rs re h => ?_⟩
  exact mkIns_rep hlen hC rs (hr' ι H).map h
/-- .. and frozen -/
theorem ev_makeF {c : Str} (F : MkE X.prog X.w X.K X.mg X.base G k c n dts m) (hr : Room (k + 1) X.A) (hg : Gl X c) (hdb : (c == ("__debug__" : Str)) = false) (hs : noStar e = true) (hss : es.all noStar = true) (ha : AV X G W (e :: es) ml) :
    EV X G W (.Call (.Name c p) (e :: es) [] pos) (fun ρ st => (ml ρ st).bind fun ws st1 => mkInsF c m (ws ++ dts.map Wd.v) st1) := by
  obtain ⟨⟨f, C, fd, ps, ds, dvs, F, hC, hm, M, hb, hd, hr'⟩, hlen⟩ := F
  obtain ⟨t, pa, q⟩ := ha
  refine ⟨_, pe_make M F hr hg hm hb hd passL pa hdb (star_plain hs) (stars_plain hss), fun ρ st σ ι H Q rs re h => ?_⟩
  refine q ρ st σ ι H _ rs re (h.firstL fun ws st1 ι1 vs H1 e1 rs1 r1 h1 => ?_)
  exact mkIns_rep hlen hC rs1 (RepWs.app r1 (hr' ι1 H1).map) (Post.close rs1 h1)
theorem ev_make0F {c : Str} (F : MkE X.prog X.w X.K X.mg X.base G k c n dts m) (hr : Room (k + 1) X.A) (hg : Gl X c) (hdb : (c == ("__debug__" : Str)) = false) :
    EV X G W (.Call (.Name c p) [] [] pos) (fun _ st => mkInsF c m (dts.map Wd.v) st) := by
  obtain ⟨⟨f, C, fd, ps, ds, dvs, F, hC, hm, M, hb, hd, hr'⟩, hlen⟩ := F
  refine ⟨_, pe_make0 M F hr hg hm hb hd passL hdb, fun ρ st σ ι H Q rs re h => ?_⟩
  exact mkIns_rep hlen hC rs (hr' ι H).map (Post.close rs h)
end
end DL

set_option Elab.async false
set_option linter.all false
set_option maxRecDepth 100000
set_option maxHeartbeats 4000000
/-! DLj: built-ins by name, methods of built-in types. -/
namespace DL
open PySem PySem.Spec PyProof.Rows L2
open Classical

/-! ### lists of one kind -/
def intsT : List T → Option (List Int)
  | [] => some []
  | .int i :: r => (intsT r).map (i :: ·)
  | _ :: _ => none
def blsT : List T → Option (List Bool)
  | [] => some []
  | .bl b :: r => (blsT r).map (b :: ·)
  | _ :: _ => none
def strsT : List T → Option (List Str)
  | [] => some []
  | .str x :: r => (strsT r).map (x :: ·)
  | _ :: _ => none
@[simp] theorem intsT_map (ns : List Int) : intsT (ns.map T.int) = some ns := by
  induction ns with
  | nil => rfl
  | cons n r ih => simp [intsT, ih]
@[simp] theorem blsT_map (ns : List Bool) : blsT (ns.map T.bl) = some ns := by
  induction ns with
  | nil => rfl
  | cons n r ih => simp [blsT, ih]
@[simp] theorem strsT_map (ns : List Str) : strsT (ns.map T.str) = some ns := by
  induction ns with
  | nil => rfl
  | cons n r ih => simp [strsT, ih]
section
variable {G : Gc} {ι : Io} {H : Hp}
theorem intsT_rep : ∀ {ts : List T} {ns : List Int} {vs : List V}, intsT ts = some ns → Reps G ι H ts vs → vs = ns.map V.int
  | [], _, _, h, .nil => by cases h; rfl
  | .int i :: r, _, _, h, .cons a b => by
    simp only [intsT, Option.map_eq_some_iff] at h
    obtain ⟨q, h1, rfl⟩ := h
    cases a
    rw [intsT_rep h1 b]; rfl
  | .non :: _, _, _, h, _ => by cases h
  | .bl _ :: _, _, _, h, _ => by cases h
  | .str _ :: _, _, _, h, _ => by cases h
  | .tup _ :: _, _, _, h, _ => by cases h
  | .ktup _ :: _, _, _, h, _ => by cases h
  | .lst _ :: _, _, _, h, _ => by cases h
  | .scr _ :: _, _, _, h, _ => by cases h
  | .dct _ :: _, _, _, h, _ => by cases h
  | .dcT _ :: _, _, _, h, _ => by cases h
  | .gdc _ :: _, _, _, h, _ => by cases h
  | .set _ :: _, _, _, h, _ => by cases h
  | .ins _ _ :: _, _, _, h, _ => by cases h
theorem blsT_rep : ∀ {ts : List T} {ns : List Bool} {vs : List V}, blsT ts = some ns → Reps G ι H ts vs → vs = ns.map V.bl
  | [], _, _, h, .nil => by cases h; rfl
  | .bl i :: r, _, _, h, .cons a b => by
    simp only [blsT, Option.map_eq_some_iff] at h
    obtain ⟨q, h1, rfl⟩ := h
    cases a
    rw [blsT_rep h1 b]; rfl
  | .non :: _, _, _, h, _ => by cases h
  | .int _ :: _, _, _, h, _ => by cases h
  | .str _ :: _, _, _, h, _ => by cases h
  | .tup _ :: _, _, _, h, _ => by cases h
  | .ktup _ :: _, _, _, h, _ => by cases h
  | .lst _ :: _, _, _, h, _ => by cases h
  | .scr _ :: _, _, _, h, _ => by cases h
  | .dct _ :: _, _, _, h, _ => by cases h
  | .dcT _ :: _, _, _, h, _ => by cases h
  | .gdc _ :: _, _, _, h, _ => by cases h
  | .set _ :: _, _, _, h, _ => by cases h
  | .ins _ _ :: _, _, _, h, _ => by cases h
theorem strsT_rep : ∀ {ts : List T} {ns : List Str} {vs : List V}, strsT ts = some ns → Reps G ι H ts vs → vs = ns.map V.str
  | [], _, _, h, .nil => by cases h; rfl
  | .str i :: r, _, _, h, .cons a b => by
    simp only [strsT, Option.map_eq_some_iff] at h
    obtain ⟨q, h1, rfl⟩ := h
    cases a
    rw [strsT_rep h1 b]; rfl
  | .non :: _, _, _, h, _ => by cases h
  | .bl _ :: _, _, _, h, _ => by cases h
  | .int _ :: _, _, _, h, _ => by cases h
  | .tup _ :: _, _, _, h, _ => by cases h
  | .ktup _ :: _, _, _, h, _ => by cases h
  | .lst _ :: _, _, _, h, _ => by cases h
  | .scr _ :: _, _, _, h, _ => by cases h
  | .dct _ :: _, _, _, h, _ => by cases h
  | .dcT _ :: _, _, _, h, _ => by cases h
  | .gdc _ :: _, _, _, h, _ => by cases h
  | .set _ :: _, _, _, h, _ => by cases h
  | .ins _ _ :: _, _, _, h, _ => by cases h
end
/-- the frozen items of a list, ours or frozen -/
def tsL (st : Sto) (w : Wd) : Option (List T) := match itemsL st w with
  | some ws => allT ws
  | none => none
@[simp] theorem tsL_v (st : Sto) (ts : List T) : tsL st (.v (.lst ts)) = some ts := by simp [tsL]
/-- .. of a list or a tuple -/
def tsA (st : Sto) (w : Wd) : Option (List T) := match items st w with
  | some ws => allT ws
  | none => none
@[simp] theorem tsA_lst (st : Sto) (ts : List T) : tsA st (.v (.lst ts)) = some ts := by simp [tsA]
@[simp] theorem tsA_tup (st : Sto) (ts : List T) : tsA st (.v (.tup ts)) = some ts := by simp [tsA]
section
variable {G : Gc} {ι : Io} {H : Hp} {st : Sto}
theorem tsL_rep (rs : RelS G ι st H) {w : Wd} {v : V} {ts : List T} (r : RepW G ι H w v) (h : tsL st w = some ts) : ∃ a vs, v = .ref a ∧ H a = some (.lst vs) ∧ Reps G ι H ts vs ∧ ts.length ≤ sizeLine := by
  unfold tsL at h
  split at h
  · rename_i ws e
    obtain ⟨a, vs, e1, h1, h2, h3⟩ := itemsL_rep rs r e
    rw [allT_some h] at h2 h3
    exact ⟨a, vs, e1, h1, RepWs.of_map h2, by simpa using h3⟩
  · cases h
theorem tsA_rep (rs : RelS G ι st H) {w : Wd} {v : V} {ts : List T} (r : RepW G ι H w v) (h : tsA st w = some ts) : ∃ a vs, v = .ref a ∧ (SqL G.K H a vs ∨ SqT G.K H a vs) ∧ Reps G ι H ts vs ∧ ts.length ≤ sizeLine := by
  unfold tsA at h
  split at h
  · rename_i ws e
    obtain ⟨a, vs, e1, h1, h2, h3⟩ := items_rep rs r e
    rw [allT_some h] at h2 h3
    exact ⟨a, vs, e1, h1, RepWs.of_map h2, by simpa using h3⟩
  · cases h
end

/-! ### meanings -/
def fLen (ws : List Wd) (st : Sto) : R Wd := match ws with
  | [.v (.str z)] => if z.length ≤ LINE then .ok (.v (.int z.length)) st else .bad
  | [.v (.scr ns)] => .ok (.v (.int ns.length)) st
  | [.v (.dct kvs)] => .ok (.v (.int kvs.length)) st
  | [.ref n] => match st[n]? with
    | some (.lst ws) => .ok (.v (.int ws.length)) st
    | some (.dct kvs) => .ok (.v (.int kvs.length)) st
    | _ => .bad
  | [w] => match items st w with
    | some ws => .ok (.v (.int ws.length)) st
    | none => .bad
  | _ => .bad
def fList (ws : List Wd) (st : Sto) : R Wd := match ws with
  | [.v (.scr ns)] => .ok (.v (.lst (ns.map T.int))) st
  | [w] => match tsA st w with
    | some ts => .ok (.v (.lst ts)) st
    | none => .bad
  | _ => .bad
def fListM (ws : List Wd) (st : Sto) : R Wd := match ws with
  | [w] => match items st w with
    | some ws => .ok (.ref st.length) (st ++ [.lst ws])
    | none => .bad
  | _ => .bad
def fTuple (ws : List Wd) (st : Sto) : R Wd := match ws with
  | [.v (.tup ts)] => .ok (.v (.tup ts)) st
  | [w] => match tsL st w with
    | some ts => .ok (.v (.tup ts)) st
    | none => .bad
  | _ => .bad
def fAll (ws : List Wd) (st : Sto) : R Wd := match ws with
  | [w] => match tsL st w with
    | some ts => match blsT ts with
      | some bs => .ok (.v (.bl (bs.all id))) st
      | none => .bad
    | none => .bad
  | _ => .bad
def fAny (ws : List Wd) (st : Sto) : R Wd := match ws with
  | [w] => match tsL st w with
    | some ts => match blsT ts with
      | some bs => .ok (.v (.bl (bs.any id))) st
      | none => .bad
    | none => .bad
  | _ => .bad
def fSum (ws : List Wd) (st : Sto) : R Wd := match ws with
  | [w] => match tsL st w with
    | some ts => match intsT ts with
      | some ns => .ok (.v (.int ns.sum)) st
      | none => .bad
    | none => .bad
  | _ => .bad
def fInt (ws : List Wd) (st : Sto) : R Wd := match ws with
  | [.v (.int i)] => .ok (.v (.int i)) st
  | [.v (.bl b)] => .ok (.v (.int (if b then 1 else 0))) st
  | _ => .bad
def fStr (ws : List Wd) (st : Sto) : R Wd := match ws with
  | [.v (.int i)] => if i.natAbs.log2 < 1920 then .ok (.v (.str (toString i))) st else .bad
  | _ => .bad
def fAbs (ws : List Wd) (st : Sto) : R Wd := match ws with
  | [.v (.int i)] => .ok (.v (.int (if i < 0 then -i else i))) st
  | _ => .bad
def fMax2 (ws : List Wd) (st : Sto) : R Wd := match ws with
  | [.v (.int i), .v (.int j)] => .ok (.v (.int (if j > i then j else i))) st
  | _ => .bad
def fMin2 (ws : List Wd) (st : Sto) : R Wd := match ws with
  | [.v (.int i), .v (.int j)] => .ok (.v (.int (if j < i then j else i))) st
  | _ => .bad
def sortI (ns : List Int) : List Int := ns.mergeSort (fun a b => decide (a ≤ b))
def fSorted (ws : List Wd) (st : Sto) : R Wd := match ws with
  | [w] => match tsL st w with
    | some ts => match intsT ts with
      | some ns => .ok (.v (.lst ((sortI ns).map T.int))) st
      | none => .bad
    | none => .bad
  | _ => .bad
theorem sortI_perm (ns : List Int) : (sortI ns).Perm ns := List.mergeSort_perm _ _
theorem sortI_le (ns : List Int) : (sortI ns).Pairwise (· ≤ ·) := by
  have z := List.pairwise_mergeSort (le := fun a b : Int => decide (a ≤ b)) (fun a b c h1 h2 => by simp at *; omega) (fun a b => by simp; omega) ns
  exact z.imp fun h => by simpa using h
theorem sortI_uniq {ns ms : List Int} (h1 : ms.Perm ns) (h2 : ms.Pairwise (· ≤ ·)) : ms = sortI ns :=
  List.Perm.eq_of_pairwise (fun a b _ _ x y => Int.le_antisymm x y) h2 (sortI_le ns) (h1.trans (sortI_perm ns).symm)
section
variable {X : Cx} {G : Gc}
theorem cd_len : CallD G (fun xs H Q => (∃ x n, xs = [x] ∧ LenV G.K x H n ∧ Q (.int n) H) ∨ ∃ a kvs, xs = [V.ref a] ∧ H a = some (.dK kvs) ∧ Q (.int kvs.length) H) fLen := by
  intro W σ ι st H vs ws Q rs r h
  unfold fLen at h
  split at h
  · rename_i z
    split at h
    · rename_i hz
      cases r with
      | cons r r' =>
        cases r
        cases r'
        exact .inl ⟨_, _, rfl, ⟨hz, rfl⟩, h.now rs (.int _)⟩
    · exact h.elim
  · rename_i ns
    cases r with
    | cons r r' =>
      cases r' 
      cases r with
      | scr h1 h2 =>
        exact .inl ⟨_, ns.length, rfl, .inl ⟨_, h1.sq, by simp⟩, h.now rs (.int _)⟩
  · rename_i kvs
    cases r with
    | cons r r' =>
      cases r'
      have r : Rep G ι H (.dct kvs) _ := r
      cases r with
      | dct h1 h2 h3 h4 =>
        have e := Paired.length h4.paired
        rw [e] at h
        exact .inr ⟨_, _, rfl, h1, h.now rs (.int _)⟩
  · rename_i n
    cases r with
    | cons r r' =>
      cases r'
      obtain ⟨a, hn, rfl⟩ := r
      split at h
      · rename_i ws' e
        obtain ⟨b, us, h1, h2, _, h3⟩ := rs.ob e
        rw [hn] at h1; cases h1
        exact .inl ⟨_, ws'.length, rfl, .inl ⟨us, SqL.of h2, h3.length⟩, h.now rs (.int _)⟩
      · rename_i kvs e
        obtain ⟨b, us, h1, h2, _, h3⟩ := rs.ob e
        rw [hn] at h1; cases h1
        rw [RepWK.length h3] at h
        exact .inr ⟨_, _, rfl, h2, h.now rs (.int _)⟩
      · exact h.elim
  · rename_i w
    cases r with
    | cons r r' =>
      cases r'
      split at h
      · rename_i ws' e
        obtain ⟨a, us, rfl, h1, h2, _⟩ := items_rep rs r e
        refine .inl ⟨_, ws'.length, rfl, ?_, h.now rs (.int _)⟩
        rcases h1 with h1 | h1
        · exact .inl ⟨us, h1, h2.length⟩
        · exact .inr ⟨us, h1, h2.length⟩
      · exact h.elim
  · exact h.elim
theorem cr_len : CallR X (.builtin "len") (fun xs H Q => (∃ x n, xs = [x] ∧ LenV X.K x H n ∧ Q (.int n) H) ∨ ∃ a kvs, xs = [V.ref a] ∧ H a = some (.dK kvs) ∧ Q (.int kvs.length) H) := CallR.or call_len call_lenD
theorem one_of {ι : Io} {H : Hp} {w : Wd} {vs : List V} (r : RepWs G ι H [w] vs) : ∃ v, vs = [v] ∧ RepW G ι H w v := by
  cases r with
  | cons r r' => cases r'; exact ⟨_, rfl, r⟩
theorem two_of {ι : Io} {H : Hp} {w u : Wd} {vs : List V} (r : RepWs G ι H [w, u] vs) : ∃ v z, vs = [v, z] ∧ RepW G ι H w v ∧ RepW G ι H u z := by
  cases r with
  | cons r r' =>
    cases r' with
    | cons r2 r3 => cases r3; exact ⟨_, _, rfl, r, r2⟩
theorem cd_list : CallD G (fun xs H Q => ∃ p ys, xs = [.ref p] ∧ (SqL G.K H p ys ∨ SqT G.K H p ys) ∧ ∀ l, H l = none → Q (.ref l) (upd H l (.lst ys))) fList := by
  intro W σ ι st H vs ws Q rs r h
  unfold fList at h
  split at h
  · rename_i ns
    obtain ⟨v, rfl, q⟩ := one_of r
    cases q with
    | scr h1 h2 =>
      exact ⟨_, _, rfl, .inl h1.sq, fun l n => h.lst rs (ints_reps ns) (by rw [List.length_map, sizeLine_eq]; omega) n⟩
  · rename_i w
    obtain ⟨v, rfl, q⟩ := one_of r
    split at h
    · rename_i ts e
      obtain ⟨a, us, rfl, h1, h2, h3⟩ := tsA_rep rs q e
      exact ⟨a, us, rfl, h1, fun l n => h.lst rs h2 h3 n⟩
    · exact h.elim
  · exact h.elim
theorem cd_listM : CallD G (fun xs H Q => ∃ p ys, xs = [.ref p] ∧ (SqL G.K H p ys ∨ SqT G.K H p ys) ∧ ∀ l, H l = none → Q (.ref l) (upd H l (.lst ys))) fListM := by
  intro W σ ι st H vs ws Q rs r h
  unfold fListM at h
  split at h
  · rename_i w
    obtain ⟨v, rfl, q⟩ := one_of r
    split at h
    · rename_i ts e
      obtain ⟨a, us, rfl, h1, h2, h3⟩ := items_rep rs q e
      exact ⟨a, us, rfl, h1, fun l n => h.lstM rs h2 h3 n⟩
    · exact h.elim
  · exact h.elim
theorem cd_tuple : CallD G (fun xs H Q => ∃ p ys, xs = [.ref p] ∧ ((SqL G.K H p ys ∧ ∀ l, H l = none → Q (.ref l) (upd H l (.tup ys))) ∨ (SqT G.K H p ys ∧ Q (.ref p) H))) fTuple := by
  intro W σ ι st H vs ws Q rs r h
  unfold fTuple at h
  split at h
  · rename_i ts
    obtain ⟨v, rfl, q⟩ := one_of r
    obtain ⟨a, us, rfl, h1, h2, _⟩ := Rep.tupR q
    exact ⟨a, us, rfl, .inr ⟨SqT.of h1, h.now rs q⟩⟩
  · rename_i w
    obtain ⟨v, rfl, q⟩ := one_of r
    split at h
    · rename_i ts e
      obtain ⟨a, us, rfl, h1, h2, h3⟩ := tsL_rep rs q e
      exact ⟨a, us, rfl, .inl ⟨SqL.of h1, fun l n => h.tup rs h2 h3 n⟩⟩
    · exact h.elim
  · exact h.elim
theorem cd_all : CallD G (rAll G.K) fAll := by
  intro W σ ι st H vs ws Q rs r h
  unfold fAll at h
  split at h
  · rename_i w
    obtain ⟨v, rfl, q⟩ := one_of r
    split at h
    · rename_i ts e
      split at h
      · rename_i bs e2
        obtain ⟨a, us, rfl, h1, h2, h3⟩ := tsL_rep rs q e
        rw [blsT_rep e2 h2] at h1
        exact ⟨a, bs, rfl, SqL.of h1, h.now rs (.bl _)⟩
      · exact h.elim
    · exact h.elim
  · exact h.elim
theorem cd_any : CallD G (rAny G.K) fAny := by
  intro W σ ι st H vs ws Q rs r h
  unfold fAny at h
  split at h
  · rename_i w
    obtain ⟨v, rfl, q⟩ := one_of r
    split at h
    · rename_i ts e
      split at h
      · rename_i bs e2
        obtain ⟨a, us, rfl, h1, h2, h3⟩ := tsL_rep rs q e
        rw [blsT_rep e2 h2] at h1
        exact ⟨a, bs, rfl, SqL.of h1, h.now rs (.bl _)⟩
      · exact h.elim
    · exact h.elim
  · exact h.elim
theorem cd_sum : CallD G (rSum G.K) fSum := by
  intro W σ ι st H vs ws Q rs r h
  unfold fSum at h
  split at h
  · rename_i w
    obtain ⟨v, rfl, q⟩ := one_of r
    split at h
    · rename_i ts e
      split at h
      · rename_i bs e2
        obtain ⟨a, us, rfl, h1, h2, h3⟩ := tsL_rep rs q e
        rw [intsT_rep e2 h2] at h1
        exact ⟨a, bs, rfl, SqL.of h1, h.now rs (.int _)⟩
      · exact h.elim
    · exact h.elim
  · exact h.elim
theorem cd_int : CallD G (fun xs H Q => (∃ i, xs = [.int i] ∧ Q (.int i) H) ∨ ∃ k, xs = [.bl k] ∧ Q (.int (if k then 1 else 0)) H) fInt := by
  intro W σ ι st H vs ws Q rs r h
  unfold fInt at h
  split at h
  · obtain ⟨v, rfl, q⟩ := one_of r
    cases q
    exact .inl ⟨_, rfl, h.now rs (.int _)⟩
  · obtain ⟨v, rfl, q⟩ := one_of r
    cases q
    exact .inr ⟨_, rfl, h.now rs (.int _)⟩
  · exact h.elim
theorem cd_str : CallD G (fun xs H Q => ∃ i, xs = [.int i] ∧ i.natAbs.log2 < 1920 ∧ Q (.str (toString i)) H) fStr := by
  intro W σ ι st H vs ws Q rs r h
  unfold fStr at h
  split at h
  · split at h
    · rename_i hl
      obtain ⟨v, rfl, q⟩ := one_of r
      cases q
      exact ⟨_, rfl, hl, h.now rs (.str _)⟩
    · exact h.elim
  · exact h.elim
theorem cd_abs : CallD G (fun xs H Q => ∃ i, xs = [.int i] ∧ Q (.int (if i < 0 then -i else i)) H) fAbs := by
  intro W σ ι st H vs ws Q rs r h
  unfold fAbs at h
  split at h
  · obtain ⟨v, rfl, q⟩ := one_of r
    cases q
    exact ⟨_, rfl, h.now rs (.int _)⟩
  · exact h.elim
theorem cd_max2 : CallD G (fun xs H Q => ∃ i j, xs = [.int i, .int j] ∧ Q (.int (if j > i then j else i)) H) fMax2 := by
  intro W σ ι st H vs ws Q rs r h
  unfold fMax2 at h
  split at h
  · obtain ⟨v, z, rfl, q, q2⟩ := two_of r
    cases q
    cases q2
    exact ⟨_, _, rfl, h.now rs (.int _)⟩
  · exact h.elim
theorem cd_min2 : CallD G (fun xs H Q => ∃ i j, xs = [.int i, .int j] ∧ Q (.int (if j < i then j else i)) H) fMin2 := by
  intro W σ ι st H vs ws Q rs r h
  unfold fMin2 at h
  split at h
  · obtain ⟨v, z, rfl, q, q2⟩ := two_of r
    cases q
    cases q2
    exact ⟨_, _, rfl, h.now rs (.int _)⟩
  · exact h.elim
theorem cd_sorted : CallD G (rSortedI G.K) fSorted := by
  intro W σ ι st H vs ws Q rs r h
  unfold fSorted at h
  split at h
  · rename_i w
    obtain ⟨v, rfl, q⟩ := one_of r
    split at h
    · rename_i ts e
      split at h
      · rename_i ns e2
        obtain ⟨a, us, rfl, h1, h2, h3⟩ := tsL_rep rs q e
        have hl := h2.length
        rw [intsT_rep e2 h2] at h1 hl
        refine ⟨a, ns, rfl, SqL.of h1, fun ns' p hp hs n => ?_⟩
        rw [sortI_uniq hp hs]
        refine h.lst rs (ints_reps _) ?_ n
        rw [List.length_map, (sortI_perm ns).length_eq]
        rw [List.length_map] at hl
        omega
      · exact h.elim
    · exact h.elim
  · exact h.elim
end

end DL

set_option Elab.async false
set_option linter.all false
set_option maxRecDepth 100000
set_option maxHeartbeats 4000000
/-! DLo0: set(xs), xs a list of ints, as the set that the library sorts. -/
namespace DL
open PySem PySem.Spec PyProof.Rows L2
/-! ### set(xs), xs a list of ints -/
abbrev eSet (w : World) : Obj := { cls := .type "set", dict := none, data := .set #[] 0 (.fresh 0 0 (!w.params.followText "set-order")) }
section
variable {P : Program} {w : World} {A : Around} {E : Value → Shared → Prop} {s : Shared}
abbrev HasSet (w : World) (s : Shared) (ns : List Int) (c : Nat) (h' : Heap) : Prop := SetR w h' s.heap.objs.size (fun j => decide (j ∈ ns)) c ∧ c ≤ ns.length ∧ ∀ b o, s.heap.get? b = some o → h'.get? b = some o
theorem set_loop_list {items : Array Value} {l : Addr} {ns : List Int} {hp : Heap} {tk : Nat} (hd : A.handled = none) (hi : IntsAre items.toList ns) (few : ns.length + 1 < scanBound) (ls : l < s.heap.objs.size) (e : hp = s.heap.push (eSet w)) (hl : hp.IsList l items)
    {R : Result → Shared → Prop} (k : ∀ h2 tk2 c, HasSet w s ns c h2 → R (.ok (.ret .none)) { s with heap := h2, toks := tk2 }) :
    codeAny (model P w) A (.builtin "set.update.loop" ⟨[.ref s.heap.objs.size, .ref hp.objs.size], []⟩) R { s with heap := hp.push { cls := .type "list_iterator", data := .fields #[.ref l, .int 0 0] }, toks := tk } := by
  have zs : hp.objs.size = s.heap.objs.size + 1 := by rw [e]; exact Heap.size_push ..
  have len : items.size = ns.length := by rw [← Array.length_toList]; exact IntsAre.length hi
  have own : hp.get? s.heap.objs.size = some (eSet w) := by rw [e]; exact Heap.get?_push_size _ rfl
  have apart : s.heap.objs.size ∉ [hp.objs.size, l] := fun z => by
    rcases List.mem_cons.mp z with z | z
    · rw [zs] at z; exact Nat.lt_irrefl _ (Nat.lt_of_lt_of_eq (Nat.lt_succ_self _) z.symm)
    · exact Nat.ne_of_gt ls (List.mem_singleton.mp z)
  have val : ∀ (i : Nat) (v : Value), items[i]? = some v → ∃ k t, ns[i]? = some k ∧ v = .int k t := fun i v q => by
    have b := (Array.getElem?_eq_some_iff.mp q).1
    rw [len] at b
    obtain ⟨t, q2⟩ := PyProof.Rows.IntsAre.int_at hi i v (by simpa using q)
    exact ⟨_, t, List.getElem?_eq_getElem b, by rw [q2]; simp [List.getElem?_eq_getElem b]⟩
  refine set_update_ints ((Walks.list (A := A.in1) (by simpa using hd) _ l (fun z => by rw [zs] at z; exact Nat.ne_of_lt (Nat.lt_succ_of_lt ls) z) items).toS) _ apart ns len few val _ 0 _ rfl (Nat.zero_le _) ⟨⟨_, Heap.get?_push_size _ rfl, rfl, rfl⟩, hl.push _⟩ ⟨0, Nat.le_refl 0, setR_new_at (Heap.get?_push_of_some _ own)⟩ fun t c m le R1 => ?_
  cases t with
  | mk h2 g2 d2 tk2 o2 =>
    have z1 : g2 = s.gens := m.gens
    have z2 : d2 = s.drawn := m.drawn
    have z3 : o2 = s.os := m.os
    subst z1 z2 z3
    refine k h2 tk2 c ⟨R1, by omega, fun b o q => m.heap b o (fun z => ?_) (Heap.get?_push_of_some _ (by rw [e]; exact Heap.get?_push_of_some _ q))⟩
    have lt : b < s.heap.objs.size := Heap.lt_size q
    rcases List.mem_cons.mp z with z | z
    · exact Nat.ne_of_lt lt z
    · have z2 := List.mem_singleton.mp z
      rw [zs] at z2
      exact Nat.ne_of_lt (Nat.lt_succ_of_lt lt) z2
theorem mkset_ints {l : Addr} {items : Array Value} (ns : List Int) {Q : Value → Shared → Prop} (hd : A.handled = none) (hl : s.heap.IsList l items) (hi : IntsAre items.toList ns) (few : ns.length + 1 < scanBound)
    (k : ∀ h2 tk2 c, HasSet w s ns c h2 → Q (.ref s.heap.objs.size) { s with heap := h2, toks := tk2 }) : wpAny (model P w) A (call (.type "set") [.ref l]) Q E s := by
  have C := F.called_set
  obtain ⟨c0, tl, cm⟩ := C.mro
  have c1 := C.made
  have c2 := C.sub
  have c3 := C.notType
  have c4 := C.canCreate
  have c5 := F.typeCall_set_1 (.ref l)
  refine wpAny_call (codeAny_of_tree (show wpAny _ _ (callAny (.type "set") _) _ _ _ from wpAny_pure ⟨Code.quiet_builtin _ (by decide +kernel), codeAny_builtin F.entry_type_call ?_⟩))
  rw [Around.under_plain (weight_type_call_type "set" [.ref l] []) rfl]
  repeat (any_goals (first | assumption | wp_step))
  refine codeAny_mono (code_set_led1 (.ref l) (E := E) (Q₁ := fun o t => o = .ref s.heap.objs.size ∧ t = { s with heap := s.heap.push (eSet w) }) ⟨rfl, rfl⟩) fun r t hr => ?_
  cases r with
  | error e => exact hr
  | ok fl => cases fl with
    | ret obj =>
      obtain ⟨rfl, rfl⟩ := hr
      have own : (s.heap.push (eSet w)).get? s.heap.objs.size = some (eSet w) := Heap.get?_push_size _ rfl
      have ty : Shared.TypeIs { s with heap := s.heap.push (eSet w) } (.ref s.heap.objs.size) "set" := ⟨_, own, rfl⟩
      have c6 := C.init.lookup
      have c7 := C.init.bind (.ref s.heap.objs.size)
      repeat (any_goals (first | assumption | wp_step))
      refine codeAny_mono (codeAny_call_builtin (R := wants (fun r t => r = .none ∧ ∃ h2 tk2 c, t = { s with heap := h2, toks := tk2 } ∧ HasSet w s ns c h2) E) C.init.plain F.entry_set_init (check_set_init_1 ty ?_)) fun r t hr => ?_
      · have ls : l < s.heap.objs.size := by obtain ⟨_, e, _⟩ := hl; exact Heap.lt_size e
        have hl1 : (s.heap.push (eSet w)).IsList l items := hl.push _
        obtain ⟨⟨oc, od, dt, sl⟩, ol, hc, nl, hdd⟩ := hl
        simp only at hc hdd
        subst hc hdd
        have ol1 : (s.heap.push (eSet w)).get? l = some { cls := .type "list", dict := od, data := .seq items nl, slots := sl } := Heap.get?_push_of_some _ ol
        have d1 := F.sub_list_set
        have d2 := F.sub_list_frozenset
        have d3 : (Value.type "list" == Value.type "dict") = false := by decide
        unfold Builtin.«set.__init__» noKeywords Builtin.Frozenset.updateFrom
        generalize hPI : pyIter = PI
        wp_walk
        subst hPI
        refine wpAny_pyIter_list hl1 (wpAny_bind (wpAny_runValue ?_))
        refine set_loop_list (s := s) (w := w) (by simp [hd]) hi few ls rfl hl1 fun h2 tk2 c hs => ?_
        exact wpAny_pure (wpAny_pure ⟨rfl, h2, tk2, c, rfl, hs⟩)
      · cases r with
        | error e => exact hr
        | ok fl => cases fl with
          | ret r =>
            obtain ⟨rfl, h2, tk2, c, rfl, hs⟩ := hr
            repeat (any_goals (first | assumption | wp_step))
            exact k _ _ _ hs
          | _ => exact hr.elim
    | _ => exact hr.elim
end
end DL

set_option Elab.async false
set_option linter.all false
set_option maxRecDepth 100000
set_option maxHeartbeats 4000000
/-! DLo: built-ins over data: sorted, max, min, default=; isinstance; sorted(set(..)). -/
namespace DL
open PySem PySem.Spec PyProof.Rows L2
open Classical

def pyT (t : T) : PyData := (T.py t).getD .none
@[simp] theorem pyT_non : pyT .non = .none := rfl
@[simp] theorem pyT_bl (b : Bool) : pyT (.bl b) = .bool b := rfl
@[simp] theorem pyT_int (i : Int) : pyT (.int i) = .int i := rfl
@[simp] theorem pyT_str (x : Str) : pyT (.str x) = .str x := rfl
/-- items that may be ordered -/
structure DataOk (ts : List T) : Prop where
  py : ∀ t ∈ ts, (T.py t).isSome = true
  al : PySem.W.AlikeAll (ts.map pyT)
  dp : ∀ t ∈ ts, (pyT t).depth < 64
theorem T.pys_map : ∀ {ts : List T}, (∀ t ∈ ts, (T.py t).isSome = true) → T.pys ts = some (ts.map pyT)
  | [], _ => rfl
  | t :: ts, h => by
    have h1 := h t (List.mem_cons_self ..)
    have h2 := T.pys_map (ts := ts) fun u hu => h u (List.mem_cons_of_mem _ hu)
    obtain ⟨d, e⟩ := Option.isSome_iff_exists.mp h1
    unfold T.pys
    rw [e, h2]
    show some (d :: ts.map pyT) = _
    rw [List.map_cons]
    have : pyT t = d := by unfold pyT; rw [e]; rfl
    rw [this]
theorem depthAll_lt : ∀ {ds : List PyData}, (∀ d ∈ ds, d.depth < 64) → PyData.depthAll ds < 64
  | [], _ => by simp [PyData.depthAll]
  | d :: ds, h => by
    have h1 := h d (List.mem_cons_self ..)
    have h2 := depthAll_lt (ds := ds) fun u hu => h u (List.mem_cons_of_mem _ hu)
    simp only [PyData.depthAll]
    omega

/-! ### sorted of data -/
theorem DataOk.pys {ts : List T} (h : DataOk ts) : T.pys ts = some (ts.map pyT) := T.pys_map h.py
noncomputable def sortT (ts : List T) : List T := ts.mergeSort (PySem.W.dataLe false pyT)
theorem sortT_len (ts : List T) : (sortT ts).length = ts.length := List.length_mergeSort ts
structure SortOk (ts : List T) : Prop where
  d : DataOk ts
  s : PySem.W.Sortable (ts.map pyT)
noncomputable def fSortD (ws : List Wd) (st : Sto) : R Wd := match ws with
  | [w] => match tsL st w with
    | some ts => match intsT ts with
      | some ns => .ok (.v (.lst ((sortI ns).map T.int))) st
      | none => if SortOk ts then .ok (.v (.lst (sortT ts))) st else .bad
    | none => .bad
  | _ => .bad
def rSortD (G : Gc) : List V → Hp → VK → Prop := fun xs H Q => ∃ ι a vs ts, xs = [.ref a] ∧ SqL G.K H a vs ∧ Reps G ι H ts vs ∧ ts.length ≤ sizeLine ∧ SortOk ts ∧ ∀ p ys, H p = none → Reps G ι H (sortT ts) ys → Q (.ref p) (upd H p (.lst ys))
theorem each_rep {G : Gc} {ι : Io} {H : Hp} : ∀ {ts : List T} {vs : List V} {us : List Value}, Reps G ι H ts vs → Vals vs us → PySem.W.EachIs (fun u t => ∃ x, RelV x u ∧ Rep G ι H t x) us ts
  | _, _, _, .nil, .nil => .nil
  | _, _, _, .cons a b, .cons c d => .cons ⟨_, c, a⟩ (each_rep b d)
theorem rep_each {G : Gc} {ι : Io} {H : Hp} : ∀ {ts : List T} {us : List Value}, PySem.W.EachIs (fun u t => ∃ x, RelV x u ∧ Rep G ι H t x) us ts → ∃ vs, Reps G ι H ts vs ∧ Vals vs us
  | _, _, .nil => ⟨[], .nil, .nil⟩
  | _, _, .cons ⟨x, h1, h2⟩ r => let ⟨vs, a, b⟩ := rep_each r; ⟨x :: vs, .cons h2 a, .cons h1 b⟩
theorem each_reads {G : Gc} {ι : Io} {X : Cx} {pins : List (Addr × Obj)} {σ : St} {H : Hp} {s : Shared} (hK : X.K = G.K) (I : Inv X pins σ H s) : ∀ {ts : List T} {vs : List V} {us : List Value}, (∀ t ∈ ts, (T.py t).isSome = true) → Reps G ι H ts vs → Vals vs us → PySem.W.EachIs (fun u t => ∃ as, Reads s.heap u (pyT t) as) us ts
  | _, _, _, _, .nil, .nil => .nil
  | t :: ts, _, _, h, .cons a b, .cons c d => by
    obtain ⟨z, e⟩ := Option.isSome_iff_exists.mp (h t (List.mem_cons_self ..))
    have e2 : pyT t = z := by unfold pyT; rw [e]; rfl
    refine .cons ?_ (each_reads hK I (fun u hu => h u (List.mem_cons_of_mem _ hu)) b d)
    rw [e2]
    have dp := Rep.dp a e
    rw [← hK] at dp
    exact Dp.reads I _ _ _ dp c
theorem cr_sortD {X : Cx} {G : Gc} {k : Nat} (hK : X.K = G.K) (hr : Room k X.A) : CallR X (.builtin "sorted") (rSortD G) := by
  intro pins s σ H xs us Q I r h
  obtain ⟨ι, a, vs, ts, rfl, hs, hR, hz, ho, q⟩ := h
  rw [Vals.ref1 r]
  rw [← hK] at hs
  obtain ⟨its, rv, hl, _⟩ := I.list hs
  refine PySem.W.sorted_data (enc := pyT) hl.isList (each_rep hR rv) (each_reads hK I ho.d.py hR rv) (fun d hd d' hd' => ho.d.al.1 d hd d' hd') ho.s hz (fun t ht => ?_) fun out ol oe => ?_
  · have := ho.d.dp t ht
    have := hr.un
    omega
  · obtain ⟨ys, h1, h2⟩ := rep_each oe
    obtain ⟨ep, he⟩ := PyProof.Rows.sortedAll_at s.heap its out.toArray
    have hlen : ys.length ≤ sizeLine := by rw [← h1.length, List.length_mergeSort]; exact hz
    exact ⟨.ref _, upd H (s.heap.objs.size + 1) (.lst ys), I.laid (t' := s.toks) (fun _ _ => PyProof.Rows.sortedAll_old) (Nat.le_succ _) ⟨hlen, _, ep, by simpa using h2, he⟩, rfl, q _ _ (I.hok.fresh (Nat.le_succ _)) h1⟩
theorem CallR.or {X : Cx} {f : Value} {r r' : List V → Hp → VK → Prop} (h : CallR X f r) (h' : CallR X f r') : CallR X f (fun xs H Q => r xs H Q ∨ r' xs H Q) := fun pins s σ H xs us Q I rv z => by
  rcases z with z | z
  · exact h pins s σ H xs us Q I rv z
  · exact h' pins s σ H xs us Q I rv z
theorem cd_sortD {G : Gc} : CallD G (fun xs H Q => rSortedI G.K xs H Q ∨ rSortD G xs H Q) fSortD := by
  intro W σ ι st H vs ws Q rs r h
  unfold fSortD at h
  split at h
  · rename_i w
    obtain ⟨v, rfl, q⟩ := one_of r
    split at h
    · rename_i ts e
      obtain ⟨a, us, rfl, h1, h2, h3⟩ := tsL_rep rs q e
      split at h
      · rename_i ns e2
        have hl := h2.length
        rw [intsT_rep e2 h2] at h1 hl
        refine .inl ⟨a, ns, rfl, SqL.of h1, fun ns' p hp hs n => ?_⟩
        rw [sortI_uniq hp hs]
        refine h.lst rs (ints_reps _) ?_ n
        rw [List.length_map, (sortI_perm ns).length_eq]
        rw [List.length_map] at hl
        omega
      · split at h
        · rename_i ho
          exact .inr ⟨ι, a, us, ts, rfl, SqL.of h1, h2, h3, ho, fun p ys n r2 => h.lst rs r2 (by rw [sortT_len]; exact h3) n⟩
        · exact h.elim
    · exact h.elim
  · exact h.elim

/-! ### max, min -/
def ltT (a b : T) : Bool := PySem.W.dataLt (pyT a) (pyT b)
/-- the first of the greatest, of the least -/
def maxT (x : T) (xs : List T) : T := xs.foldl (fun a y => if ltT a y = true then y else a) x
def minT (x : T) (xs : List T) : T := xs.foldl (fun a y => if ltT y a = true then y else a) x
noncomputable def fBest (b : Bool) (ws : List Wd) (st : Sto) : R Wd := match ws with
  | [w] => match tsL st w with
    | some (x :: xs) => if DataOk (x :: xs) then .ok (.v (if b then maxT x xs else minT x xs)) st else .bad
    | _ => .bad
  | _ => .bad
noncomputable def fBestD (b : Bool) (ws : List Wd) (st : Sto) : R Wd := match ws with
  | [w, d] => match tsL st w with
    | some [] => .ok d st
    | some (x :: xs) => if DataOk (x :: xs) then .ok (.v (if b then maxT x xs else minT x xs)) st else .bad
    | none => .bad
  | _ => .bad

theorem getD_py (ts : List T) (i : Nat) : (ts.map pyT).getD i .none = pyT (ts.getD i .non) := by
  simp only [List.getD_eq_getElem?_getD, List.getElem?_map]
  cases ts[i]? <;> rfl
theorem max_idx (x : T) (xs : List T) : (x :: xs).getD (PySem.argBest (fun i j => PySem.W.dataLt (((x :: xs).map pyT).getD j .none) (((x :: xs).map pyT).getD i .none)) xs.length) .non = maxT x xs := by
  have e := (PySem.W.argBest_fold (fun a b => ltT b a) T.non x xs xs.length (Nat.le_refl _)).2
  rw [List.take_length] at e
  have e2 : (fun i j => PySem.W.dataLt (((x :: xs).map pyT).getD j .none) (((x :: xs).map pyT).getD i .none)) = fun i j => ltT ((x :: xs).getD j .non) ((x :: xs).getD i .non) := by
    funext i j; rw [getD_py, getD_py]; rfl
  rw [e2]; exact e
theorem min_idx (x : T) (xs : List T) : (x :: xs).getD (PySem.argBest (fun i j => PySem.W.dataLt (((x :: xs).map pyT).getD i .none) (((x :: xs).map pyT).getD j .none)) xs.length) .non = minT x xs := by
  have e := (PySem.W.argBest_fold (fun a b => ltT a b) T.non x xs xs.length (Nat.le_refl _)).2
  rw [List.take_length] at e
  have e2 : (fun i j => PySem.W.dataLt (((x :: xs).map pyT).getD i .none) (((x :: xs).map pyT).getD j .none)) = fun i j => ltT ((x :: xs).getD i .non) ((x :: xs).getD j .non) := by
    funext i j; rw [getD_py, getD_py]; rfl
  rw [e2]; exact e
theorem reps_at {G : Gc} {ι : Io} {H : Hp} : ∀ {ts : List T} {vs : List V} {us : List Value}, Reps G ι H ts vs → Vals vs us → ∀ (i : Nat) (u : Value), us[i]? = some u → ∃ x, RelV x u ∧ Rep G ι H (ts.getD i .non) x
  | _, _, _, .nil, .nil, i, u, e => by simp at e
  | _, _, _, .cons a b, .cons c d, 0, u, e => by simp at e; subst e; exact ⟨_, c, a⟩
  | _, _, _, .cons a b, .cons c d, i + 1, u, e => by simp at e; exact reps_at b d i u e
def bestT (b : Bool) (x : T) (xs : List T) : T := if b then maxT x xs else minT x xs
def rBest (G : Gc) (b : Bool) : List V → Hp → VK → Prop := fun vs H Q => ∃ ι a us x xs, vs = [.ref a] ∧ SqL G.K H a us ∧ Reps G ι H (x :: xs) us ∧ DataOk (x :: xs) ∧ ∀ v, Rep G ι H (bestT b x xs) v → Q v H
def rBestD (G : Gc) (b : Bool) : List V → List V → Hp → VK → Prop := fun vs zs H Q => ∃ ι a us ts d, vs = [.ref a] ∧ zs = [d] ∧ SqL G.K H a us ∧ Reps G ι H ts us ∧ (ts = [] → Q d H) ∧ ∀ x xs, ts = x :: xs → DataOk (x :: xs) ∧ ∀ v, Rep G ι H (bestT b x xs) v → Q v H
section
variable {X : Cx} {G : Gc} {k : Nat}
theorem reads_all {ι : Io} {pins : List (Addr × Obj)} {σ : St} {H : Hp} {s : Shared} (hK : X.K = G.K) (I : Inv X pins σ H s) {ts : List T} {vs : List V} {us : List Value} (h : DataOk ts) (r : Reps G ι H ts vs) (rv : Vals vs us) : ∃ as, ReadsAll s.heap us (ts.map pyT) as := by
  have dp := Reps.dp r h.pys
  rw [← hK] at dp
  exact Dp.readsAll I _ _ _ dp rv
theorem max_run {ι : Io} {pins : List (Addr × Obj)} {σ : St} {H : Hp} {s : Shared} {a : Addr} {us : List V} {x : T} {xs : List T} {Q : VK} {its : List Value} (hK : X.K = G.K) (hr : Room k X.A) (hc : X.calm = true) (I : Inv X pins σ H s) (hl : PlainL s.heap a its.toArray) (rv : Vals us its) (hR : Reps G ι H (x :: xs) us) (ho : DataOk (x :: xs))
    (q : ∀ v, Rep G ι H (maxT x xs) v → Q v H) : wpAny (model X.prog X.w) X.A (call (.builtin "max") [.ref a]) (EP X pins σ Q) X.xe s := by
  obtain ⟨as, ra⟩ := reads_all hK I ho hR rv
  have ra' : ReadsAll s.heap its.toArray.toList ((x :: xs).map pyT) as := by simpa using ra
  have hn : its.toArray.size = xs.length + 1 := by rw [PySem.W.readsAll_len ra']; simp
  have hu : X.A.in1.units + PyData.depthAll ((x :: xs).map pyT) < cLine := by
    have := depthAll_lt (ds := (x :: xs).map pyT) fun d hd => by
      obtain ⟨t, ht, rfl⟩ := List.mem_map.mp hd
      exact ho.dp t ht
    have z := hr.un
    show X.A.units + 1 + _ < _
    omega
  refine PySem.call_max_walkH (PySem.W.iter_listW (A := X.A.in1) (by simpa using I.ok.hd hc) hl.isList fun s₂ e W st hfp hw hk => ?_)
  refine ⟨_, _, _, _, _, _, _, s.heap, _, rfl, W, st, hfp, by omega, hw, hk, PySem.W.cmpIn_gt (A := X.A.in1) ra' ho.al hu, fun v s' hP m => ?_⟩
  obtain ⟨h', tk, rfl, hk'⟩ := PySem.W.moved_old e rfl m
  have e1 : its.toArray.size - 1 = xs.length := by omega
  rw [e1] at hP
  obtain ⟨y, h1, h2⟩ := reps_at hR rv _ v (by rwa [List.getElem?_toArray] at hP)
  rw [max_idx] at h2
  exact ⟨y, H, I.kept hk', h1, q y h2⟩
theorem min_run {ι : Io} {pins : List (Addr × Obj)} {σ : St} {H : Hp} {s : Shared} {a : Addr} {us : List V} {x : T} {xs : List T} {Q : VK} {its : List Value} (hK : X.K = G.K) (hr : Room k X.A) (hc : X.calm = true) (I : Inv X pins σ H s) (hl : PlainL s.heap a its.toArray) (rv : Vals us its) (hR : Reps G ι H (x :: xs) us) (ho : DataOk (x :: xs))
    (q : ∀ v, Rep G ι H (minT x xs) v → Q v H) : wpAny (model X.prog X.w) X.A (call (.builtin "min") [.ref a]) (EP X pins σ Q) X.xe s := by
  obtain ⟨as, ra⟩ := reads_all hK I ho hR rv
  have ra' : ReadsAll s.heap its.toArray.toList ((x :: xs).map pyT) as := by simpa using ra
  have hn : its.toArray.size = xs.length + 1 := by rw [PySem.W.readsAll_len ra']; simp
  have hu : X.A.in1.units + PyData.depthAll ((x :: xs).map pyT) < cLine := by
    have := depthAll_lt (ds := (x :: xs).map pyT) fun d hd => by
      obtain ⟨t, ht, rfl⟩ := List.mem_map.mp hd
      exact ho.dp t ht
    have z := hr.un
    show X.A.units + 1 + _ < _
    omega
  refine PySem.call_min_walkH (PySem.W.iter_listW (A := X.A.in1) (by simpa using I.ok.hd hc) hl.isList fun s₂ e W st hfp hw hk => ?_)
  refine ⟨_, _, _, _, _, _, _, s.heap, _, rfl, W, st, hfp, by omega, hw, hk, PySem.W.cmpIn_lt (A := X.A.in1) ra' ho.al hu, fun v s' hP m => ?_⟩
  obtain ⟨h', tk, rfl, hk'⟩ := PySem.W.moved_old e rfl m
  have e1 : its.toArray.size - 1 = xs.length := by omega
  rw [e1] at hP
  obtain ⟨y, h1, h2⟩ := reps_at hR rv _ v (by rwa [List.getElem?_toArray] at hP)
  rw [min_idx] at h2
  exact ⟨y, H, I.kept hk', h1, q y h2⟩
def bestN (b : Bool) : String := if b then "max" else "min"
theorem cr_best (b : Bool) (hK : X.K = G.K) (hr : Room k X.A) (hc : X.calm = true) : CallR X (.builtin (bestN b)) (rBest G b) := by
  intro pins s σ H vs us Q I r h
  obtain ⟨ι, a, ys, x, xs, rfl, hs, hR, ho, q⟩ := h
  rw [Vals.ref1 r]
  rw [← hK] at hs
  obtain ⟨its, rv, hl, _⟩ := I.list hs
  cases b with
  | true => exact max_run hK hr hc I hl rv hR ho q
  | false => exact min_run hK hr hc I hl rv hR ho q

theorem cr_maxD (hK : X.K = G.K) (hr : Room k X.A) (hc : X.calm = true) : CallRK X (.builtin "max") [Str.ofString "default"] (rBestD G true) := by
  intro pins s σ H vs zs us ws Q I r rz h
  obtain ⟨ι, a, ys, ts, d, rfl, rfl, hs, hR, q0, q1⟩ := h
  rw [Vals.ref1 r]
  obtain ⟨w1, rfl, e1⟩ := vals1 rz
  rw [← hK] at hs
  obtain ⟨its, rv, hl, _⟩ := I.list hs
  have hd : X.A.in1.handled = none := by simpa using I.ok.hd hc
  have hlen : its.toArray.size = ts.length := by rw [List.size_toArray, ← rv.length, hR.length]
  show wpAny _ _ (call (.builtin "max") [.ref a] [(Str.ofString "default", w1)]) _ _ s
  cases ts with
  | nil =>
    refine PySem.call_max_walkD (PySem.W.iter_listW (A := X.A.in1) hd hl.isList fun s₂ e W st hfp hw hk => ?_)
    refine ⟨_, _, _, _, _, _, _, s.heap, (fun _ _ => false), rfl, W, st, hfp, hw, hk, fun _ s' m => ?_, fun hp => ?_⟩
    · obtain ⟨h', tk, rfl, hk'⟩ := PySem.W.moved_old e rfl m
      exact ⟨d, H, I.kept hk', e1, q0 rfl⟩
    · rw [hlen] at hp; exact absurd hp (Nat.lt_irrefl 0)
  | cons x xs =>
    obtain ⟨ho, q⟩ := q1 x xs rfl
    obtain ⟨as, ra⟩ := reads_all hK I ho hR rv
    have ra' : ReadsAll s.heap its.toArray.toList ((x :: xs).map pyT) as := by simpa using ra
    have hu : X.A.in1.units + PyData.depthAll ((x :: xs).map pyT) < cLine := by
      have := depthAll_lt (ds := (x :: xs).map pyT) fun d hd => by
        obtain ⟨t, ht, rfl⟩ := List.mem_map.mp hd
        exact ho.dp t ht
      have z := hr.un
      show X.A.units + 1 + _ < _
      omega
    refine PySem.call_max_walkD (PySem.W.iter_listW (A := X.A.in1) hd hl.isList fun s₂ e W st hfp hw hk => ?_)
    refine ⟨_, _, _, _, _, _, _, s.heap, _, rfl, W, st, hfp, hw, hk, fun hz => ?_, fun _ => ⟨PySem.W.cmpIn_gt (A := X.A.in1) ra' ho.al hu, fun v s' hP m => ?_⟩⟩
    · rw [hlen] at hz; exact absurd hz (Nat.succ_ne_zero _)
    · obtain ⟨h', tk, rfl, hk'⟩ := PySem.W.moved_old e rfl m
      have e1 : its.toArray.size - 1 = xs.length := by rw [hlen]; rfl
      rw [e1] at hP
      obtain ⟨y, h1, h2⟩ := reps_at hR rv _ v (by rwa [List.getElem?_toArray] at hP)
      rw [max_idx] at h2
      exact ⟨y, H, I.kept hk', h1, q y h2⟩

theorem cr_minD (hK : X.K = G.K) (hr : Room k X.A) (hc : X.calm = true) : CallRK X (.builtin "min") [Str.ofString "default"] (rBestD G false) := by
  intro pins s σ H vs zs us ws Q I r rz h
  obtain ⟨ι, a, ys, ts, d, rfl, rfl, hs, hR, q0, q1⟩ := h
  rw [Vals.ref1 r]
  obtain ⟨w1, rfl, e1⟩ := vals1 rz
  rw [← hK] at hs
  obtain ⟨its, rv, hl, _⟩ := I.list hs
  have hd : X.A.in1.handled = none := by simpa using I.ok.hd hc
  have hlen : its.toArray.size = ts.length := by rw [List.size_toArray, ← rv.length, hR.length]
  show wpAny _ _ (call (.builtin "min") [.ref a] [(Str.ofString "default", w1)]) _ _ s
  cases ts with
  | nil =>
    refine PySem.call_min_walkD (PySem.W.iter_listW (A := X.A.in1) hd hl.isList fun s₂ e W st hfp hw hk => ?_)
    refine ⟨_, _, _, _, _, _, _, s.heap, (fun _ _ => false), rfl, W, st, hfp, hw, hk, fun _ s' m => ?_, fun hp => ?_⟩
    · obtain ⟨h', tk, rfl, hk'⟩ := PySem.W.moved_old e rfl m
      exact ⟨d, H, I.kept hk', e1, q0 rfl⟩
    · rw [hlen] at hp; exact absurd hp (Nat.lt_irrefl 0)
  | cons x xs =>
    obtain ⟨ho, q⟩ := q1 x xs rfl
    obtain ⟨as, ra⟩ := reads_all hK I ho hR rv
    have ra' : ReadsAll s.heap its.toArray.toList ((x :: xs).map pyT) as := by simpa using ra
    have hu : X.A.in1.units + PyData.depthAll ((x :: xs).map pyT) < cLine := by
      have := depthAll_lt (ds := (x :: xs).map pyT) fun d hd => by
        obtain ⟨t, ht, rfl⟩ := List.mem_map.mp hd
        exact ho.dp t ht
      have z := hr.un
      show X.A.units + 1 + _ < _
      omega
    refine PySem.call_min_walkD (PySem.W.iter_listW (A := X.A.in1) hd hl.isList fun s₂ e W st hfp hw hk => ?_)
    refine ⟨_, _, _, _, _, _, _, s.heap, _, rfl, W, st, hfp, hw, hk, fun hz => ?_, fun _ => ⟨PySem.W.cmpIn_lt (A := X.A.in1) ra' ho.al hu, fun v s' hP m => ?_⟩⟩
    · rw [hlen] at hz; exact absurd hz (Nat.succ_ne_zero _)
    · obtain ⟨h', tk, rfl, hk'⟩ := PySem.W.moved_old e rfl m
      have e1 : its.toArray.size - 1 = xs.length := by rw [hlen]; rfl
      rw [e1] at hP
      obtain ⟨y, h1, h2⟩ := reps_at hR rv _ v (by rwa [List.getElem?_toArray] at hP)
      rw [min_idx] at h2
      exact ⟨y, H, I.kept hk', h1, q y h2⟩

end
section
variable {X : Cx} {G : Gc} {W : WX} {k : Nat} {a e d : Expr} {es : List Expr} {ml me md : EM} {ms : LM} {p pos p2 kp : Pos}
theorem cd_best (b : Bool) : CallD G (rBest G b) (fBest b) := by
  intro W σ ι st H vs ws Q rs r h
  unfold fBest at h
  split at h
  · rename_i w
    obtain ⟨v, rfl, q⟩ := one_of r
    split at h
    · rename_i x xs e
      split at h
      · rename_i ho
        obtain ⟨a, us, rfl, h1, h2, h3⟩ := tsL_rep rs q e
        exact ⟨ι, a, us, x, xs, rfl, SqL.of h1, h2, ho, fun v hv => h.now rs hv⟩
      · exact h.elim
    · exact h.elim
  · exact h.elim
theorem ev_bestD (b : Bool) (hK : X.K = G.K) (hr : Room k X.A) (hc : X.calm = true) (hg : Gl X (Str.ofString (bestN b))) (hm : X.mg (Str.ofString (bestN b)) = none) (hs : noStar a = true) (ha : EV X G W a ml) (hd : EV X G W d md) :
    EV X G W (.Call (.Name (Str.ofString (bestN b)) p) [a] [⟨some (Str.ofString "default"), d, kp⟩] pos) (fun ρ st => (ml ρ st).bind fun x st1 => (md ρ st1).bind fun y st2 => fBestD b [x, y] st2) := by
  obtain ⟨t, pa, q⟩ := ha
  obtain ⟨t2, pd, q2⟩ := hd
  have hP : PE X (.Call (.Name (Str.ofString (bestN b)) p) [a] [⟨some (Str.ofString "default"), d, kp⟩] pos) (tCKw (rBestD G b) (tCons t tNil) (tCons t2 tNil)) := by
    have hv : bootBuiltins (Str.ofString (bestN b)) = some (.builtin (bestN b)) := by cases b <;> decide +kernel
    have hp := stars_plain (env := X.env) (pos := pos) (es := [a]) (by simp [hs])
    refine pe_callBK (ks := [Str.ofString "default"]) ?_ hg hm hv (pa_cons pa pa_nil (star_plain hs)) (pk_cons pd pk_nil) (by cases b <;> decide) (by cases b <;> decide) (by rw [show starEach [a] X.env = (false, eval a X.env) :: starEach [] X.env from star_plain hs]; rfl) hp rfl rfl rfl
    cases b
    · exact cr_minD hK hr hc
    · exact cr_maxD hK hr hc
  refine ⟨_, hP, fun ρ st σ ι H Q rs re h => ?_⟩
  refine q ρ st σ ι H _ rs re (h.first fun w st1 ι1 v H1 e1 rs1 r1 h1 => ?_)
  show t2 σ H1 _
  refine q2 ρ st1 σ ι1 H1 _ rs1 (re.ext e1) (h1.first fun w2 st2 ι2 v2 H2 e2 rs2 r2 h2 => ?_)
  unfold fBestD at h2
  dsimp only at h2
  have r1' := r1.ext e2
  cases el : tsL st2 w with
  | none => rw [el] at h2; exact h2.elim
  | some ts =>
    rw [el] at h2
    obtain ⟨a2, us, rfl, g1, g2, g3⟩ := tsL_rep rs2 r1' el
    refine ⟨ι2, a2, us, ts, v2, rfl, rfl, SqL.of g1, g2, fun z => ?_, fun x xs z => ?_⟩
    · subst z; exact h2.now rs2 r2
    · subst z
      by_cases ho : DataOk (x :: xs)
      · have h2 : Post G W σ ι2 H2 (if DataOk (x :: xs) then .ok (.v (if b = true then maxT x xs else minT x xs)) st2 else .bad) Q := h2
        rw [if_pos ho] at h2
        exact ⟨ho, fun v hv => h2.now rs2 hv⟩
      · have h2 : Post G W σ ι2 H2 (if DataOk (x :: xs) then .ok (.v (if b = true then maxT x xs else minT x xs)) st2 else .bad) Q := h2
        rw [if_neg ho] at h2
        exact h2.elim
end
end DL

set_option Elab.async false
set_option linter.all false
set_option maxRecDepth 100000
set_option maxHeartbeats 4000000
/-! DLp: isinstance of plain values; sorted(set(xs)) of ints. -/
namespace DL
open PySem PySem.Spec PyProof.Rows L2
open Classical

inductive TN where
  | bool | int | tuple | list
  deriving DecidableEq
def TN.s : TN → String
  | .bool => "bool" | .int => "int" | .tuple => "tuple" | .list => "list"
def TN.x : TN → Str
  | .bool => "bool" | .int => "int" | .tuple => "tuple" | .list => "list"
/-- a plain value's type -/
inductive PTy where
  | non | bool | int | str | tuple | list | dict
  deriving DecidableEq
def PTy.s : PTy → String
  | .non => "NoneType" | .bool => "bool" | .int => "int" | .str => "str" | .tuple => "tuple" | .list => "list" | .dict => "dict"
def T.ty : T → Option PTy
  | .non => some .non | .bl _ => some .bool | .int _ => some .int | .str _ => some .str
  | .tup _ => some .tuple | .ktup _ => some .tuple | .lst _ => some .list | .scr _ => some .list
  | .dct _ => some .dict | .dcT _ => some .dict | _ => none
def tyW (st : Sto) : Wd → Option PTy
  | .v t => t.ty
  | .ref n => match st[n]? with
    | some (.lst _) => some .list
    | some (.dct _) => some .dict
    | some (.dcT _) => some .dict
    | _ => none
def isB : PTy → TN → Bool
  | .bool, .bool => true | .bool, .int => true | .int, .int => true | .tuple, .tuple => true | .list, .list => true
  | _, _ => false
theorem isB_ok (K : PySem.W.Frag) (t : PTy) (c : TN) : PySem.W.kitOne K (.type t.s) (.type c.s) = some (isB t c) := by
  cases t <;> cases c <;> rfl
def fIsi (c : TN) (w : Wd) (st : Sto) : R Wd := match tyW st w with
  | some t => .ok (.v (.bl (isB t c))) st
  | none => .bad
def fIsiTL (w : Wd) (st : Sto) : R Wd := match tyW st w with
  | some t => .ok (.v (.bl (isB t .tuple || isB t .list))) st
  | none => .bad
section
variable {G : Gc} {ι : Io} {H : Hp} {st : Sto}
theorem sql_ty {K : PySem.W.Frag} {a : Addr} {xs : List V} (h : SqL K H a xs) : TyX K H (.ref a) (.type "list") := by
  rcases h with (h | ⟨o, h⟩) | ⟨o, its, n, h1, h2, _⟩
  · exact .base (.lst h)
  · exact .base (.frz h)
  · exact .kList h1 h2
theorem tyW_rep (rs : RelS G ι st H) {w : Wd} {v : V} {t : PTy} (r : RepW G ι H w v) (h : tyW st w = some t) : TyX G.K H v (.type t.s) := by
  cases w with
  | v x =>
    have r : Rep G ι H x v := r
    cases r with
    | non => cases h; exact .base .non
    | bl b => cases h; exact .base (.bl b)
    | int i => cases h; exact .base (.int i)
    | str z => cases h; exact .base (.str z)
    | tup e _ _ _ => cases h; exact .base (.tup e)
    | tupK e _ =>
      obtain ⟨o, its, n, h1, h2, _⟩ := e
      cases h; exact .kTuple h1 h2
    | lst e _ _ _ => cases h; exact .base (.lst e)
    | scr e _ => cases h; exact sql_ty e.sq
    | dct e _ _ _ => cases h; exact .base (.dK e)
    | dcT e _ _ _ => cases h; exact .base (.dT e)
    | ins => cases h
  | ref n =>
    obtain ⟨a, hn, rfl⟩ := r
    simp only [tyW] at h
    split at h
    · rename_i ws e
      obtain ⟨b, vs, h1, h2, _⟩ := rs.ob e
      rw [hn] at h1; cases h1; cases h
      exact .base (.lst h2)
    · rename_i ws e
      obtain ⟨b, vs, h1, h2, _⟩ := rs.ob e
      rw [hn] at h1; cases h1; cases h
      exact .base (.dK h2)
    · rename_i ws e
      obtain ⟨b, vs, h1, h2, _⟩ := rs.ob e
      rw [hn] at h1; cases h1; cases h
      exact .base (.dT h2)
    · cases h
end
section
variable {X : Cx} {G : Gc} {W : WX} {k : Nat} {a e d : Expr} {es : List Expr} {ma : EM} {ml : LM} {p pos p2 p3 p4 : Pos}
theorem pe_tn (c : TN) (hg : Gl X c.x) (hm : X.mg c.x = none) : PE X (.Name c.x p) (tC (.ty c.s)) := by
  cases c <;> exact pe_bltn hg hm (by decide +kernel) rfl (by decide) (by decide)
theorem ev_isi (c : TN) (hK : X.K = G.K) (hg : Gl X "isinstance") (hm : X.mg "isinstance" = none) (hg2 : Gl X c.x) (hm2 : X.mg c.x = none) (hs : noStar a = true) (ha : EV X G W a ma) :
    EV X G W (.Call (.Name "isinstance" p) [a, .Name c.x p2] [] pos) (fun ρ st => (ma ρ st).bind fun w st1 => fIsi c w st1) := by
  obtain ⟨t, pa, q⟩ := ha
  refine ⟨_, pe_callB call_isi hg hm PyProof.Rows.boot_isinstance (pa_cons pa (pa_cons (pe_tn c hg2 hm2) pa_nil rfl) (star_plain hs)) (by decide) (by decide) (star_plain hs) (stars_plain rfl), fun ρ st σ ι H Q rs re h => ?_⟩
  show t σ H _
  refine q ρ st σ ι H _ rs re (h.first fun w st1 ι1 v H1 e1 rs1 r1 h1 => ?_)
  unfold fIsi at h1
  split at h1
  · rename_i ty e
    have z := tyW_rep rs1 r1 e
    rw [← hK] at z
    exact ⟨v, .ty c.s, _, _, _, rfl, .ty _, z, isB_ok _ _ _, h1.now rs1 (.bl _)⟩
  · exact h1.elim
theorem ev_isiTL {n : Nat} (hK : X.K = G.K) (hg : Gl X "isinstance") (hm : X.mg "isinstance" = none) (hg1 : Gl X TN.tuple.x) (hm1 : X.mg TN.tuple.x = none) (hg2 : Gl X TN.list.x) (hm2 : X.mg TN.list.x = none) (hs : noStar a = true) (ha : EV X G W a ma) :
    EV X G W (.Call (.Name "isinstance" p) [a, .Tuple [.Name TN.tuple.x p2, .Name TN.list.x p3] n p4] [] pos) (fun ρ st => (ma ρ st).bind fun w st1 => fIsiTL w st1) := by
  obtain ⟨t, pa, q⟩ := ha
  refine ⟨_, pe_callB call_isiT hg hm PyProof.Rows.boot_isinstance (pa_cons pa (pa_cons (pe_tup (pa_cons (pe_tn .tuple hg1 hm1) (pa_cons (pe_tn .list hg2 hm2) pa_nil rfl) rfl)) pa_nil rfl) (star_plain hs)) (by decide) (by decide) (star_plain hs) (stars_plain rfl), fun ρ st σ ι H Q rs re h => ?_⟩
  show t σ H _
  refine q ρ st σ ι H _ rs re (h.first fun w st1 ι1 v H1 e1 rs1 r1 h1 => ?_)
  refine ⟨by show 2 ≤ sizeLine; rw [sizeLine_eq]; omega, fun tp ntp => ?_⟩
  unfold fIsiTL at h1
  split at h1
  · rename_i ty e
    have ex : Ext ι1 H1 ι1 (upd H1 tp (.tup [.ty "tuple", .ty "list"])) := Ext.same (upd_keeps ntp)
    have rs2 := rs1.same (upd_keeps (o := .tup [.ty "tuple", .ty "list"]) ntp)
    have z := tyW_rep rs2 (r1.ext ex) e
    rw [← hK] at z
    refine ⟨v, tp, [.ty "tuple", .ty "list"], _, [.type "tuple", .type "list"], isB ty .tuple || isB ty .list, rfl, upd_same, .cons (.ty _) (.cons (.ty _) .nil), z, ?_, h1.then_ ex rs2 (.bl _)⟩
    refine kitAny_cons (isB_ok _ _ .tuple) (fun e1 => kitAny_cons (isB_ok _ _ .list) (fun e2 => ?_) fun e2 => ?_) fun e1 => ?_
    · rw [e1, e2]; rfl
    · rw [e2]; simp
    · rw [e1]; rfl
  · exact h1.elim
/-! ### sorted(set(xs)) -/
def insU (x : Int) : List Int → List Int
  | [] => [x]
  | y :: r => if x < y then x :: y :: r else if x = y then y :: r else y :: insU x r
/-- the members, each once, rising -/
def sortU (ns : List Int) : List Int := ns.foldr insU []
theorem insU_mem {x k : Int} : ∀ {l : List Int}, k ∈ insU x l ↔ k = x ∨ k ∈ l
  | [] => by simp [insU]
  | y :: r => by
    unfold insU
    split
    · simp
    · split
      · rename_i h; subst h; simp
      · rw [List.mem_cons, insU_mem, List.mem_cons]
        exact ⟨fun h => by rcases h with h | h | h <;> simp [h], fun h => by rcases h with h | h | h <;> simp [h]⟩
theorem sortU_mem {k : Int} : ∀ {ns : List Int}, k ∈ sortU ns ↔ k ∈ ns
  | [] => Iff.rfl
  | x :: r => by
    show k ∈ insU x (sortU r) ↔ _
    rw [insU_mem, sortU_mem, List.mem_cons]
theorem insU_pw {x : Int} : ∀ {l : List Int}, l.Pairwise (· < ·) → (insU x l).Pairwise (· < ·)
  | [], _ => by simp [insU]
  | y :: r, h => by
    rw [List.pairwise_cons] at h
    unfold insU
    split
    · rename_i hx
      refine List.pairwise_cons.mpr ⟨fun z hz => ?_, List.pairwise_cons.mpr h⟩
      rcases List.mem_cons.mp hz with rfl | hz
      · exact hx
      · exact Int.lt_trans hx (h.1 z hz)
    · split
      · exact List.pairwise_cons.mpr h
      · refine List.pairwise_cons.mpr ⟨fun z hz => ?_, insU_pw h.2⟩
        rcases insU_mem.mp hz with rfl | hz
        · omega
        · exact h.1 z hz
theorem sortU_pw : ∀ ns : List Int, (sortU ns).Pairwise (· < ·)
  | [] => List.Pairwise.nil
  | x :: r => insU_pw (sortU_pw r)
theorem pw_uniq : ∀ {l m : List Int}, l.Pairwise (· < ·) → m.Pairwise (· < ·) → (∀ k, k ∈ l ↔ k ∈ m) → l = m
  | [], [], _, _, _ => rfl
  | [], y :: m, _, _, e => by simpa using (e y).mpr (List.mem_cons_self ..)
  | x :: l, [], _, _, e => by simpa using (e x).mp (List.mem_cons_self ..)
  | x :: l, y :: m, h, g, e => by
    rw [List.pairwise_cons] at h g
    have h1 := (e x).mp (List.mem_cons_self ..)
    have h2 := (e y).mpr (List.mem_cons_self ..)
    have xy : x = y := by
      rcases List.mem_cons.mp h1 with z | z
      · exact z
      · rcases List.mem_cons.mp h2 with z2 | z2
        · exact z2.symm
        · have a := g.1 _ z; have b := h.1 _ z2; omega
    subst xy
    rw [pw_uniq h.2 g.2 fun k => ⟨fun z => ?_, fun z => ?_⟩]
    · rcases List.mem_cons.mp ((e k).mp (List.mem_cons_of_mem _ z)) with q | q
      · subst q; exact absurd (h.1 _ z) (Int.lt_irrefl _)
      · exact q
    · rcases List.mem_cons.mp ((e k).mpr (List.mem_cons_of_mem _ z)) with q | q
      · subst q; exact absurd (g.1 _ z) (Int.lt_irrefl _)
      · exact q
def fSSet (ws : List Wd) (st : Sto) : R Wd := match ws with
  | [w] => match tsL st w with
    | some ts => match intsT ts with
      | some ns => if ns.length < 63 then .ok (.v (.lst ((sortU ns).map T.int))) st else .bad
      | none => .bad
    | none => .bad
  | _ => .bad
def rSetI (K : PySem.W.Frag) (w : World) : List V → Hp → VK → Prop := fun xs H Q => ∃ (a : Addr) (ns : List Int), xs = [V.ref a] ∧ SqL K H a (ns.map V.int) ∧ ns.length < 63 ∧ ∀ l c, H l = none → c ≤ ns.length → Q (.ref l) (upd H l (SetO w l (fun j => decide (j ∈ ns)) c))
theorem cr_setI (hc : X.calm = true) : CallR X (.type "set") (rSetI X.K X.w) := by
  intro pins s σ H xs us Q I r h
  obtain ⟨a, ns, rfl, hs, few, q⟩ := h
  rw [Vals.ref1 r]
  obtain ⟨its, rv, hl, _⟩ := I.list hs
  refine mkset_ints ns (I.ok.hd hc) hl.isList (by simpa using ints_of_vals rv) (by unfold scanBound; omega) fun h2 tk2 c hs2 => ?_
  exact ⟨.ref s.heap.objs.size, upd H s.heap.objs.size (SetO X.w s.heap.objs.size (fun j => decide (j ∈ ns)) c), I.laid hs2.2.2 (Nat.le_refl _) (setO_new hs2.1), rfl, q _ _ (I.hok.fresh (Nat.le_refl _)) hs2.2.1⟩
theorem ev_sset (hK : X.K = G.K) (hc : X.calm = true) (hg : Gl X "sorted") (hm : X.mg "sorted" = none) (hg2 : Gl X "set") (hm2 : X.mg "set" = none) (hs : noStar a = true) (ha : AV X G W [a] ml) :
    EV X G W (.Call (.Name "sorted" p) [.Call (.Name "set" p2) [a] [] p3] [] pos) (fun ρ st => (ml ρ st).bind fSSet) := by
  obtain ⟨t, pa, q⟩ := ha
  refine ⟨_, pe_callB (cr_sortedSet hc) hg hm (by decide +kernel) (pa_cons (pe_callTy (cr_setI hc) hg2 hm2 PyProof.Rows.boot_set pa (by decide) (by decide) (star_plain hs) (stars_plain rfl)) pa_nil rfl) (by decide) (by decide) rfl rfl, fun ρ st σ ι H Q rs re h => ?_⟩
  show t σ H _
  refine q ρ st σ ι H _ rs re (h.firstL fun ws st1 ι1 vs H1 e1 rs1 r1 h1 => ?_)
  unfold fSSet at h1
  split at h1
  · rename_i w
    obtain ⟨v, rfl, r2⟩ := one_of r1
    split at h1
    · rename_i ts e
      split at h1
      · rename_i ns e2
        split at h1
        · rename_i few
          obtain ⟨l, us, rfl, g1, g2, g3⟩ := tsL_rep rs1 r2 e
          rw [intsT_rep e2 g2] at g1
          refine ⟨l, ns, rfl, by rw [hK]; exact SqL.of g1, few, fun b c nb hc2 => ?_⟩
          refine ⟨b, _, c, rfl, upd_same, by omega, fun ns' p' pw mem len np => ?_⟩
          have eq : ns' = sortU ns := pw_uniq pw (sortU_pw ns) fun k => by rw [mem, sortU_mem]; simp
          subst eq
          have ex : Ext ι1 H1 ι1 (upd H1 b (SetO X.w b (fun j => decide (j ∈ ns)) c)) := Ext.same (upd_keeps nb)
          have ex2 := ex.tr (Ext.same (upd_keeps (o := .lst ((sortU ns).map V.int)) np))
          have rs2 := (rs1.same (upd_keeps (o := SetO X.w b (fun j => decide (j ∈ ns)) c) nb))
          refine h1.then_ ex2 (rs2.same (upd_keeps np)) ?_
          exact .lst upd_same (by rw [List.length_map, len, sizeLine_eq]; omega) (rs2.notIn np) (ints_reps _)
        · exact h1.elim
      · exact h1.elim
    · exact h1.elim
  · exact h1.elim
end
end DL

set_option Elab.async false
set_option linter.all false
set_option maxRecDepth 100000
set_option maxHeartbeats 4000000
/-! DLq: methods of lists. -/
namespace DL
open PySem PySem.Spec PyProof.Rows L2
open Classical

abbrev MD := Wd → List Wd → Sto → R Wd
def MetD (G : Gc) (r : V → List V → Hp → VK → Prop) (f : MD) : Prop := ∀ W σ ι st H v w vs ws Q, RelS G ι st H → RepW G ι H w v → RepWs G ι H ws vs → Post G W σ ι H (f w ws st) Q → r v vs H Q
inductive TM where
  | list | dict | str
  deriving DecidableEq
def TM.s : TM → String
  | .list => "list" | .dict => "dict" | .str => "str"
def isW (T : TM) (st : Sto) : Wd → Bool
  | .v (.lst _) => decide (T = .list)
  | .v (.scr _) => decide (T = .list)
  | .v (.dct _) => decide (T = .dict)
  | .v (.dcT _) => decide (T = .dict)
  | .v (.str _) => decide (T = .str)
  | .ref n => match st[n]? with
    | some (.lst _) => decide (T = .list)
    | some (.dct _) => decide (T = .dict)
    | some (.dcT _) => decide (T = .dict)
    | _ => false
  | _ => false
theorem isW_rep {G : Gc} {ι : Io} {H : Hp} {st : Sto} {T : TM} {w : Wd} {v : V} (rs : RelS G ι st H) (r : RepW G ι H w v) (h : isW T st w = true) : tyV G.K T.s v H := by
  cases w with
  | v t =>
    have r : Rep G ι H t v := r
    cases r with
    | lst e _ _ _ => cases T <;> first | exact .inl ⟨rfl, _, SqL.of e⟩ | cases h
    | scr e _ => cases T <;> first | exact .inl ⟨rfl, _, e.sq⟩ | cases h
    | dct e _ _ _ => cases T <;> first | exact .inr (.inr (.inl ⟨rfl, .inl ⟨_, e⟩⟩)) | cases h
    | dcT e _ _ _ => cases T <;> first | exact .inr (.inr (.inl ⟨rfl, .inr ⟨_, e⟩⟩)) | cases h
    | str x => cases T <;> first | exact (rfl : TM.str.s = "str") | cases h
    | _ => cases h
  | ref n =>
    obtain ⟨a, hn, rfl⟩ := r
    simp only [isW] at h
    split at h
    · rename_i ws e
      obtain ⟨b, vs, h1, h2, _⟩ := rs.ob e
      rw [hn] at h1; cases h1
      cases T <;> first | exact .inl ⟨rfl, _, SqL.of h2⟩ | cases h
    · rename_i ws e
      obtain ⟨b, vs, h1, h2, _⟩ := rs.ob e
      rw [hn] at h1; cases h1
      cases T <;> first | exact .inr (.inr (.inl ⟨rfl, .inl ⟨_, h2⟩⟩)) | cases h
    · rename_i ws e
      obtain ⟨b, vs, h1, h2, _⟩ := rs.ob e
      rw [hn] at h1; cases h1
      cases T <;> first | exact .inr (.inr (.inl ⟨rfl, .inr ⟨_, h2⟩⟩)) | cases h
    · cases h
def eBm (T : TM) (f : MD) (mo : EM) (ml : LM) : EM := fun ρ st => (mo ρ st).bind fun w st1 => if isW T st1 w then (ml ρ st1).bind fun ws st2 => f w ws st2 else .bad
theorem stars_all {pos : Pos} {env : Env} : ∀ {l : List Expr}, l.all noStar = true → (backTo pos (starEach l env)).all (fun x => !x.1) = true
  | [], _ => rfl
  | e :: l, h => by
    simp only [List.all_cons, Bool.and_eq_true] at h
    rw [star_plain h.1]
    show (!false && (backTo pos (starEach l env)).all (fun x => !x.1)) = true
    rw [stars_all h.2]; rfl
section
variable {X : Cx} {G : Gc} {W : WX} {o e : Expr} {es : List Expr} {mo : EM} {ml : LM} {apos pos : Pos} {id : String} {m : Str} {r : V → List V → Hp → VK → Prop}
theorem ev_bm (T : TM) {f : MD} (hK : X.K = G.K) (pa : PlainAttrs T.s) (slot : Slot T.s m id) (hty : typeOf (.builtin id) = pure (.type "method_descriptor")) (hm : MtR X id r) (hf : MetD G r f) (ho : EV X G W o mo) (ha : AV X G W (e :: es) ml)
    (hb : attributeBase o m X.env (eval o X.env) = eval o X.env) (hl : (apos.endLine == pos.line) = true) (hs : noStar e = true) (hss : es.all noStar = true) (hn : (e :: es).length < 30) : EV X G W (.Call (.Attribute o m apos) (e :: es) [] pos) (eBm T f mo ml) := by
  obtain ⟨t, p, q⟩ := ho
  obtain ⟨ta, pb, qa⟩ := ha
  have hfew : ((backTo pos (starEach (e :: es) X.env)).all (fun x => !x.1) && (backToKw pos (keywordEach [] X.env)).all (fun x => x.1.isSome) && decide ((e :: es).length + ([] : List Keyword).length + (if ([] : List Keyword).isEmpty then 0 else 1) < 30)) = true := by
    rw [stars_all (by simp [hs, hss])]
    show (true && true && decide ((e :: es).length + 0 + 0 < 30)) = true
    simpa using hn
  refine ⟨_, pe_bm pa slot hty hm p pb hb hfew hl (star_plain hs) (stars_plain hss), fun ρ st σ ι H Q rs re h => ?_⟩
  refine q ρ st σ ι H _ rs re (h.first fun w st1 ι1 v H1 e1 rs1 r1 h1 => ?_)
  by_cases hw : isW T st1 w = true
  · have h1 : Post G W σ ι1 H1 (if isW T st1 w = true then (ml ρ st1).bind fun ws st2 => f w ws st2 else .bad) Q := h1
    rw [if_pos hw] at h1
    refine ⟨by rw [hK]; exact isW_rep rs1 r1 hw, ?_⟩
    refine qa ρ st1 σ ι1 H1 _ rs1 (re.ext e1) (h1.firstL fun ws st2 ι2 vs H2 e2 rs2 r2 h2 => ?_)
    exact hf W σ ι2 st2 H2 v w vs ws Q rs2 (r1.ext e2) r2 h2
  · have h1 : Post G W σ ι1 H1 (if isW T st1 w = true then (ml ρ st1).bind fun ws st2 => f w ws st2 else .bad) Q := h1
    rw [if_neg hw] at h1
    exact h1.elim
theorem ev_bm0 (T : TM) {f : MD} (hK : X.K = G.K) (pa : PlainAttrs T.s) (slot : Slot T.s m id) (hty : typeOf (.builtin id) = pure (.type "method_descriptor")) (hm : MtR X id r) (hf : MetD G r f) (ho : EV X G W o mo)
    (hb : attributeBase o m X.env (eval o X.env) = eval o X.env) (hl : (apos.endLine == pos.line) = true) : EV X G W (.Call (.Attribute o m apos) [] [] pos) (eBm T f mo lNil) := by
  obtain ⟨t, p, q⟩ := ho
  refine ⟨_, pe_bm0 pa slot hty hm p hb hl, fun ρ st σ ι H Q rs re h => ?_⟩
  refine q ρ st σ ι H _ rs re (h.first fun w st1 ι1 v H1 e1 rs1 r1 h1 => ?_)
  by_cases hw : isW T st1 w = true
  · have h1 : Post G W σ ι1 H1 (if isW T st1 w = true then f w [] st1 else .bad) Q := h1
    rw [if_pos hw] at h1
    exact ⟨by rw [hK]; exact isW_rep rs1 r1 hw, hf W σ ι1 st1 H1 v w [] [] Q rs1 r1 .nil h1⟩
  · have h1 : Post G W σ ι1 H1 (if isW T st1 w = true then f w [] st1 else .bad) Q := h1
    rw [if_neg hw] at h1
    exact h1.elim
end
/-! ### lists -/
def gAppend : MD := fun w ws st => match w, ws with
  | .ref n, [x] => match st[n]? with
    | some (.lst l) => if l.length < LINE then .ok (.v .non) (st.set n (.lst (l ++ [x]))) else .bad
    | _ => .bad
  | _, _ => .bad
def gExtend : MD := fun w ws st => match w, ws with
  | .ref n, [x] => match st[n]?, itemsL st x with
    | some (.lst l), some zs => if l.length + zs.length ≤ LINE then .ok (.v .non) (st.set n (.lst (l ++ zs))) else .bad
    | _, _ => .bad
  | _, _ => .bad
def gPop : MD := fun w ws st => match w, ws with
  | .ref n, [] => match st[n]? with
    | some (.lst l) => match l[l.length - 1]? with
      | some y => .ok y (st.set n (.lst l.dropLast))
      | none => .bad
    | _ => .bad
  | _, _ => .bad
def gPopAt : MD := fun w ws st => match w, ws with
  | .ref n, [.v (.int i)] => match st[n]? with
    | some (.lst l) => if -(2 ^ 63) ≤ i ∧ i < 2 ^ 63 then match seqIndex? i l.length with
      | some k => match l[k]? with
        | some y => .ok y (st.set n (.lst (l.eraseIdx k)))
        | none => .bad
      | none => .bad else .bad
    | _ => .bad
  | _, _ => .bad
def gInsert : MD := fun w ws st => match w, ws with
  | .ref n, [.v (.int i), x] => match st[n]? with
    | some (.lst l) => if l.length < LINE ∧ 0 ≤ i ∧ i < 2 ^ 63 then .ok (.v .non) (st.set n (.lst (l.take i.toNat ++ [x] ++ l.drop i.toNat))) else .bad
    | _ => .bad
  | _, _ => .bad
def gClear : MD := fun w ws st => match w, ws with
  | .ref n, [] => match st[n]? with
    | some (.lst l) => .ok (.v .non) (st.set n (.lst []))
    | _ => .bad
  | _, _ => .bad

section
variable {G : Gc}
theorem RepWs.drop1 {ι : Io} {H : Hp} {ws : List Wd} {vs : List V} (r : RepWs G ι H ws vs) : RepWs G ι H ws.dropLast vs.dropLast := by
  rw [List.dropLast_eq_take, List.dropLast_eq_take, r.length]
  exact RepWs.take _ r
theorem RepWs.erase {ι : Io} {H : Hp} (k : Nat) {ws : List Wd} {vs : List V} (r : RepWs G ι H ws vs) : RepWs G ι H (ws.eraseIdx k) (vs.eraseIdx k) := by
  rw [List.eraseIdx_eq_take_drop_succ, List.eraseIdx_eq_take_drop_succ]
  exact RepWs.app (RepWs.take _ r) (RepWs.drop _ r)
/-- a change of one of our lists -/
theorem Post.lset {W : WX} {σ : St} {ι : Io} {H : Hp} {st : Sto} {n : Nat} {a : Addr} {l' : List Wd} {vs' : List V} {w : Wd} {v : V} {Q : VK} (h : Post G W σ ι H (.ok w (st.set n (.lst l'))) Q) (rs : RelS G ι st H) (hn : ι.pl[n]? = some (some a)) (hl : l'.length ≤ sizeLine) (r : RepWs G ι H l' vs') (rw' : RepW G ι H w v) :
    Q v (upd H a (.lst vs')) := by
  have e : Ext ι H ι (upd H a (.lst vs')) := ext_upd (InI.of hn) (rs.dis n a hn)
  exact h.then_ e (rs.write hn ⟨vs', rfl, hl, r⟩) (rw'.ext e)
theorem md_append : MetD G rAppend gAppend := by
  intro W σ ι st H v w vs ws Q rs r rr h
  unfold gAppend at h
  split at h
  · rename_i n x
    split at h
    · rename_i l e
      split at h
      · rename_i hl
        obtain ⟨a, us, h1, h2, h3, h4⟩ := rs.ob e
        obtain ⟨b, hn, rfl⟩ := r
        rw [h1] at hn; cases hn
        obtain ⟨y, rfl, ry⟩ := one_of rr
        have hl : l.length < sizeLine := hl
        exact ⟨a, us, y, rfl, rfl, h2, by rw [← h4.length]; exact hl, h.lset rs h1 (by simp; omega) (RepWs.app h4 (.cons ry .nil)) .non⟩
      · exact h.elim
    · exact h.elim
  · exact h.elim
theorem md_extend : MetD G rExtend gExtend := by
  intro W σ ι st H v w vs ws Q rs r rr h
  unfold gExtend at h
  split at h
  · rename_i n x
    split at h
    · rename_i l zs e e2
      split at h
      · rename_i hl
        obtain ⟨a, us, h1, h2, h3, h4⟩ := rs.ob e
        obtain ⟨b, hn, rfl⟩ := r
        rw [h1] at hn; cases hn
        obtain ⟨y, rfl, ry⟩ := one_of rr
        obtain ⟨c, zv, rfl, g1, g2, g3⟩ := itemsL_rep rs ry e2
        have hl : l.length + zs.length ≤ sizeLine := hl
        exact ⟨a, c, us, zv, rfl, rfl, h2, g1, by rw [← h4.length, ← g2.length]; exact hl, h.lset rs h1 (by simpa using hl) (RepWs.app h4 g2) .non⟩
      · exact h.elim
    · exact h.elim
  · exact h.elim
theorem md_pop : MetD G rPop gPop := by
  intro W σ ι st H v w vs ws Q rs r rr h
  unfold gPop at h
  split at h
  · rename_i n
    split at h
    · rename_i l e
      split at h
      · rename_i y ey
        obtain ⟨a, us, h1, h2, h3, h4⟩ := rs.ob e
        obtain ⟨b, hn, rfl⟩ := r
        rw [h1] at hn; cases hn
        cases rr
        obtain ⟨z, hz, rz⟩ := h4.get ey
        exact ⟨a, us, z, rfl, rfl, h2, by rw [← h4.length]; exact hz, h.lset rs h1 (by simp; omega) h4.drop1 rz⟩
      · exact h.elim
    · exact h.elim
  · exact h.elim
theorem md_popAt : MetD G rPopAt gPopAt := by
  intro W σ ι st H v w vs ws Q rs r rr h
  unfold gPopAt at h
  split at h
  · rename_i n i
    split at h
    · rename_i l e
      split at h
      · rename_i hi
        split at h
        · rename_i k ek
          split at h
          · rename_i y ey
            obtain ⟨a, us, h1, h2, h3, h4⟩ := rs.ob e
            obtain ⟨b, hn, rfl⟩ := r
            rw [h1] at hn; cases hn
            obtain ⟨y', rfl, ry⟩ := one_of rr
            cases ry
            obtain ⟨z, hz, rz⟩ := h4.get ey
            refine ⟨a, us, i, k, z, rfl, rfl, h2, hi.1, hi.2, by rw [← h4.length]; exact ek, hz, h.lset rs h1 ?_ (h4.erase k) rz⟩
            have := List.length_eraseIdx_le l k
            omega
          · exact h.elim
        · exact h.elim
      · exact h.elim
    · exact h.elim
  · exact h.elim
theorem md_insert : MetD G (fun x vs H Q => ∃ (l : Addr) (xs : List V) (i : Int) (y : V), x = .ref l ∧ vs = [.int i, y] ∧ H l = some (.lst xs) ∧ xs.length < sizeLine ∧ 0 ≤ i ∧ i < 2 ^ 63 ∧ Q .non (upd H l (.lst (xs.take i.toNat ++ [y] ++ xs.drop i.toNat)))) gInsert := by
  intro W σ ι st H v w vs ws Q rs r rr h
  unfold gInsert at h
  split at h
  · rename_i n i x
    split at h
    · rename_i l e
      split at h
      · rename_i hl
        obtain ⟨hl, i0, i1⟩ := hl
        obtain ⟨a, us, h1, h2, h3, h4⟩ := rs.ob e
        obtain ⟨b, hn, rfl⟩ := r
        rw [h1] at hn; cases hn
        obtain ⟨z, y, rfl, rz, ry⟩ := two_of rr
        cases rz
        have hl : l.length < sizeLine := hl
        exact ⟨a, us, i, y, rfl, rfl, h2, by rw [← h4.length]; exact hl, i0, i1, h.lset rs h1 (by simp; omega) (RepWs.app (RepWs.app (RepWs.take _ h4) (.cons ry .nil)) (RepWs.drop _ h4)) .non⟩
      · exact h.elim
    · exact h.elim
  · exact h.elim
theorem md_clear : MetD G rClear gClear := by
  intro W σ ι st H v w vs ws Q rs r rr h
  unfold gClear at h
  split at h
  · rename_i n
    split at h
    · rename_i l e
      obtain ⟨a, us, h1, h2, h3, h4⟩ := rs.ob e
      obtain ⟨b, hn, rfl⟩ := r
      rw [h1] at hn; cases hn
      cases rr
      exact ⟨a, us, rfl, rfl, h2, h.lset rs h1 (Nat.zero_le _) .nil .non⟩
    · exact h.elim
  · exact h.elim
end
inductive BMt where
  | append | extend | popL | popAt | insert | clearL
  deriving DecidableEq
def BMt.name : BMt → Str
  | .append => "append" | .extend => "extend" | .popL => "pop" | .popAt => "pop" | .insert => "insert" | .clearL => "clear"
def BMt.T : BMt → TM
  | _ => .list
/-- called with no arguments -/
def BMt.zero : BMt → Bool
  | .popL => true | .clearL => true | _ => false
def BMt.f : BMt → MD
  | .append => gAppend | .extend => gExtend | .popL => gPop | .popAt => gPopAt | .insert => gInsert | .clearL => gClear
section
variable {X : Cx} {G : Gc} {W : WX} {o e : Expr} {es : List Expr} {mo : EM} {ml : LM} {apos pos : Pos}
theorem ev_bmE (b : BMt) (hz : b.zero = false) (hK : X.K = G.K) (ho : EV X G W o mo) (ha : AV X G W (e :: es) ml)
    (hb : attributeBase o b.name X.env (eval o X.env) = eval o X.env) (hl : (apos.endLine == pos.line) = true) (hs : noStar e = true) (hss : es.all noStar = true) (hn : (e :: es).length < 30) : EV X G W (.Call (.Attribute o b.name apos) (e :: es) [] pos) (eBm b.T b.f mo ml) := by
  cases b with
  | append => exact ev_bm .list hK F.plainAttrs_list F.slot_list_append F.type_list_append mt_append md_append ho ha hb hl hs hss hn
  | extend => exact ev_bm .list hK F.plainAttrs_list F.slot_list_extend F.type_list_extend mt_extend md_extend ho ha hb hl hs hss hn
  | popAt => exact ev_bm .list hK F.plainAttrs_list F.slot_list_pop F.type_list_pop mt_popAt md_popAt ho ha hb hl hs hss hn
  | insert => exact ev_bm .list hK F.plainAttrs_list F.slot_list_insert F.type_list_insert mt_insert md_insert ho ha hb hl hs hss hn
  | popL => cases hz
  | clearL => cases hz
theorem ev_bmZ (b : BMt) (hz : b.zero = true) (hK : X.K = G.K) (ho : EV X G W o mo)
    (hb : attributeBase o b.name X.env (eval o X.env) = eval o X.env) (hl : (apos.endLine == pos.line) = true) : EV X G W (.Call (.Attribute o b.name apos) [] [] pos) (eBm b.T b.f mo lNil) := by
  cases b with
  | popL => exact ev_bm0 .list hK F.plainAttrs_list F.slot_list_pop F.type_list_pop mt_pop md_pop ho hb hl
  | clearL => exact ev_bm0 .list hK F.plainAttrs_list F.slot_list_clear F.type_list_clear mt_clear md_clear ho hb hl
  | append => cases hz
  | extend => cases hz
  | popAt => cases hz
  | insert => cases hz
end
end DL

set_option Elab.async false
set_option linter.all false
set_option maxRecDepth 100000
set_option maxHeartbeats 4000000
/-! DLr: the table of built-ins. -/
namespace DL
open PySem PySem.Spec PyProof.Rows L2
open Classical
/-! ### the table of built-ins -/
inductive BI where
  | len | list | listM | tuple | all | any | sum | int | str | abs | max2 | min2 | sorted | max1 | min1
  deriving DecidableEq
def BI.name : BI → Str
  | .len => "len" | .list => "list" | .listM => "list" | .tuple => "tuple" | .all => "all" | .any => "any" | .sum => "sum" | .int => "int" | .str => "str" | .abs => "abs" | .max2 => "max" | .min2 => "min" | .sorted => "sorted" | .max1 => "max" | .min1 => "min"
noncomputable def BI.den : BI → List Wd → Sto → R Wd
  | .len => fLen | .list => fList | .listM => fListM | .tuple => fTuple | .all => fAll | .any => fAny | .sum => fSum | .int => fInt | .str => fStr | .abs => fAbs | .max2 => fMax2 | .min2 => fMin2 | .sorted => fSortD | .max1 => fBest true | .min1 => fBest false
section
variable {X : Cx} {G : Gc} {W : WX} {a : Expr} {es : List Expr} {ml : LM} {p pos : Pos}
theorem ev_bi {k : Nat} (b : BI) (hr : Room k X.A) (hK : X.K = G.K) (hc : X.calm = true) (hg : Gl X b.name) (hm : X.mg b.name = none) (hs : noStar a = true) (hss : es.all noStar = true) (ha : AV X G W (a :: es) ml) : EV X G W (.Call (.Name b.name p) (a :: es) [] pos) (fun ρ st => (ml ρ st).bind b.den) := by
  have cK : ∀ {f : Value} {r : PySem.W.Frag → List V → Hp → VK → Prop}, CallR X f (r X.K) → CallR X f (r G.K) := fun {f r} h => by rw [← hK]; exact h
  cases b with
  | len => exact ev_callB (cK (r := fun K xs H Q => (∃ x n, xs = [x] ∧ LenV K x H n ∧ Q (.int n) H) ∨ ∃ a kvs, xs = [V.ref a] ∧ H a = some (.dK kvs) ∧ Q (.int kvs.length) H) cr_len) cd_len hg hm PySem.boot_len (by decide) (by decide) hs hss ha
  | list => exact ev_callTy (cK (r := fun K xs H Q => ∃ p ys, xs = [.ref p] ∧ (SqL K H p ys ∨ SqT K H p ys) ∧ ∀ l, H l = none → Q (.ref l) (upd H l (.lst ys))) call_list_of) cd_list hg hm (by decide +kernel) (by decide) (by decide) hs hss ha
  | listM => exact ev_callTy (cK (r := fun K xs H Q => ∃ p ys, xs = [.ref p] ∧ (SqL K H p ys ∨ SqT K H p ys) ∧ ∀ l, H l = none → Q (.ref l) (upd H l (.lst ys))) call_list_of) cd_listM hg hm (by decide +kernel) (by decide) (by decide) hs hss ha
  | tuple => exact ev_callTy (cK (r := fun K xs H Q => ∃ p ys, xs = [.ref p] ∧ ((SqL K H p ys ∧ ∀ l, H l = none → Q (.ref l) (upd H l (.tup ys))) ∨ (SqT K H p ys ∧ Q (.ref p) H))) call_tuple_of) cd_tuple hg hm (by decide +kernel) (by decide) (by decide) hs hss ha
  | all => exact ev_callB (cK (r := rAll) (cr_all hc)) cd_all hg hm (by decide +kernel) (by decide) (by decide) hs hss ha
  | any => exact ev_callB (cK (r := rAny) (cr_any hc)) cd_any hg hm (by decide +kernel) (by decide) (by decide) hs hss ha
  | sum => exact ev_callB (cK (r := rSum) (cr_sum hc)) cd_sum hg hm (by decide +kernel) (by decide) (by decide) hs hss ha
  | int => exact ev_callTy call_int1 cd_int hg hm (by decide +kernel) (by decide) (by decide) hs hss ha
  | str => exact ev_callTy call_str_int cd_str hg hm (by decide +kernel) (by decide) (by decide) hs hss ha
  | abs => exact ev_callB call_abs cd_abs hg hm (by decide +kernel) (by decide) (by decide) hs hss ha
  | max2 => exact ev_callB (call_max2 hc) cd_max2 hg hm (by decide +kernel) (by decide) (by decide) hs hss ha
  | min2 => exact ev_callB (call_min2 hc) cd_min2 hg hm (by decide +kernel) (by decide) (by decide) hs hss ha
  | sorted => exact ev_callB (CallR.or (cK (r := rSortedI) cr_sortedI) (cr_sortD hK hr)) cd_sortD hg hm (by decide +kernel) (by decide) (by decide) hs hss ha
  | max1 => exact ev_callB (cr_best true hK hr hc) (cd_best true) hg hm (by decide +kernel) (by decide) (by decide) hs hss ha
  | min1 => exact ev_callB (cr_best false hK hr hc) (cd_best false) hg hm (by decide +kernel) (by decide) (by decide) hs hss ha
end
end DL

set_option Elab.async false
set_option linter.all false
set_option maxRecDepth 100000
set_option maxHeartbeats 4000000
/-! DLk: a small syntax of mirrors, what it means, and the check that a text has it. -/
namespace DL
open PySem PySem.Spec PyProof.Rows L2
open Classical

inductive BO where
  | add | sub | mul | div | mod | pow
  deriving DecidableEq
inductive CO where
  | eq | ne | lt | le | gt | ge | in_ | nin | is_ | isn
  deriving DecidableEq
def BO.py : BO → Operator
  | .add => .Add | .sub => .Sub | .mul => .Mult | .div => .FloorDiv | .mod => .Mod | .pow => .Pow
def BO.f : BO → OF
  | .add => bAdd | .sub => bSub | .mul => bMul | .div => bDiv | .mod => bMod | .pow => bPow
def CO.py : CO → CmpOp
  | .eq => .Eq | .ne => .NotEq | .lt => .Lt | .le => .LtE | .gt => .Gt | .ge => .GtE | .in_ => .In | .nin => .NotIn | .is_ => .Is | .isn => .IsNot
def CO.f : CO → OF
  | .eq => bEq | .ne => bNe | .lt => bLt | .le => bLe | .gt => bGt | .ge => bGe | .in_ => bIn | .nin => bNotIn | .is_ => bIs | .isn => bIsNot
section
variable {X : Cx} {G : Gc}
theorem BO.ok (o : BO) (hK : X.K = G.K) : ∃ r, OpR X (binaryOp o.py) r ∧ OpD G r o.f := by
  cases o with
  | add => exact ⟨_, op_addA, by rw [hK]; exact od_add⟩
  | sub => exact ⟨_, op_sub, od_sub⟩
  | mul => exact ⟨_, op_mul, od_mul⟩
  | div => exact ⟨_, op_fdivW, od_div⟩
  | mod => exact ⟨_, op_mod, od_mod⟩
  | pow => exact ⟨_, op_pow, od_pow⟩
theorem CO.ok (o : CO) {k : Nat} (hr : Room k X.A) (hK : X.K = G.K) : ∃ r, OpR X (compareOp o.py) r ∧ OpD G r o.f := by
  cases o with
  | eq => exact ⟨_, op_eqD hr.units, by rw [hK]; exact od_eq⟩
  | ne => exact ⟨_, op_neD hr.units, by rw [hK]; exact od_ne⟩
  | lt => exact ⟨_, op_lt, od_lt⟩
  | le => exact ⟨_, op_le, od_le⟩
  | gt => exact ⟨_, op_gt, od_gt⟩
  | ge => exact ⟨_, op_ge, od_ge⟩
  | in_ => exact ⟨_, op_inA (hu_of hr), by rw [hK]; exact od_in⟩
  | nin => exact ⟨_, op_notInA (hu_of hr), by rw [hK]; exact od_in⟩
  | is_ => exact ⟨_, op_isN, od_is⟩
  | isn => exact ⟨_, op_notN, od_isnot⟩
end

/-! ### the syntax -/
inductive CE where
  | var (i : Nat) | glo (i : Nat) | non | bl (b : Bool) | int (i : Int) | str (x : Str)
  | bin (o : BO) (a b : CE) | neg (a : CE) | cmp (o : CO) (a b : CE) | chn (o o' : CO) (a b c : CE)
  | one (a : CE) | and_ (a b : CE) | or_ (a b : CE) | not_ (a : CE) | ite (c a b : CE)
  | nil | cons (a r : CE)
  | tup (es : CE) | lst (es : CE) | lstM (es : CE)
  | idx (a i : CE) | slc (a l h : CE) | pno | psm (a : CE)
  | fld (f : Str) (a : CE)
  | call (f : Nat) (es : CE) | meth (f : Nat) (o es : CE) | make (c : Nat) (es : CE) | makeF (c : Nat) (es : CE)
  | bi (b : BI) (es : CE)
  | cmpr (frz : Bool) (own : List Nat) (tg it cnd elt : CE)
  | rng1 (es : CE) | rng2 (es : CE)
  | isi (c : TN) (a : CE) | isiTL (a : CE) | sset (es : CE) | bestD (b : Bool) (a d : CE) | bm (b : BMt) (o es : CE)
def CE.cnt : CE → Nat
  | .cons _ r => r.cnt + 1
  | _ => 0
def CE.isNil : CE → Bool
  | .nil => true
  | _ => false
def ifsOk (n : Bool) (t : Expr → Bool) : List Expr → Bool
  | [] => n
  | [c] => !n && t c
  | _ => false
/-- the names of the text that a def asks: constants, defs, methods, classes; fields; built-ins that stand -/
structure Tab where
  glo : List (Str × T) := []
  fn : List (Str × Nat × List T) := []
  mt : List (Str × Str × Nat × List T) := []
  cn : List (Str × Nat × List T) := []
  fld : List Str := []
  free : List Str := []
def badF : MF := fun _ _ => .bad
structure Mir where
  fn : List MF := []
  mt : List MF := []
  cn : List MF := []
structure Den where
  e : EM := fun _ _ => .bad
  t : BM := fun _ _ => .bad
  l : LM := fun _ _ => .bad
  i : IM := fun _ _ => .bad
  g : GM := fun _ _ _ => .bad
  gs : List Wd → Ev → Sto → R Ev := fun _ _ _ => .bad
  p : PM := fun _ _ => .bad
def eBin (f : OF) (a b : EM) : EM := fun ρ st => (a ρ st).bind fun x st1 => (b ρ st1).bind fun y st2 => f x y st2
def tCmp (f : OF) (a b : EM) : BM := fun ρ st => (a ρ st).bind fun x st1 => (b ρ st1).bind fun y st2 => (f x y st2).bind asB
def eApp (l : LM) (f : List Wd → Sto → R Wd) : EM := fun ρ st => (l ρ st).bind f
def iOf (e : EM) : IM := fun ρ st => (e ρ st).bind fun w st1 => wIter st1 w
/-- a value, also as a test and as what is walked -/
def Den.of (e : EM) : Den := { e := e, t := tOf e, i := iOf e }
noncomputable def den (Tb : Tab) (M : Mir) : CE → Den
  | .var i => { Den.of (eVar i) with g := gNam i }
  | .glo i => Den.of (match Tb.glo[i]? with | some (_, t) => eT t | none => fun _ _ => .bad)
  | .non => Den.of (eT .non)
  | .bl b => Den.of (eT (.bl b))
  | .int i => Den.of (eT (.int i))
  | .str x => Den.of (eT (.str x))
  | .bin o a b => Den.of (eBin o.f (den Tb M a).e (den Tb M b).e)
  | .neg a => Den.of (eNeg (den Tb M a).e)
  | .cmp o a b => { Den.of (eBin o.f (den Tb M a).e (den Tb M b).e) with t := tCmp o.f (den Tb M a).e (den Tb M b).e }
  | .chn o o' a b c => Den.of (eChn o.f o'.f (den Tb M a).e (den Tb M b).e (den Tb M c).e)
  | .one a => { e := (den Tb M a).e, t := (den Tb M a).t }
  | .and_ a b => { e := eAnd (den Tb M a).e (den Tb M b).e, t := tAnd (den Tb M a).t (den Tb M b).t }
  | .or_ a b => { e := eOr (den Tb M a).e (den Tb M b).e, t := tOr (den Tb M a).t (den Tb M b).t }
  | .not_ a => { e := eNot (den Tb M a).e, t := tNot (den Tb M a).t }
  | .ite c a b => Den.of (eIte (den Tb M c).t (den Tb M a).e (den Tb M b).e)
  | .nil => { l := lNil, gs := gsNil }
  | .cons a r => { l := lCons (den Tb M a).e (den Tb M r).l, gs := gsCons (den Tb M a).g (den Tb M r).gs }
  | .tup es => { Den.of (eApp (den Tb M es).l mkTup) with g := gTp es.cnt (den Tb M es).gs }
  | .lst es => Den.of (eApp (den Tb M es).l mkLst)
  | .lstM es => Den.of (eApp (den Tb M es).l mkLstM)
  | .idx a i => Den.of (eBin bIdx (den Tb M a).e (den Tb M i).e)
  | .slc a l h => Den.of (eSlc (den Tb M a).e (den Tb M l).p (den Tb M h).p)
  | .pno => { p := pNone }
  | .psm a => { p := pSome (den Tb M a).e }
  | .fld f a => Den.of (eFld f (den Tb M a).e)
  | .call f es => Den.of (match Tb.fn[f]? with | some (_, _, d) => eApp (den Tb M es).l (fun ws st => (M.fn.getD f badF) (ws ++ d.map Wd.v) st) | none => fun _ _ => .bad)
  | .meth f o es => Den.of (match Tb.mt[f]? with | some (c, mn, _, d) => eMeth c mn (den Tb M o).e (den Tb M es).l d (M.mt.getD f badF) | none => fun _ _ => .bad)
  | .make c es => Den.of (match Tb.cn[c]? with | some (cn, _, d) => eApp (den Tb M es).l (fun ws st => mkIns cn (M.cn.getD c badF) (ws ++ d.map Wd.v) st) | none => fun _ _ => .bad)
  | .makeF c es => Den.of (match Tb.cn[c]? with | some (cn, _, d) => eApp (den Tb M es).l (fun ws st => mkInsF cn (M.cn.getD c badF) (ws ++ d.map Wd.v) st) | none => fun _ _ => .bad)
  | .bi b es => Den.of (eApp (den Tb M es).l b.den)
  | .cmpr frz own tg it cnd elt => Den.of (eCmp (den Tb M it).i (den Tb M tg).g (if cnd.isNil then bYes else (den Tb M cnd).t) (den Tb M elt).e own (if frz then frzL else ownL))
  | .rng1 es => { i := fun ρ st => ((den Tb M es).l ρ st).bind wRng1 }
  | .rng2 es => { i := fun ρ st => ((den Tb M es).l ρ st).bind wRng2 }
  | .isi c a => Den.of (fun ρ st => ((den Tb M a).e ρ st).bind fun w st1 => fIsi c w st1)
  | .isiTL a => Den.of (fun ρ st => ((den Tb M a).e ρ st).bind fun w st1 => fIsiTL w st1)
  | .sset es => Den.of (eApp (den Tb M es).l fSSet)
  | .bestD b a d => Den.of (fun ρ st => ((den Tb M a).e ρ st).bind fun x st1 => ((den Tb M d).e ρ st1).bind fun y st2 => fBestD b [x, y] st2)
  | .bm b o es => Den.of (eBm b.T b.f (den Tb M o).e (den Tb M es).l)

/-! ### the check -/
structure Sc where
  sc : Scope
  all : Bool
def okName (x : Str) : Bool := !(x == ("__debug__" : Str)) && !(x == ("__classdict__" : Str)) && !(x == ("__name__" : Str))
def visB (sc : Scope) (x : Str) : Bool := sc.names.lookup x == some .local || sc.names.lookup x == some .cell || sc.names.lookup x == some .free
def locB (s : Sc) (x : Str) : Bool := (s.sc.names.lookup x == some .local || s.sc.names.lookup x == some .cell) && (s.all || s.sc.names.lookup x == some .local)
def glB (sc : Scope) (x : Str) : Bool := sc.names.lookup x == some .globalImplicit
/-- a test that is a value's truth -/
def plainT : Expr → Bool
  | .UnaryOp .Not _ _ => false
  | .BoolOp .. => false
  | .IfExp .. => false
  | .Compare .. => false
  | _ => true
def noSup : Expr → Bool
  | .Call _ [] [] _ => false
  | _ => true
structure Chk where
  e : Sc → Expr → Bool := fun _ _ => false
  t : Sc → Expr → Bool := fun _ _ => false
  l : Sc → List Expr → Bool := fun _ _ => false
  i : Sc → Expr → Bool := fun _ _ => false
  g : Sc → List Nat → Expr → Bool := fun _ _ _ => false
  gs : Sc → List Nat → List Expr → Bool := fun _ _ _ => false
  p : Sc → Option Expr → Bool := fun _ _ => false
def Chk.of (e : Sc → Expr → Bool) : Chk := { e := e, t := fun s x => plainT x && e s x, i := fun s x => noStar x && e s x }
def isCall (s : Sc) (x : Str) (l : Sc → List Expr → Bool) : Expr → Bool
  | .Call (.Name y _) es [] _ => y == x && okName x && glB s.sc x && es.all noStar && l s es
  | _ => false
def chk (Tb : Tab) (N : List Str) : CE → Chk
  | .var i => { Chk.of (fun s e => match e with | .Name x _ => N[i]? == some x && visB s.sc x && okName x | _ => false) with
      g := fun s vs e => match e with | .Name x _ => N[i]? == some x && locB s x && vs.contains i | _ => false }
  | .glo i => Chk.of fun s e => match e, Tb.glo[i]? with | .Name x _, some (y, _) => x == y && glB s.sc x && okName x | _, _ => false
  | .non => Chk.of fun _ e => match e with | .Constant .none _ _ => true | _ => false
  | .bl b => Chk.of fun _ e => match e with | .Constant (.bool c) _ _ => b == c | _ => false
  | .int i => Chk.of fun _ e => match e with | .Constant (.int j) _ _ => i == j | _ => false
  | .str x => Chk.of fun _ e => match e with | .Constant (.str y) _ _ => x == y | _ => false
  | .bin o a b => Chk.of fun s e => match e with | .BinOp x op y _ => op == o.py && (chk Tb N a).e s x && (chk Tb N b).e s y | _ => false
  | .neg a => Chk.of fun s e => match e with | .UnaryOp .USub x _ => (chk Tb N a).e s x | _ => false
  | .cmp o a b => let f := fun s e => match e with | .Compare x [op] [y] _ => op == o.py && noStar y && (chk Tb N a).e s x && (chk Tb N b).e s y | _ => false
      { e := f, t := f }
  | .chn o o' a b c => let f := fun s e => match e with | .Compare x [op, op'] [y, z] _ => op == o.py && op' == o'.py && noStar z && (chk Tb N a).e s x && (chk Tb N b).e s y && (chk Tb N c).e s z | _ => false
      { e := f, t := f }
  | .one a => { e := fun s e => match e with | .BoolOp _ [x] _ => (chk Tb N a).e s x | _ => false, t := fun s e => match e with | .BoolOp _ [x] _ => (chk Tb N a).t s x | _ => false }
  | .and_ a b => { e := fun s e => match e with | .BoolOp .And (x :: y :: r) p => (chk Tb N a).e s x && (chk Tb N b).e s (.BoolOp .And (y :: r) p) | _ => false, t := fun s e => match e with | .BoolOp .And (x :: y :: r) p => (chk Tb N a).t s x && (chk Tb N b).t s (.BoolOp .And (y :: r) p) | _ => false }
  | .or_ a b => { e := fun s e => match e with | .BoolOp .Or (x :: y :: r) p => (chk Tb N a).e s x && (chk Tb N b).e s (.BoolOp .Or (y :: r) p) | _ => false, t := fun s e => match e with | .BoolOp .Or (x :: y :: r) p => (chk Tb N a).t s x && (chk Tb N b).t s (.BoolOp .Or (y :: r) p) | _ => false }
  | .not_ a => { e := fun s e => match e with | .UnaryOp .Not x _ => (chk Tb N a).e s x | _ => false, t := fun s e => match e with | .UnaryOp .Not x _ => (chk Tb N a).t s x | _ => false }
  | .ite c a b => { e := fun s e => match e with | .IfExp z x y _ => (chk Tb N c).t s z && (chk Tb N a).e s x && (chk Tb N b).e s y | _ => false, i := fun s e => match e with | .IfExp z x y _ => (chk Tb N c).t s z && (chk Tb N a).e s x && (chk Tb N b).e s y | _ => false }
  | .nil => { l := fun _ es => es.isEmpty, gs := fun _ _ es => es.isEmpty }
  | .cons a r => { l := fun s es => match es with | x :: xs => noStar x && (chk Tb N a).e s x && (chk Tb N r).l s xs | [] => false, gs := fun s vs es => match es with | x :: xs => noStar x && (chk Tb N a).g s vs x && (chk Tb N r).gs s vs xs | [] => false }
  | .tup es => { Chk.of (fun s e => match e with | .Tuple xs _ _ => (chk Tb N es).l s xs | _ => false) with g := fun s vs e => match e with | .Tuple xs _ _ => xs.all noStar && (chk Tb N es).gs s vs xs | _ => false }
  | .lst es => Chk.of fun s e => match e with | .List xs _ => (chk Tb N es).l s xs | _ => false
  | .lstM es => Chk.of fun s e => match e with | .List xs _ => (chk Tb N es).l s xs | _ => false
  | .idx a i => Chk.of fun s e => match e with | .Subscript x y _ => noStar y && (chk Tb N a).e s x && (chk Tb N i).e s y | _ => false
  | .slc a l h => Chk.of fun s e => match e with | .Subscript x (.Slice lo hi none _) _ => (chk Tb N a).e s x && (chk Tb N l).p s lo && (chk Tb N h).p s hi | _ => false
  | .pno => { p := fun _ e => e.isNone }
  | .psm a => { p := fun s e => match e with | some x => (chk Tb N a).e s x | none => false }
  | .fld f a => Chk.of fun s e => match e with | .Attribute x g _ => g == f && Tb.fld.contains f && noSup x && (chk Tb N a).e s x | _ => false
  | .call f es => Chk.of fun s e => match Tb.fn[f]? with | some (x, _, _) => isCall s x (chk Tb N es).l e | none => false
  | .meth f o es => Chk.of fun s e => match Tb.mt[f]?, e with | some (_, mn, _, _), .Call (.Attribute x y ap) xs [] cp => y == mn && noSup x && (ap.endLine == cp.line) && xs.all noStar && decide (xs.length < 30) && (chk Tb N o).e s x && (chk Tb N es).l s xs | _, _ => false
  | .make c es => Chk.of fun s e => match Tb.cn[c]? with | some (x, _, _) => isCall s x (chk Tb N es).l e | none => false
  | .makeF c es => Chk.of fun s e => match Tb.cn[c]? with | some (x, _, _) => isCall s x (chk Tb N es).l e | none => false
  | .bi b es => Chk.of fun s e => match e with | .Call _ (_ :: _) _ _ => Tb.free.contains b.name && isCall s b.name (chk Tb N es).l e | _ => false
  | .cmpr _ own tg it cnd elt => Chk.of fun s e => match e with
    | .ListComp elt' [⟨tg', it', ifs, 0⟩] scope _ => blkC N s.sc scope (own.map fun i => (N.getD i Str.empty, i)) && noStar it' && (chk Tb N it).i s it' && (chk Tb N tg).g ⟨relS scope s.sc, false⟩ own tg' &&
        ifsOk cnd.isNil ((chk Tb N cnd).t ⟨relS scope s.sc, false⟩) ifs && (chk Tb N elt).e ⟨relS scope s.sc, false⟩ elt'
    | _ => false
  | .rng1 es => { i := fun s e => match e with | .Call _ [_] _ _ => Tb.free.contains ("range" : Str) && isCall s "range" (chk Tb N es).l e | _ => false }
  | .rng2 es => { i := fun s e => match e with | .Call _ [_, _] _ _ => Tb.free.contains ("range" : Str) && isCall s "range" (chk Tb N es).l e | _ => false }
  | .isi c a => Chk.of fun s e => match e with | .Call (.Name f _) [x, .Name y _] [] _ => f == ("isinstance" : Str) && y == c.x && noStar x && glB s.sc f && glB s.sc y && Tb.free.contains f && Tb.free.contains y && (chk Tb N a).e s x | _ => false
  | .isiTL a => Chk.of fun s e => match e with | .Call (.Name f _) [x, .Tuple [.Name y _, .Name z _] _ _] [] _ => f == ("isinstance" : Str) && y == TN.tuple.x && z == TN.list.x && noStar x && glB s.sc f && glB s.sc y && glB s.sc z && Tb.free.contains f && Tb.free.contains y && Tb.free.contains z && (chk Tb N a).e s x | _ => false
  | .sset es => Chk.of fun s e => match e with | .Call (.Name f _) [.Call (.Name g _) [x] [] _] [] _ => f == ("sorted" : Str) && g == ("set" : Str) && noStar x && glB s.sc f && glB s.sc g && Tb.free.contains f && Tb.free.contains g && (chk Tb N es).l s [x] | _ => false
  | .bestD b a d => Chk.of fun s e => match e with | .Call (.Name f _) [x] [⟨some k, y, _⟩] _ => f == Str.ofString (bestN b) && k == Str.ofString "default" && noStar x && glB s.sc f && Tb.free.contains f && (chk Tb N a).e s x && (chk Tb N d).e s y | _ => false
  | .bm b o es => Chk.of fun s e => match e with | .Call (.Attribute x m ap) xs [] cp => m == b.name && noSup x && (ap.endLine == cp.line) && xs.all noStar && decide (xs.length < 30) && (xs.isEmpty == b.zero) && (chk Tb N o).e s x && (chk Tb N es).l s xs | _ => false
end DL

set_option Elab.async false
set_option linter.all false
set_option maxRecDepth 100000
set_option maxHeartbeats 4000000
/-! DLl: what is checked is so: expressions. -/
namespace DL
open PySem PySem.Spec PyProof.Rows L2
open Classical

structure Par where
  P : Program
  w : World
  K : PySem.W.Frag
  mg : Str → Option Value
  base : Heap
  G : Gc
  k : Nat
/-- the table's names stand as it says -/
structure TabOk (p : Par) (Tb : Tab) (M : Mir) : Prop where
  GK : p.G.K = p.K
  glo : ∀ (i : Nat) x t, Tb.glo[i]? = some (x, t) → ∃ u v, p.mg x = some u ∧ RelV v u ∧ ∀ ι H, Rep p.G ι H t v
  fn : ∀ (i : Nat) x n d, Tb.fn[i]? = some (x, n, d) → FnE p.P p.w p.K p.mg p.base p.G p.k x n d (M.fn.getD i badF)
  mt : ∀ (i : Nat) c mn n d, Tb.mt[i]? = some (c, mn, n, d) → MtE p.P p.w p.K p.mg p.base p.G p.k c mn n d (M.mt.getD i badF)
  cn : ∀ (i : Nat) c n d, Tb.cn[i]? = some (c, n, d) → ∃ k', k' + 1 ≤ p.k ∧ MkE p.P p.w p.K p.mg p.base p.G k' c n d (M.cn.getD i badF)
  fld : ∀ f, Tb.fld.contains f = true → ClsOk p.G.K p.G f
  free : ∀ x, Tb.free.contains x = true → p.mg x = none
structure ECx (X : Cx) (p : Par) (N : List Str) (s : Sc) (W : WX) : Prop where
  prog : X.prog = p.P
  w : X.w = p.w
  K : X.K = p.K
  mg : X.mg = p.mg
  base : X.base = p.base
  nm : X.N = N
  nd : N.Nodup
  sc : X.env.scope = s.sc
  calm : X.calm = true
  room : Room p.k X.A
  tk : Takes X W
  fn : s.all = true → ∀ x, X.fn x = true
section
variable {p : Par} {Tb : Tab} {M : Mir} {N : List Str}
theorem ECx.XK {X : Cx} {s : Sc} {W : WX} (c : ECx X p N s W) (t : TabOk p Tb M) : X.K = p.G.K := c.K.trans t.GK.symm
theorem ECx.blk {X : Cx} {s : Sc} {W : WX} (c : ECx X p N s W) (sh : Shared) (H : Hp) (scope : Scope) (C : Addr) (cl : List (Str × Addr)) (fp : List Addr) : ECx (X.blk sh H scope (compEnvC scope cl C X.env) fp) p N ⟨relS scope s.sc, false⟩ W0 :=
  ⟨c.prog, c.w, c.K, c.mg, c.base, c.nm, c.nd, by rw [← c.sc]; rfl, c.calm, c.room, takes0, fun h => nomatch h⟩
theorem visB_ok {X : Cx} {s : Sc} {W : WX} (c : ECx X p N s W) {x : Str} (h : visB s.sc x = true) : Vis X.env.scope x := by
  unfold visB at h
  rw [← c.sc] at h
  simp only [Bool.or_eq_true, beq_iff_eq] at h
  rcases h with (h | h) | h
  · exact .inl h
  · exact .inr (.inl h)
  · exact .inr (.inr h)
theorem locB_ok {X : Cx} {s : Sc} {W : WX} (c : ECx X p N s W) {x : Str} (h : locB s x = true) : Loc X.env.scope x ∧ (X.fn x = true ∨ X.env.scope.names.lookup x = some .local) := by
  unfold locB at h
  simp only [Bool.and_eq_true, Bool.or_eq_true, beq_iff_eq] at h
  refine ⟨?_, ?_⟩
  · rw [c.sc]
    rcases h.1 with h | h
    · exact .inl h
    · exact .inr h
  · rw [c.sc]
    rcases h.2 with h | h
    · exact .inl (c.fn h x)
    · exact .inr h
theorem glB_ok {X : Cx} {s : Sc} {W : WX} (c : ECx X p N s W) {x : Str} (h : glB s.sc x = true) : Gl X x := by
  unfold glB at h
  rw [← c.sc] at h
  exact beq_iff_eq.mp h
theorem okName_ok {x : Str} (h : okName x = true) : (x == ("__debug__" : Str)) = false ∧ (x == ("__classdict__" : Str)) = false := by
  unfold okName at h
  simp only [Bool.and_eq_true, Bool.not_eq_true'] at h
  exact ⟨h.1.1, h.1.2⟩
theorem plainT_ok {e : Expr} {env : Env} (h : plainT e = true) : ∀ whole, isTrue e env whole = (do let v ← whole; standAt e.pos; holding [v] (truthy v)) := by
  intro whole
  cases e with
  | UnaryOp op x q => cases op <;> first | rfl | (cases h)
  | BoolOp _ _ _ => cases h
  | IfExp _ _ _ _ => cases h
  | Compare _ _ _ _ => cases h
  | _ => rfl
theorem noSup_ok {e : Expr} {f : Str} {env : Env} (h : noSup e = true) : attributeBase e f env (eval e env) = eval e env := by
  apply base_plain
  cases e with
  | Call fn as kw q =>
    cases as with
    | nil => cases kw with
      | nil => cases h
      | cons _ _ => rfl
    | cons _ _ => rfl
  | _ => rfl

structure Snd (p : Par) (Tb : Tab) (M : Mir) (N : List Str) (d : Den) (c : Chk) : Prop where
  e : ∀ X s W, ECx X p N s W → ∀ x, c.e s x = true → EV X p.G W x d.e
  t : ∀ X s W, ECx X p N s W → ∀ x, c.t s x = true → TV X p.G W x d.t
  l : ∀ X s W, ECx X p N s W → ∀ x, c.l s x = true → AV X p.G W x d.l
  i : ∀ X s W, ECx X p N s W → ∀ x tg, c.i s x = true → IV X p.G W tg x d.i
  g : ∀ X s W, ECx X p N s W → ∀ vs x, c.g s vs x = true → GV X p.G vs x d.g
  gs : ∀ X s W, ECx X p N s W → ∀ vs x, c.gs s vs x = true → GVs X p.G vs x d.gs
  o : ∀ X s W, ECx X p N s W → ∀ x, c.p s x = true → OV X p.G W x d.p
  w : ∀ X s W, ECx X p N s W → ∀ op vs pos, c.t s (.BoolOp op vs pos) = true → WV X p.G W (.BoolOp op vs pos) d.t
/-- what is nothing but a value -/
theorem Snd.of {f : Sc → Expr → Bool} {m : EM} (t : TabOk p Tb M) (h : ∀ X s W, ECx X p N s W → ∀ x, f s x = true → EV X p.G W x m) : Snd p Tb M N (Den.of m) (Chk.of f) where
  e := h
  t := fun X s W c x k => by
    have k : (plainT x && f s x) = true := k
    simp only [Bool.and_eq_true] at k
    exact tv_val (h X s W c x k.2) (plainT_ok k.1)
  l := fun _ _ _ _ _ k => nomatch k
  i := fun X s W c x tg k => by
    have k : (noStar x && f s x) = true := k
    simp only [Bool.and_eq_true] at k
    exact iv_expr (c.XK t) (h X s W c x k.2)
  g := fun _ _ _ _ _ _ k => nomatch k
  gs := fun _ _ _ _ _ _ k => nomatch k
  o := fun _ _ _ _ _ k => nomatch k
  w := fun X s W c op vs pos k => by
    have k : (false && f s (.BoolOp op vs pos)) = true := k
    cases k
theorem isCall_ok {s : Sc} {x : Str} {l : Sc → List Expr → Bool} {e : Expr} (h : isCall s x l e = true) : ∃ q es pos, e = .Call (.Name x q) es [] pos ∧ okName x = true ∧ glB s.sc x = true ∧ es.all noStar = true ∧ l s es = true := by
  unfold isCall at h
  split at h
  · rename_i y q es pos
    simp only [Bool.and_eq_true, beq_iff_eq] at h
    obtain ⟨⟨⟨⟨rfl, h1⟩, h2⟩, h3⟩, h4⟩ := h
    exact ⟨q, es, pos, rfl, h1, h2, h3, h4⟩
  · cases h
theorem cnt_ok : ∀ (c : CE) (s : Sc) (vs : List Nat) (xs : List Expr), (chk Tb N c).gs s vs xs = true → xs.length = c.cnt
  | .nil, s, vs, xs, h => by
    have h : xs.isEmpty = true := h
    cases xs with
    | nil => rfl
    | cons _ _ => cases h
  | .cons a r, s, vs, xs, h => by
    cases xs with
    | nil => exact absurd (show false = true from h) (by decide)
    | cons x xs =>
      have h : (noStar x && (chk Tb N a).g s vs x && (chk Tb N r).gs s vs xs) = true := h
      simp only [Bool.and_eq_true] at h
      have := cnt_ok r s vs xs h.2
      show xs.length + 1 = r.cnt + 1
      rw [this]
  | .var _, _, _, _, h => by cases h
  | .glo _, _, _, _, h => by cases h
  | .non, _, _, _, h => by cases h
  | .bl _, _, _, _, h => by cases h
  | .int _, _, _, _, h => by cases h
  | .str _, _, _, _, h => by cases h
  | .bin _ _ _, _, _, _, h => by cases h
  | .neg _, _, _, _, h => by cases h
  | .cmp _ _ _, _, _, _, h => by cases h
  | .chn _ _ _ _ _, _, _, _, h => by cases h
  | .one _, _, _, _, h => by cases h
  | .and_ _ _, _, _, _, h => by cases h
  | .or_ _ _, _, _, _, h => by cases h
  | .not_ _, _, _, _, h => by cases h
  | .ite _ _ _, _, _, _, h => by cases h
  | .tup _, _, _, _, h => by cases h
  | .lst _, _, _, _, h => by cases h
  | .lstM _, _, _, _, h => by cases h
  | .idx _ _, _, _, _, h => by cases h
  | .slc _ _ _, _, _, _, h => by cases h
  | .pno, _, _, _, h => by cases h
  | .psm _, _, _, _, h => by cases h
  | .fld _ _, _, _, _, h => by cases h
  | .call _ _, _, _, _, h => by cases h
  | .meth _ _ _, _, _, _, h => by cases h
  | .make _ _, _, _, _, h => by cases h
  | .makeF _ _, _, _, _, h => by cases h
  | .bi _ _, _, _, _, h => by cases h
  | .cmpr _ _ _ _ _ _, _, _, _, h => by cases h
  | .rng1 _, _, _, _, h => by cases h
  | .rng2 _, _, _, _, h => by cases h
/-- an if-expression that is walked -/
theorem iv_noStar {X : Cx} {G : Gc} {W : WX} {tg x : Expr} {m : EM} (hK : X.K = G.K) (h : EV X G W x m) : IV X G W tg x (iOf m) := iv_expr hK h
theorem av_nil' {X : Cx} {G : Gc} {W : WX} {xs : List Expr} (h : xs.isEmpty = true) : AV X G W xs lNil := by
  cases xs with
  | nil => exact av_nil
  | cons _ _ => cases h

/-- a comprehension, as a value and as a store -/
theorem cmpr_ok (t : TabOk p Tb M) {frz : Bool} {own : List Nat} {tg it cnd elt : CE} {X : Cx} {s : Sc} {W : WX} (c : ECx X p N s W) (ihg : Snd p Tb M N (den Tb M tg) (chk Tb N tg)) (ihi : Snd p Tb M N (den Tb M it) (chk Tb N it)) (ihc : Snd p Tb M N (den Tb M cnd) (chk Tb N cnd)) (ihe : Snd p Tb M N (den Tb M elt) (chk Tb N elt))
    {x : Expr} (k : (chk Tb N (.cmpr frz own tg it cnd elt)).e s x = true) :
    ∃ tt, (PE X x tt ∧ (∀ (i : Nat) (y : Str) (py spos : Pos) (hy : X.N[i]? = some y) (hyl : X.env.scope.names.lookup y = some .local) (hsw : swapsWith x (some (.Name y py)) spos.line X.env = pure true), PS X (.Assign [.Name y py] x spos) (tAsg tt (L2.gName i)))) ∧
      ∀ ρ st σ ι H Q, RelS p.G ι st H → RelE p.G ι H ρ σ → Post p.G W σ ι H ((den Tb M (.cmpr frz own tg it cnd elt)).e ρ st) Q → tt σ H Q := by
  have k : (fun e : Expr => match e with
    | .ListComp elt' [⟨tg', it', ifs, 0⟩] scope _ => blkC N s.sc scope (own.map fun i => (N.getD i Str.empty, i)) && noStar it' && (chk Tb N it).i s it' && (chk Tb N tg).g ⟨relS scope s.sc, false⟩ own tg' &&
        ifsOk cnd.isNil ((chk Tb N cnd).t ⟨relS scope s.sc, false⟩) ifs && (chk Tb N elt).e ⟨relS scope s.sc, false⟩ elt'
    | _ => false) x = true := k
  dsimp only at k
  split at k
  · rename_i elt' tg' it' ifs scope pos _
    simp only [Bool.and_eq_true] at k
    obtain ⟨⟨⟨⟨⟨h1, h2⟩, h3⟩, h4⟩, h5⟩, h6⟩ := k
    have hb : BlkOk X.N X.env.scope scope (own.map fun i => (N.getD i Str.empty, i)) := by
      rw [c.nm, c.sc]
      exact blkOk_by h1
    have hown : (own.map fun i => (N.getD i Str.empty, i)).map (·.2) = own := by rw [List.map_map]; exact List.map_id _
    have fo : FinOk p.G (if frz then frzL else ownL) := by
      cases frz with
      | true => exact fin_frz
      | false => exact fin_own
    have ht : (ifs = [] ∧ (if cnd.isNil then bYes else (den Tb M cnd).t) = bYes) ∨ ∃ c0, ifs = [c0] ∧ ∀ (sh : Shared) (H : Hp) (C : Addr) (cl : List (Str × Addr)) (fp : List Addr), TV (X.blk sh H scope (compEnvC scope cl C X.env) fp) p.G W0 c0 (if cnd.isNil then bYes else (den Tb M cnd).t) := by
      cases hn : cnd.isNil with
      | true =>
        rw [hn] at h5
        cases ifs with
        | nil => exact .inl ⟨rfl, rfl⟩
        | cons _ r => cases r <;> cases h5
      | false =>
        rw [hn] at h5
        cases ifs with
        | nil => cases h5
        | cons c0 r =>
          cases r with
          | cons _ _ => cases h5
          | nil => exact .inr ⟨c0, rfl, fun sh H C cl fp => ihc.t _ _ _ (c.blk sh H scope C cl fp) _ h5⟩
    have z := ev_cmp_list (own := own.map fun i => (N.getD i Str.empty, i)) (pos := pos) (mi := (den Tb M it).i) (W := W) fo c.calm (by rw [c.nm]; exact c.nd) (ihi.i X s W c _ tg' h3) hb
      (fun sh H C cl fp => by rw [hown]; exact ihg.g _ _ _ (c.blk sh H scope C cl fp) _ _ h4) ht (fun sh H C cl fp => ihe.e _ _ _ (c.blk sh H scope C cl fp) _ h6) h2
    rw [hown] at z
    exact z
  · cases k
theorem snd (t : TabOk p Tb M) : ∀ c : CE, Snd p Tb M N (den Tb M c) (chk Tb N c) := by
  intro c
  induction c with
  | var i =>
    refine { Snd.of t (f := fun s e => match e with | .Name x _ => N[i]? == some x && visB s.sc x && okName x | _ => false) (m := eVar i) (fun X s W c x k => ?_) with g := fun X s W c vs x k => ?_, gs := fun _ _ _ _ _ _ k => (nomatch k) }
    · split at k
      · rename_i y pos
        simp only [Bool.and_eq_true, beq_iff_eq] at k
        have n := okName_ok k.2
        exact ev_var (by rw [c.nm]; exact k.1.1) (visB_ok c k.1.2) n.1 n.2
      · cases k
    · have k : (fun e : Expr => match e with | .Name x _ => N[i]? == some x && locB s x && vs.contains i | _ => false) x = true := k
      dsimp only at k
      split at k
      · rename_i y pos
        simp only [Bool.and_eq_true, beq_iff_eq] at k
        have n := locB_ok c k.1.2
        exact gv_name (by rw [c.nm]; exact c.nd) (by rw [c.nm]; exact k.1.1) n.1 n.2 (by simpa using k.2)
      · cases k
  | glo i =>
    refine Snd.of t fun X s W c x k => ?_
    split at k
    · rename_i y pos z tt e
      simp only [Bool.and_eq_true, beq_iff_eq] at k
      obtain ⟨⟨rfl, h2⟩, h3⟩ := k
      obtain ⟨u, v, h4, h5, h6⟩ := t.glo i _ _ e
      rw [e]
      exact ev_glob (glB_ok c h2) (by rw [c.mg]; exact h4) h5 h6 (okName_ok h3).1
    · cases k
  | non =>
    refine Snd.of t fun X s W c x k => ?_
    split at k
    · exact ev_non
    · cases k
  | bl b =>
    refine Snd.of t fun X s W c x k => ?_
    split at k
    · rw [beq_iff_eq] at k; subst k; exact ev_bl
    · cases k
  | int i =>
    refine Snd.of t fun X s W c x k => ?_
    split at k
    · rw [beq_iff_eq] at k; subst k; exact ev_int
    · cases k
  | str z =>
    refine Snd.of t fun X s W c x k => ?_
    split at k
    · rw [beq_iff_eq] at k; subst k; exact ev_str
    · cases k
  | bin o a b iha ihb =>
    refine Snd.of t fun X s W c x k => ?_
    split at k
    · simp only [Bool.and_eq_true, beq_iff_eq] at k
      obtain ⟨⟨rfl, h1⟩, h2⟩ := k
      obtain ⟨r, h3, h4⟩ := BO.ok (X := X) (G := p.G) o (c.XK t)
      exact ev_bin h3 h4 (iha.e X s W c _ h1) (ihb.e X s W c _ h2)
    · cases k
  | neg a iha =>
    refine Snd.of t fun X s W c x k => ?_
    split at k
    · exact ev_neg (iha.e X s W c _ k)
    · cases k
  | cmp o a b iha ihb =>
    have fe : ∀ X s W, ECx X p N s W → ∀ x, (chk Tb N (.cmp o a b)).e s x = true → ∃ y z pos, x = .Compare y [o.py] [z] pos ∧ noStar z = true ∧ (chk Tb N a).e s y = true ∧ (chk Tb N b).e s z = true := fun X s W c x k => by
      have k : (fun e : Expr => match e with | .Compare x [op] [y] _ => op == o.py && noStar y && (chk Tb N a).e s x && (chk Tb N b).e s y | _ => false) x = true := k
      dsimp only at k
      split at k
      · simp only [Bool.and_eq_true, beq_iff_eq] at k
        obtain ⟨⟨⟨rfl, h1⟩, h2⟩, h3⟩ := k
        exact ⟨_, _, _, rfl, h1, h2, h3⟩
      · cases k
    have ev : ∀ X s W, ECx X p N s W → ∀ x, (chk Tb N (.cmp o a b)).e s x = true → EV X p.G W x (eBin o.f (den Tb M a).e (den Tb M b).e) := fun X s W c x k => by
      obtain ⟨y, z, pos, rfl, h1, h2, h3⟩ := fe X s W c x k
      obtain ⟨r, h5, h4⟩ := CO.ok (X := X) (G := p.G) o c.room (c.XK t)
      exact ev_cmp h5 h4 (iha.e X s W c _ h2) (ihb.e X s W c _ h3) (behind_plain h1)
    refine { e := ev, t := fun X s W c x k => ?_, l := fun _ _ _ _ _ k => (nomatch k), i := fun _ _ _ _ _ _ k => (nomatch k), g := fun _ _ _ _ _ _ k => (nomatch k), gs := fun _ _ _ _ _ _ k => (nomatch k), o := fun _ _ _ _ _ k => (nomatch k), w := fun _ _ _ _ _ _ _ k => (nomatch k) }
    obtain ⟨y, z, pos, rfl, h1, h2, h3⟩ := fe X s W c x k
    obtain ⟨r, h5, h4⟩ := CO.ok (X := X) (G := p.G) o c.room (c.XK t)
    exact tv_cmp h5 h4 (iha.e X s W c _ h2) (ihb.e X s W c _ h3) (behind_plain h1)
  | chn o o' a b d iha ihb ihd =>
    have fe : ∀ X s W, ECx X p N s W → ∀ x, (chk Tb N (.chn o o' a b d)).e s x = true → ∃ y z u pos, x = .Compare y [o.py, o'.py] [z, u] pos ∧ noStar u = true ∧ (chk Tb N a).e s y = true ∧ (chk Tb N b).e s z = true ∧ (chk Tb N d).e s u = true := fun X s W c x k => by
      have k : (fun e : Expr => match e with | .Compare x [op, op'] [y, z] _ => op == o.py && op' == o'.py && noStar z && (chk Tb N a).e s x && (chk Tb N b).e s y && (chk Tb N d).e s z | _ => false) x = true := k
      dsimp only at k
      split at k
      · simp only [Bool.and_eq_true, beq_iff_eq] at k
        obtain ⟨⟨⟨⟨⟨rfl, rfl⟩, h1⟩, h2⟩, h3⟩, h4⟩ := k
        exact ⟨_, _, _, _, rfl, h1, h2, h3, h4⟩
      · cases k
    refine { e := fun X s W c x k => ?_, t := fun X s W c x k => ?_, l := fun _ _ _ _ _ k => (nomatch k), i := fun _ _ _ _ _ _ k => (nomatch k), g := fun _ _ _ _ _ _ k => (nomatch k), gs := fun _ _ _ _ _ _ k => (nomatch k), o := fun _ _ _ _ _ k => (nomatch k), w := fun _ _ _ _ _ _ _ k => (nomatch k) }
    · obtain ⟨y, z, u, pos, rfl, h1, h2, h3, h4⟩ := fe X s W c x k
      obtain ⟨r, h5, h6⟩ := CO.ok (X := X) (G := p.G) o c.room (c.XK t)
      obtain ⟨r', h7, h8⟩ := CO.ok (X := X) (G := p.G) o' c.room (c.XK t)
      exact ev_chn h5 h7 h6 h8 (iha.e X s W c _ h2) (ihb.e X s W c _ h3) (ihd.e X s W c _ h4) h1
    · obtain ⟨y, z, u, pos, rfl, h1, h2, h3, h4⟩ := fe X s W c x k
      obtain ⟨r, h5, h6⟩ := CO.ok (X := X) (G := p.G) o c.room (c.XK t)
      obtain ⟨r', h7, h8⟩ := CO.ok (X := X) (G := p.G) o' c.room (c.XK t)
      exact tv_chn h5 h7 h6 h8 (iha.e X s W c _ h2) (ihb.e X s W c _ h3) (ihd.e X s W c _ h4) h1
  | one a iha =>
    have w : ∀ X s W, ECx X p N s W → ∀ op vs pos, (chk Tb N (.one a)).t s (.BoolOp op vs pos) = true → WV X p.G W (.BoolOp op vs pos) (den Tb M (.one a)).t := fun X s W c op vs pos k => by
      cases vs with
      | nil => cases k
      | cons y ys => cases ys with
        | nil =>
          cases op with
          | And => exact wv_and1 (iha.t X s W c _ k)
          | Or => exact wv_or1 (iha.t X s W c _ k)
        | cons _ _ => cases k
    refine { e := fun X s W c x k => ?_, t := fun X s W c x k => ?_, l := fun _ _ _ _ _ k => (nomatch k), i := fun _ _ _ _ _ _ k => (nomatch k), g := fun _ _ _ _ _ _ k => (nomatch k), gs := fun _ _ _ _ _ _ k => (nomatch k), o := fun _ _ _ _ _ k => (nomatch k), w := w }
    · have k : (fun e : Expr => match e with | .BoolOp _ [x] _ => (chk Tb N a).e s x | _ => false) x = true := k
      dsimp only at k
      split at k
      · exact ev_one (iha.e X s W c _ k)
      · cases k
    · cases x with
      | BoolOp op vs pos => exact (w X s W c op vs pos k).tv
      | _ => cases k
  | and_ a b iha ihb =>
    have w : ∀ X s W, ECx X p N s W → ∀ op vs pos, (chk Tb N (.and_ a b)).t s (.BoolOp op vs pos) = true → WV X p.G W (.BoolOp op vs pos) (den Tb M (.and_ a b)).t := fun X s W c op vs pos k => by
      cases vs with
      | nil => cases op <;> cases k
      | cons y ys => cases ys with
        | nil => cases op <;> cases k
        | cons z zs => cases op with
          | And =>
            have k : ((chk Tb N a).t s y && (chk Tb N b).t s (.BoolOp .And (z :: zs) pos)) = true := k
            simp only [Bool.and_eq_true] at k
            exact wv_and (iha.t X s W c _ k.1) (ihb.w X s W c _ _ _ k.2)
          | Or => cases k
    refine { e := fun X s W c x k => ?_, t := fun X s W c x k => ?_, l := fun _ _ _ _ _ k => (nomatch k), i := fun _ _ _ _ _ _ k => (nomatch k), g := fun _ _ _ _ _ _ k => (nomatch k), gs := fun _ _ _ _ _ _ k => (nomatch k), o := fun _ _ _ _ _ k => (nomatch k), w := w }
    · have k : (fun e : Expr => match e with | .BoolOp .And (x :: y :: r) p => (chk Tb N a).e s x && (chk Tb N b).e s (.BoolOp .And (y :: r) p) | _ => false) x = true := k
      dsimp only at k
      split at k
      · simp only [Bool.and_eq_true] at k
        exact ev_and (iha.e X s W c _ k.1) (ihb.e X s W c _ k.2)
      · cases k
    · cases x with
      | BoolOp op vs pos => exact (w X s W c op vs pos k).tv
      | _ => cases k
  | or_ a b iha ihb =>
    have w : ∀ X s W, ECx X p N s W → ∀ op vs pos, (chk Tb N (.or_ a b)).t s (.BoolOp op vs pos) = true → WV X p.G W (.BoolOp op vs pos) (den Tb M (.or_ a b)).t := fun X s W c op vs pos k => by
      cases vs with
      | nil => cases op <;> cases k
      | cons y ys => cases ys with
        | nil => cases op <;> cases k
        | cons z zs => cases op with
          | Or =>
            have k : ((chk Tb N a).t s y && (chk Tb N b).t s (.BoolOp .Or (z :: zs) pos)) = true := k
            simp only [Bool.and_eq_true] at k
            exact wv_or (iha.t X s W c _ k.1) (ihb.w X s W c _ _ _ k.2)
          | And => cases k
    refine { e := fun X s W c x k => ?_, t := fun X s W c x k => ?_, l := fun _ _ _ _ _ k => (nomatch k), i := fun _ _ _ _ _ _ k => (nomatch k), g := fun _ _ _ _ _ _ k => (nomatch k), gs := fun _ _ _ _ _ _ k => (nomatch k), o := fun _ _ _ _ _ k => (nomatch k), w := w }
    · have k : (fun e : Expr => match e with | .BoolOp .Or (x :: y :: r) p => (chk Tb N a).e s x && (chk Tb N b).e s (.BoolOp .Or (y :: r) p) | _ => false) x = true := k
      dsimp only at k
      split at k
      · simp only [Bool.and_eq_true] at k
        exact ev_or (iha.e X s W c _ k.1) (ihb.e X s W c _ k.2)
      · cases k
    · cases x with
      | BoolOp op vs pos => exact (w X s W c op vs pos k).tv
      | _ => cases k
  | not_ a iha =>
    refine { e := fun X s W c x k => ?_, t := fun X s W c x k => ?_, l := fun _ _ _ _ _ k => (nomatch k), i := fun _ _ _ _ _ _ k => (nomatch k), g := fun _ _ _ _ _ _ k => (nomatch k), gs := fun _ _ _ _ _ _ k => (nomatch k), o := fun _ _ _ _ _ k => (nomatch k), w := fun _ _ _ _ _ _ _ k => (nomatch k) }
    · have k : (fun e : Expr => match e with | .UnaryOp .Not x _ => (chk Tb N a).e s x | _ => false) x = true := k
      dsimp only at k
      split at k
      · exact ev_not (iha.e X s W c _ k)
      · cases k
    · have k : (fun e : Expr => match e with | .UnaryOp .Not x _ => (chk Tb N a).t s x | _ => false) x = true := k
      dsimp only at k
      split at k
      · exact tv_not (iha.t X s W c _ k)
      · cases k
  | ite d a b ihd iha ihb =>
    have fe : ∀ X s W, ECx X p N s W → ∀ x, (chk Tb N (.ite d a b)).e s x = true → EV X p.G W x (eIte (den Tb M d).t (den Tb M a).e (den Tb M b).e) ∧ noStar x = true := fun X s W c x k => by
      have k : (fun e : Expr => match e with | .IfExp z x y _ => (chk Tb N d).t s z && (chk Tb N a).e s x && (chk Tb N b).e s y | _ => false) x = true := k
      dsimp only at k
      split at k
      · simp only [Bool.and_eq_true] at k
        exact ⟨ev_ite (ihd.t X s W c _ k.1.1) (iha.e X s W c _ k.1.2) (ihb.e X s W c _ k.2), rfl⟩
      · cases k
    exact { e := fun X s W c x k => (fe X s W c x k).1, t := fun _ _ _ _ _ k => (nomatch k), l := fun _ _ _ _ _ k => (nomatch k), i := fun X s W c x tg k => iv_expr (c.XK t) (fe X s W c x k).1, g := fun _ _ _ _ _ _ k => (nomatch k), gs := fun _ _ _ _ _ _ k => (nomatch k), o := fun _ _ _ _ _ k => (nomatch k), w := fun _ _ _ _ _ _ _ k => (nomatch k) }
  | nil =>
    refine { e := fun _ _ _ _ _ k => (nomatch k), t := fun _ _ _ _ _ k => (nomatch k), l := fun X s W c x k => av_nil' k, i := fun _ _ _ _ _ _ k => (nomatch k), g := fun _ _ _ _ _ _ k => (nomatch k), gs := fun X s W c vs x k => ?_, o := fun _ _ _ _ _ k => (nomatch k), w := fun _ _ _ _ _ _ _ k => (nomatch k) }
    cases x with
    | nil => exact gvs_nil
    | cons _ _ => cases k
  | cons a r iha ihr =>
    refine { e := fun _ _ _ _ _ k => (nomatch k), t := fun _ _ _ _ _ k => (nomatch k), l := fun X s W c x k => ?_, i := fun _ _ _ _ _ _ k => (nomatch k), g := fun _ _ _ _ _ _ k => (nomatch k), gs := fun X s W c vs x k => ?_, o := fun _ _ _ _ _ k => (nomatch k), w := fun _ _ _ _ _ _ _ k => (nomatch k) }
    · cases x with
      | nil => cases k
      | cons y ys =>
        have k : (noStar y && (chk Tb N a).e s y && (chk Tb N r).l s ys) = true := k
        simp only [Bool.and_eq_true] at k
        exact av_cons k.1.1 (iha.e X s W c _ k.1.2) (ihr.l X s W c _ k.2)
    · cases x with
      | nil => cases k
      | cons y ys =>
        have k : (noStar y && (chk Tb N a).g s vs y && (chk Tb N r).gs s vs ys) = true := k
        simp only [Bool.and_eq_true] at k
        exact gvs_cons k.1.1 (iha.g X s W c _ _ k.1.2) (ihr.gs X s W c _ _ k.2)
  | tup es ih =>
    refine { Snd.of t (f := fun s e => match e with | .Tuple xs _ _ => (chk Tb N es).l s xs | _ => false) (m := eApp (den Tb M es).l mkTup) (fun X s W c x k => ?_) with g := fun X s W c vs x k => ?_, gs := fun _ _ _ _ _ _ k => (nomatch k) }
    · split at k
      · exact ev_tup (ih.l X s W c _ k)
      · cases k
    · cases x with
      | Tuple xs kk pos =>
        have k : (xs.all noStar && (chk Tb N es).gs s vs xs) = true := k
        simp only [Bool.and_eq_true] at k
        have z := gv_tup (k := kk) (pos := pos) c.calm (c.XK t) (ih.gs X s W c _ _ k.2) k.1
        rw [cnt_ok es s vs xs k.2] at z
        exact z
      | _ => cases k
  | lst es ih =>
    refine Snd.of t fun X s W c x k => ?_
    split at k
    · exact ev_lst (ih.l X s W c _ k)
    · cases k
  | lstM es ih =>
    refine Snd.of t fun X s W c x k => ?_
    split at k
    · exact ev_lstM (ih.l X s W c _ k)
    · cases k
  | idx a i iha ihi =>
    refine Snd.of t fun X s W c x k => ?_
    split at k
    · simp only [Bool.and_eq_true] at k
      exact ev_idx (hu_of c.room) (c.XK t) k.1.1 (iha.e X s W c _ k.1.2) (ihi.e X s W c _ k.2)
    · cases k
  | slc a l h iha ihl ihh =>
    refine Snd.of t fun X s W c x k => ?_
    split at k
    · simp only [Bool.and_eq_true] at k
      exact ev_slc (c.XK t) (iha.e X s W c _ k.1.1) (ihl.o X s W c _ k.1.2) (ihh.o X s W c _ k.2)
    · cases k
  | pno =>
    refine { e := fun _ _ _ _ _ k => (nomatch k), t := fun _ _ _ _ _ k => (nomatch k), l := fun _ _ _ _ _ k => (nomatch k), i := fun _ _ _ _ _ _ k => (nomatch k), g := fun _ _ _ _ _ _ k => (nomatch k), gs := fun _ _ _ _ _ _ k => (nomatch k), o := fun X s W c x k => ?_, w := fun _ _ _ _ _ _ _ k => (nomatch k) }
    cases x with
    | none => exact ov_none
    | some _ => cases k
  | psm a iha =>
    refine { e := fun _ _ _ _ _ k => (nomatch k), t := fun _ _ _ _ _ k => (nomatch k), l := fun _ _ _ _ _ k => (nomatch k), i := fun _ _ _ _ _ _ k => (nomatch k), g := fun _ _ _ _ _ _ k => (nomatch k), gs := fun _ _ _ _ _ _ k => (nomatch k), o := fun X s W c x k => ?_, w := fun _ _ _ _ _ _ _ k => (nomatch k) }
    cases x with
    | none => cases k
    | some y => exact ov_some (iha.e X s W c _ k)
  | fld f a iha =>
    refine Snd.of t fun X s W c x k => ?_
    split at k
    · simp only [Bool.and_eq_true, beq_iff_eq] at k
      obtain ⟨⟨⟨rfl, h1⟩, h2⟩, h3⟩ := k
      exact ev_fld (c.XK t) (t.fld _ h1) (iha.e X s W c _ h3) (noSup_ok h2)
    · cases k
  | call f es ih =>
    refine Snd.of t fun X s W c x k => ?_
    cases e : Tb.fn[f]? with
    | none => rw [e] at k; cases k
    | some z =>
      obtain ⟨y, n, d⟩ := z
      rw [e] at k
      obtain ⟨q, xs, pos, rfl, h1, h2, h3, h4⟩ := isCall_ok k
      have F := t.fn f y n d e
      rw [← c.prog, ← c.w, ← c.K, ← c.mg, ← c.base] at F
      cases xs with
      | nil =>
        have el : ∀ ρ st, (den Tb M es).l ρ st = .ok [] st := by
          cases es with
          | nil => intro _ _; rfl
          | cons _ _ => cases h4
          | _ => cases h4
        have z := ev_call0 (W := W) (p := q) (pos := pos) F c.room (glB_ok c h2) c.tk (okName_ok h1).1
        have e2 : (eApp (den Tb M es).l fun ws st => M.fn.getD f badF (ws ++ d.map Wd.v) st) = fun _ st => M.fn.getD f badF (d.map Wd.v) st := by
          funext ρ st
          unfold eApp
          rw [el]; rfl
        show EV X p.G W _ (eApp (den Tb M es).l fun ws st => M.fn.getD f badF (ws ++ d.map Wd.v) st)
        rw [e2]
        exact z
      | cons x0 xs =>
        simp only [List.all_cons, Bool.and_eq_true] at h3
        exact ev_call F c.room (glB_ok c h2) c.tk (okName_ok h1).1 h3.1 h3.2 (ih.l X s W c _ h4)
  | meth f o es iho ih =>
    refine Snd.of t fun X s W c x k => ?_
    cases e : Tb.mt[f]? with
    | none => rw [e] at k; cases k
    | some z =>
      obtain ⟨cn, mn, n, d⟩ := z
      rw [e] at k
      have F := t.mt f cn mn n d e
      rw [← c.prog, ← c.w, ← c.K, ← c.mg, ← c.base] at F
      split at k
      · rename_i ox y ap xs cp e1
        cases e1
        simp only [Bool.and_eq_true, beq_iff_eq, decide_eq_true_eq] at k
        obtain ⟨⟨⟨⟨⟨⟨rfl, h1⟩, h2⟩, h3⟩, h4⟩, h5⟩, h6⟩ := k
        cases xs with
        | nil =>
          have el : (den Tb M es).l = lNil := by
            cases es with
            | nil => rfl
            | cons _ _ => cases h6
            | _ => cases h6
          show EV X p.G W _ (eMeth cn _ (den Tb M o).e (den Tb M es).l d (M.mt.getD f badF))
          rw [el]
          exact ev_meth0 F c.room c.tk (iho.e X s W c _ h5) (noSup_ok h1) (by simpa using h2)
        | cons x0 xs => exact ev_meth F c.room c.tk (iho.e X s W c _ h5) (noSup_ok h1) (by simpa using h2) h3 h4 (ih.l X s W c _ h6)
      · cases k
  | make d es ih =>
    refine Snd.of t fun X s W c x k => ?_
    cases e : Tb.cn[d]? with
    | none => rw [e] at k; cases k
    | some z =>
      obtain ⟨y, n, ds⟩ := z
      rw [e] at k
      obtain ⟨q, xs, pos, rfl, h1, h2, h3, h4⟩ := isCall_ok k
      obtain ⟨k', hk, F⟩ := t.cn d y n ds e
      rw [← c.prog, ← c.w, ← c.K, ← c.mg, ← c.base] at F
      cases xs with
      | nil =>
        have el : ∀ ρ st, (den Tb M es).l ρ st = .ok [] st := by
          cases es with
          | nil => intro _ _; rfl
          | cons _ _ => cases h4
          | _ => cases h4
        have z := ev_make0 (W := W) (p := q) (pos := pos) F (c.room.mono hk) (glB_ok c h2) (okName_ok h1).1
        have e2 : (eApp (den Tb M es).l fun ws st => mkIns y (M.cn.getD d badF) (ws ++ ds.map Wd.v) st) = fun _ st => mkIns y (M.cn.getD d badF) (ds.map Wd.v) st := by
          funext ρ st
          unfold eApp
          rw [el]; rfl
        show EV X p.G W _ (eApp (den Tb M es).l fun ws st => mkIns y (M.cn.getD d badF) (ws ++ ds.map Wd.v) st)
        rw [e2]
        exact z
      | cons x0 xs =>
        simp only [List.all_cons, Bool.and_eq_true] at h3
        exact ev_make F (c.room.mono hk) (glB_ok c h2) (okName_ok h1).1 h3.1 h3.2 (ih.l X s W c _ h4)
  | makeF d es ih =>
    refine Snd.of t fun X s W c x k => ?_
    cases e : Tb.cn[d]? with
    | none => rw [e] at k; cases k
    | some z =>
      obtain ⟨y, n, ds⟩ := z
      rw [e] at k
      obtain ⟨q, xs, pos, rfl, h1, h2, h3, h4⟩ := isCall_ok k
      obtain ⟨k', hk, F⟩ := t.cn d y n ds e
      rw [← c.prog, ← c.w, ← c.K, ← c.mg, ← c.base] at F
      cases xs with
      | nil =>
        have el : ∀ ρ st, (den Tb M es).l ρ st = .ok [] st := by
          cases es with
          | nil => intro _ _; rfl
          | cons _ _ => cases h4
          | _ => cases h4
        have z := ev_make0F (W := W) (p := q) (pos := pos) F (c.room.mono hk) (glB_ok c h2) (okName_ok h1).1
        have e2 : (eApp (den Tb M es).l fun ws st => mkInsF y (M.cn.getD d badF) (ws ++ ds.map Wd.v) st) = fun _ st => mkInsF y (M.cn.getD d badF) (ds.map Wd.v) st := by
          funext ρ st
          unfold eApp
          rw [el]; rfl
        show EV X p.G W _ (eApp (den Tb M es).l fun ws st => mkInsF y (M.cn.getD d badF) (ws ++ ds.map Wd.v) st)
        rw [e2]
        exact z
      | cons x0 xs =>
        simp only [List.all_cons, Bool.and_eq_true] at h3
        exact ev_makeF F (c.room.mono hk) (glB_ok c h2) (okName_ok h1).1 h3.1 h3.2 (ih.l X s W c _ h4)
  | bi b es ih =>
    refine Snd.of t fun X s W c x k => ?_
    split at k
    · rename_i fn x0 xs kw pos
      simp only [Bool.and_eq_true] at k
      obtain ⟨h0, k⟩ := k
      obtain ⟨q, ys, pos', e, h1, h2, h3, h4⟩ := isCall_ok k
      cases e
      simp only [List.all_cons, Bool.and_eq_true] at h3
      exact ev_bi b c.room (c.XK t) c.calm (glB_ok c h2) (by rw [c.mg]; exact t.free _ h0) h3.1 h3.2 (ih.l X s W c _ h4)
    · cases k
  | cmpr frz own tg it cnd elt ihg ihi ihc ihe =>
    refine Snd.of t fun X s W c x k => ?_
    obtain ⟨tt, h1, h2⟩ := cmpr_ok t c ihg ihi ihc ihe k
    exact ⟨tt, h1.1, h2⟩
  | rng1 es ih =>
    refine { e := fun _ _ _ _ _ k => (nomatch k), t := fun _ _ _ _ _ k => (nomatch k), l := fun _ _ _ _ _ k => (nomatch k), i := fun X s W c x tg k => ?_, g := fun _ _ _ _ _ _ k => (nomatch k), gs := fun _ _ _ _ _ _ k => (nomatch k), o := fun _ _ _ _ _ k => (nomatch k), w := fun _ _ _ _ _ _ _ k => (nomatch k) }
    have k : (fun e : Expr => match e with | .Call _ [_] _ _ => Tb.free.contains ("range" : Str) && isCall s "range" (chk Tb N es).l x | _ => false) x = true := k
    dsimp only at k
    split at k
    · simp only [Bool.and_eq_true] at k
      obtain ⟨h0, k⟩ := k
      obtain ⟨q, ys, pos', e, h1, h2, h3, h4⟩ := isCall_ok k
      cases e
      simp only [List.all_cons, List.all_nil, Bool.and_eq_true] at h3
      exact iv_rng1 (glB_ok c h2) (by rw [c.mg]; exact t.free _ h0) h3.1 (ih.l X s W c _ h4)
    · cases k
  | rng2 es ih =>
    refine { e := fun _ _ _ _ _ k => (nomatch k), t := fun _ _ _ _ _ k => (nomatch k), l := fun _ _ _ _ _ k => (nomatch k), i := fun X s W c x tg k => ?_, g := fun _ _ _ _ _ _ k => (nomatch k), gs := fun _ _ _ _ _ _ k => (nomatch k), o := fun _ _ _ _ _ k => (nomatch k), w := fun _ _ _ _ _ _ _ k => (nomatch k) }
    have k : (fun e : Expr => match e with | .Call _ [_, _] _ _ => Tb.free.contains ("range" : Str) && isCall s "range" (chk Tb N es).l x | _ => false) x = true := k
    dsimp only at k
    split at k
    · simp only [Bool.and_eq_true] at k
      obtain ⟨h0, k⟩ := k
      obtain ⟨q, ys, pos', e, h1, h2, h3, h4⟩ := isCall_ok k
      cases e
      simp only [List.all_cons, List.all_nil, Bool.and_eq_true] at h3
      exact iv_rng2 (glB_ok c h2) (by rw [c.mg]; exact t.free _ h0) h3.1 h3.2.1 (ih.l X s W c _ h4)
    · cases k
  | isi tn a iha =>
    refine Snd.of t fun X s W c x k => ?_
    split at k
    · rename_i f p0 y z p1 p2
      simp only [Bool.and_eq_true, beq_iff_eq] at k
      obtain ⟨⟨⟨⟨⟨⟨⟨rfl, rfl⟩, h1⟩, h2⟩, h3⟩, h4⟩, h5⟩, h6⟩ := k
      exact ev_isi tn (c.XK t) (glB_ok c h2) (by rw [c.mg]; exact t.free _ h4) (glB_ok c h3) (by rw [c.mg]; exact t.free _ h5) h1 (iha.e X s W c _ h6)
    · cases k
  | isiTL a iha =>
    refine Snd.of t fun X s W c x k => ?_
    split at k
    · simp only [Bool.and_eq_true, beq_iff_eq] at k
      obtain ⟨⟨⟨⟨⟨⟨⟨⟨⟨⟨rfl, rfl⟩, rfl⟩, h1⟩, h2⟩, h3⟩, h4⟩, h5⟩, h6⟩, h7⟩, h8⟩ := k
      exact ev_isiTL (c.XK t) (glB_ok c h2) (by rw [c.mg]; exact t.free _ h5) (glB_ok c h3) (by rw [c.mg]; exact t.free _ h6) (glB_ok c h4) (by rw [c.mg]; exact t.free _ h7) h1 (iha.e X s W c _ h8)
    · cases k
  | sset es ih =>
    refine Snd.of t fun X s W c x k => ?_
    split at k
    · simp only [Bool.and_eq_true, beq_iff_eq] at k
      obtain ⟨⟨⟨⟨⟨⟨⟨rfl, rfl⟩, h1⟩, h2⟩, h3⟩, h4⟩, h5⟩, h6⟩ := k
      exact ev_sset (c.XK t) c.calm (glB_ok c h2) (by rw [c.mg]; exact t.free _ h4) (glB_ok c h3) (by rw [c.mg]; exact t.free _ h5) h1 (ih.l X s W c _ h6)
    · cases k
  | bestD b a d iha ihd =>
    refine Snd.of t fun X s W c x k => ?_
    split at k
    · simp only [Bool.and_eq_true, beq_iff_eq] at k
      obtain ⟨⟨⟨⟨⟨⟨rfl, rfl⟩, h1⟩, h2⟩, h3⟩, h4⟩, h5⟩ := k
      exact ev_bestD b (c.XK t) c.room c.calm (glB_ok c h2) (by rw [c.mg]; exact t.free _ h3) h1 (iha.e X s W c _ h4) (ihd.e X s W c _ h5)
    · cases k
  | bm b o es iho ih =>
    refine Snd.of t fun X s W c x k => ?_
    split at k
    · rename_i ox y ap xs cp
      simp only [Bool.and_eq_true, beq_iff_eq, decide_eq_true_eq] at k
      obtain ⟨⟨⟨⟨⟨⟨⟨rfl, h1⟩, h2⟩, h3⟩, h4⟩, h5⟩, h6⟩, h7⟩ := k
      cases xs with
      | nil =>
        have el : (den Tb M es).l = lNil := by
          cases es with
          | nil => rfl
          | cons _ _ => cases h7
          | _ => cases h7
        show EV X p.G W _ (eBm b.T b.f (den Tb M o).e (den Tb M es).l)
        rw [el]
        exact ev_bmZ b h5.symm (c.XK t) (iho.e X s W c _ h6) (noSup_ok h1) (by rw [h2]; simp)
      | cons y ys =>
        simp only [List.all_cons, Bool.and_eq_true] at h3
        exact ev_bmE b h5.symm (c.XK t) (iho.e X s W c _ h6) (ih.l X s W c _ h7) (noSup_ok h1) (by rw [h2]; simp) h3.1 h3.2 h4
    · cases k
end
end DL

set_option Elab.async false
set_option linter.all false
set_option maxRecDepth 100000
set_option maxHeartbeats 4000000
/-! DLm: statements: syntax, meaning, check, soundness; a def's promise from a check. -/
namespace DL
open PySem PySem.Spec PyProof.Rows L2
open Classical

inductive CS where
  | nil | cons (s r : CS)
  | asg (i : Nat) (e : CE) | asgC (i : Nat) (e : CE) | unp (t e : CE) | put (o i e : CE) | fldp (f : Str) (o e : CE)
  | exp (e : CE) | ret (e : CE) | retN | pas | brk | cnt | never
  | ifs (c : CE) (a b : CS) | for_ (t i : CE) (b : CS) | whl (c : CE) (b : CS)
def nox (a : EM) : EM := fun ρ st => match a ρ st with
  | .exc _ _ => .bad
  | r => r
def sPutN (e o i : EM) : SM := fun ρ st => (e ρ st).toS ρ fun w st1 => match o ρ st1 with
  | .ok x st2 => match i ρ st2 with
    | .ok y st3 => match stPut x y w st3 with
      | .ok _ st4 => .nx ρ st4
      | _ => .bad
    | _ => .bad
  | _ => .bad
noncomputable def denS (Tb : Tab) (M : Mir) : CS → SM
  | .nil => sNil
  | .cons s r => sSeq (denS Tb M s) (denS Tb M r)
  | .asg i e => sAsg (den Tb M e).e (gNam i)
  | .asgC i e => sAsg (den Tb M e).e (gNam i)
  | .unp t e => sAsg (den Tb M e).e (den Tb M t).g
  | .put o i e => sPutN (den Tb M e).e (den Tb M o).e (den Tb M i).e
  | .fldp f o e => sFld f (den Tb M o).e (den Tb M e).e
  | .exp e => sExp (den Tb M e).e
  | .ret e => sRet (den Tb M e).e
  | .retN => fun _ st => .rt (.v .non) st
  | .pas => sNil
  | .brk => fun ρ st => .bk ρ st
  | .cnt => fun ρ st => .ct ρ st
  | .never => fun _ _ => .bad
  | .ifs c a b => sIf (den Tb M c).t (denS Tb M a) (denS Tb M b)
  | .for_ t i b => sFor (den Tb M i).i (den Tb M t).g (denS Tb M b)
  | .whl c b => sWhl (den Tb M c).t (denS Tb M b)
structure ChS where
  s : Sc → Stmt → Bool := fun _ _ => false
  b : Sc → List Stmt → Bool := fun _ _ => false
def notTup : Expr → Bool
  | .Tuple .. => false
  | _ => true
def chkS (Tb : Tab) (N : List Str) : CS → ChS
  | .nil => { b := fun _ ss => ss.isEmpty }
  | .cons c r => { b := fun s ss => match ss with | x :: xs => (chkS Tb N c).s s x && (chkS Tb N r).b s xs | [] => false }
  | .asg i e => { s := fun s x => match x with | .Assign [.Name y _] v _ => N[i]? == some y && locB s y && plainE v && (chk Tb N e).e s v | _ => false }
  | .asgC i (.cmpr frz own tg it cnd elt) => { s := fun s x => match x with
    | .Assign [.Name y py] (.ListComp el gs scope cp) sp => N[i]? == some y && (s.sc.names.lookup y == some .local) && (py.line == cp.line) && decide (s.sc.kind = .function) && !(scope.names.any fun p => p.1 == y && (p.2 == .local || p.2 == .cell)) && (chk Tb N (.cmpr frz own tg it cnd elt)).e s (.ListComp el gs scope cp)
    | _ => false }
  | .asgC _ _ => {}
  | .unp t e => { s := fun s x => match x with | .Assign [.Tuple es k p] v _ => plainE v && notTup v && (chk Tb N t).g s (List.range N.length) (.Tuple es k p) && (chk Tb N e).e s v | _ => false }
  | .put o i e => { s := fun s x => match x with | .Assign [.Subscript a b _] v _ => plainE v && noStar b && (chk Tb N o).e s a && (chk Tb N i).e s b && (chk Tb N e).e s v | _ => false }
  | .fldp f o e => { s := fun s x => match x with | .Assign [.Attribute a g _] v _ => g == f && Tb.fld.contains f && plainE v && (chk Tb N o).e s a && (chk Tb N e).e s v | _ => false }
  | .exp e => { s := fun s x => match x with | .Expr v _ => plainE v && (chk Tb N e).e s v | _ => false }
  | .ret e => { s := fun s x => match x with | .Return (some v) _ => (chk Tb N e).e s v | _ => false }
  | .retN => { s := fun _ x => match x with | .Return none _ => true | _ => false }
  | .pas => { s := fun _ x => match x with | .Pass _ => true | _ => false }
  | .brk => { s := fun _ x => match x with | .Break _ => true | _ => false }
  | .cnt => { s := fun _ x => match x with | .Continue _ => true | _ => false }
  | .never => { s := fun _ _ => true, b := fun _ _ => true }
  | .ifs c a b => { s := fun s x => match x with | .If t u v _ => (chk Tb N c).t s t && (chkS Tb N a).b s u && (chkS Tb N b).b s v | _ => false }
  | .for_ t i b => { s := fun s x => match x with | .For tg it body [] _ => noStar it && (chk Tb N t).g s (List.range N.length) tg && (chk Tb N i).i s it && (chkS Tb N b).b s body | _ => false }
  | .whl c b => { s := fun s x => match x with | .While t body [] _ => (chk Tb N c).t s t && (chkS Tb N b).b s body | _ => false }
structure SCx (X : Cx) (p : Par) (N : List Str) (s : Sc) (W : WX) : Prop where
  e : ECx X p N s W
  own : PassesOwn (model X.prog X.w) X.A X.env X.xe
  kind : s.sc.kind = .function
section
variable {p : Par} {Tb : Tab} {M : Mir} {N : List Str}
structure SndS (p : Par) (Tb : Tab) (M : Mir) (N : List Str) (m : SM) (c : ChS) : Prop where
  s : ∀ X s W, SCx X p N s W → ∀ x, c.s s x = true → SV X p.G W x m
  b : ∀ X s W, SCx X p N s W → ∀ x, c.b s x = true → SVs X p.G W x m
theorem SndS.of {f : Sc → Stmt → Bool} {m : SM} (h : ∀ X s W, SCx X p N s W → ∀ x, f s x = true → SV X p.G W x m) : SndS p Tb M N m { s := f } := ⟨h, fun _ _ _ _ _ k => nomatch k⟩
/-- without an exception -/
theorem ECx.w0 {X : Cx} {s : Sc} {W : WX} (c : ECx X p N s W) : ECx X p N s W0 := ⟨c.prog, c.w, c.K, c.mg, c.base, c.nm, c.nd, c.sc, c.calm, c.room, takes0, c.fn⟩
theorem mem_range_of {vs : List Nat} {x : Nat} : (List.range x).contains vs.length = true → vs.length < x := fun h => by simpa using h
theorem sndS (t : TabOk p Tb M) : ∀ c : CS, SndS p Tb M N (denS Tb M c) (chkS Tb N c) := by
  intro c
  induction c with
  | nil => exact ⟨fun _ _ _ _ _ k => (nomatch k), fun X s W c x k => by
      cases x with
      | nil => exact svs_nil
      | cons _ _ => cases k⟩
  | cons a r iha ihr => exact ⟨fun _ _ _ _ _ k => (nomatch k), fun X s W c x k => by
      cases x with
      | nil => cases k
      | cons y ys =>
        have k : ((chkS Tb N a).s s y && (chkS Tb N r).b s ys) = true := k
        simp only [Bool.and_eq_true] at k
        exact svs_cons (iha.s X s W c _ k.1) (ihr.b X s W c _ k.2)⟩
  | asg i e =>
    refine SndS.of fun X s W c x k => ?_
    split at k
    · simp only [Bool.and_eq_true, beq_iff_eq] at k
      obtain ⟨⟨⟨h1, h2⟩, h3⟩, h4⟩ := k
      have n := locB_ok c.e h2
      exact sv_set (by rw [c.e.nm]; exact c.e.nd) (by rw [c.e.nm]; exact h1) n.1 n.2 ((snd t e).e X s W c.e _ h4) (swaps_plain h3)
    · cases k
  | asgC i e =>
    cases e with
    | cmpr frz own tg it cnd elt =>
      refine SndS.of fun X s W c x k => ?_
      split at k
      · rename_i y py el gs scope cp sp
        simp only [Bool.and_eq_true, beq_iff_eq, decide_eq_true_eq, Bool.not_eq_true'] at k
        obtain ⟨⟨⟨⟨⟨h1, h2⟩, h3⟩, h4⟩, h5⟩, h6⟩ := k
        obtain ⟨tt, z1, z2⟩ := cmpr_ok t c.e (snd t tg) (snd t it) (snd t cnd) (snd t elt) h6
        have hsw : swapsWith (.ListComp el gs scope cp) (some (.Name y py)) sp.line X.env = pure true := by
          have e1 : X.env.blockKind = .function := by
            have : X.env.scope.kind = .function := by rw [c.e.sc]; exact h4
            first
              | exact this
              | simp [Env.blockKind, this]
          have e2 : X.env.kindOf y = some .local := by
            show X.env.scope.names.lookup y = some .local
            rw [c.e.sc]; exact h2
          show (pure (X.env.blockKind == .function && X.env.kindOf y == some .local && py.line == (Expr.ListComp el gs scope cp).pos.line && !(scope.names.any fun (n, k) => n == y && (k == .local || k == .cell))) : Sem Bool) = pure true
          have e3 : (py.line == (Expr.ListComp el gs scope cp).pos.line) = true := by
            show (py.line == cp.line) = true
            rw [h3]; simp
          rw [e1, e2, e3, h5]
          rfl
        refine ⟨_, z1.2 i y py sp (by rw [c.e.nm]; exact h1) (by rw [c.e.sc]; exact h2) hsw, fun ρ st σ ι H D rs re h => ?_⟩
        refine z2 ρ st σ ι H _ rs re (PostS.first re h fun w st1 ι1 v H1 e1 rs1 r1 h1 => ?_)
        exact h1 ι1 _ H1 (Ext.refl _ _) rs1 ((re.ext e1).set i r1)
      · cases k
    | _ => exact ⟨fun _ _ _ _ _ k => (nomatch k), fun _ _ _ _ _ k => (nomatch k)⟩
  | unp tg e =>
    refine SndS.of fun X s W c x k => ?_
    split at k
    · rename_i es kk tp v pos
      simp only [Bool.and_eq_true] at k
      obtain ⟨⟨⟨h1, h2⟩, h3⟩, h4⟩ := k
      exact sv_unp ((snd t tg).g X s W c.e _ _ h3) ((snd t e).e X s W c.e _ h4) h1 (by cases v <;> first | rfl | (cases h2))
    · cases k
  | put o i e =>
    refine SndS.of fun X s W c x k => ?_
    split at k
    · simp only [Bool.and_eq_true] at k
      obtain ⟨⟨⟨⟨h1, h2⟩, h3⟩, h4⟩, h5⟩ := k
      exact sv_put (hu_of c.e.room) ((snd t o).e X s W0 c.e.w0 _ h3) ((snd t i).e X s W0 c.e.w0 _ h4) ((snd t e).e X s W c.e _ h5) h1 h2
    · cases k
  | fldp f o e =>
    refine SndS.of fun X s W c x k => ?_
    split at k
    · simp only [Bool.and_eq_true, beq_iff_eq] at k
      obtain ⟨⟨⟨⟨rfl, h1⟩, h2⟩, h3⟩, h4⟩ := k
      exact sv_fld (c.e.XK t) (t.fld _ h1) ((snd t o).e X s W0 c.e.w0 _ h3) ((snd t e).e X s W c.e _ h4) h2
    · cases k
  | exp e =>
    refine SndS.of fun X s W c x k => ?_
    split at k
    · simp only [Bool.and_eq_true] at k
      exact sv_exp k.1 ((snd t e).e X s W c.e _ k.2)
    · cases k
  | ret e =>
    refine SndS.of fun X s W c x k => ?_
    split at k
    · exact sv_ret ((snd t e).e X s W c.e _ k)
    · cases k
  | retN =>
    refine SndS.of fun X s W c x k => ?_
    split at k
    · exact sv_retN
    · cases k
  | pas =>
    refine SndS.of fun X s W c x k => ?_
    split at k
    · exact sv_pass
    · cases k
  | brk =>
    refine SndS.of fun X s W c x k => ?_
    split at k
    · exact sv_break
    · cases k
  | cnt =>
    refine SndS.of fun X s W c x k => ?_
    split at k
    · exact sv_continue
    · cases k
  | never => exact ⟨fun X s W c x k => ⟨_, ps_never, fun ρ st σ ι H D rs re h => h⟩, fun X s W c x k => ⟨_, pss_never, fun ρ st σ ι H D rs re h => h⟩⟩
  | ifs d a b iha ihb =>
    refine SndS.of fun X s W c x k => ?_
    split at k
    · simp only [Bool.and_eq_true] at k
      exact sv_if ((snd t d).t X s W c.e _ k.1.1) (iha.b X s W c _ k.1.2) (ihb.b X s W c _ k.2)
    · cases k
  | for_ tg i b ihb =>
    refine SndS.of fun X s W c x k => ?_
    split at k
    · simp only [Bool.and_eq_true] at k
      exact sv_for c.own c.e.calm ((snd t i).i X s W c.e _ _ k.1.2) ((snd t tg).g X s W c.e _ _ k.1.1.2) (ihb.b X s W c _ k.2) k.1.1.1
    · cases k
  | whl d b ihb =>
    refine SndS.of fun X s W c x k => ?_
    split at k
    · simp only [Bool.and_eq_true] at k
      exact sv_while c.own ((snd t d).t X s W c.e _ k.1) (ihb.b X s W c _ k.2)
    · cases k

/-- THE RULE for a def whose text was checked -/
theorem fn_chk {x qual : Str} {prm : Arguments} {body : List Stmt} {scope : Scope} {dvs : List V} {kws : List (Str × V)} {f : Addr} {fd : FuncData} {ps : List Str} {keep : Bool} {c : CS} (t : TabOk p Tb M) (F : FunD p.K x qual prm body scope dvs kws f fd) (S : FnScope N ps scope) (h : (chkS Tb N c).b ⟨scope, true⟩ body = true) :
    FnOk p.P p.w p.K p.mg p.base (L2.CX p.P p.w) (p.k + 1) f fd ps (spM p.G ps.length (runD keep N.length ps.length (denS Tb M c))) :=
  fn_mir F S fun X W d => (sndS t c).b X ⟨scope, true⟩ W ⟨⟨d.prog, d.w, d.K, d.mg, d.base, d.N, S.nd, d.sc, d.calm, d.room, d.tk, fun _ => d.fn⟩, d.own, S.kind⟩ _ h
theorem runD_len {keep : Bool} {nN np : Nat} {b : SM} (ws : List Wd) (st : Sto) (h : runD keep nN np b ws st ≠ .bad) : ws.length = np := by
  unfold runD at h
  by_cases hl : ws.length = np
  · exact hl
  · rw [if_neg hl] at h; exact absurd rfl h
end
end DL

set_option Elab.async false
set_option linter.all false
set_option maxRecDepth 100000
set_option maxHeartbeats 4000000
/-! DLn: from the head's facts to the promises of defs, methods, classes; the law's end. -/
namespace DL
open PySem PySem.Spec PyProof.Rows L2
open Classical

def Par.at (p : Par) (k : Nat) : Par := { p with k := k }
section
variable {p : Par} {M : Mir} {Tb : Tab} {N ps : List Str} {keep : Bool} {x qual cn mn : Str} {n j k : Nat} {d : List T} {m : MF} {ms : List MF} {c : CS}
theorem FnE.mono (h : FnE p.P p.w p.K p.mg p.base p.G j x n d m) (hj : j ≤ k) : FnE p.P p.w p.K p.mg p.base p.G k x n d m := by
  obtain ⟨⟨f, fd, ps, ds, dvs, F, r⟩, l⟩ := h
  exact ⟨⟨f, fd, ps, ds, dvs, F.mono hj, r⟩, l⟩
theorem MtE.mono (h : MtE p.P p.w p.K p.mg p.base p.G j cn mn n d m) (hj : j ≤ k) : MtE p.P p.w p.K p.mg p.base p.G k cn mn n d m := by
  obtain ⟨⟨f, C, fd, ps, ds, dvs, F, r⟩, l⟩ := h
  exact ⟨⟨f, C, fd, ps, ds, dvs, F.mono hj, r⟩, l⟩
def FnsOk (p : Par) (l : List (Str × Nat × List T)) (ms : List MF) : Prop := ∀ (i : Nat) x n d, l[i]? = some (x, n, d) → FnE p.P p.w p.K p.mg p.base p.G p.k x n d (ms.getD i badF)
def MtsOk (p : Par) (l : List (Str × Str × Nat × List T)) (ms : List MF) : Prop := ∀ (i : Nat) c mn n d, l[i]? = some (c, mn, n, d) → MtE p.P p.w p.K p.mg p.base p.G p.k c mn n d (ms.getD i badF)
def CnsOk (p : Par) (l : List (Str × Nat × List T)) (ms : List MF) : Prop := ∀ (i : Nat) c n d, l[i]? = some (c, n, d) → ∃ k', k' + 1 ≤ p.k ∧ MkE p.P p.w p.K p.mg p.base p.G k' c n d (ms.getD i badF)
def GlsOk (p : Par) (l : List (Str × T)) : Prop := ∀ (i : Nat) x t, l[i]? = some (x, t) → ∃ u v, p.mg x = some u ∧ RelV v u ∧ ∀ ι H, Rep p.G ι H t v
theorem FnsOk.nil : FnsOk p [] ms := fun i x n d h => by simp at h
theorem FnsOk.cons {l : List (Str × Nat × List T)} (h : FnE p.P p.w p.K p.mg p.base p.G j x n d m) (hj : j ≤ p.k) (r : FnsOk p l ms) : FnsOk p ((x, n, d) :: l) (m :: ms) := fun i x n d e => by
  cases i with
  | zero => simp at e; obtain ⟨rfl, rfl, rfl⟩ := e; exact h.mono hj
  | succ i => simp at e; exact r i x n d e
theorem MtsOk.nil : MtsOk p [] ms := fun i x n d y h => by simp at h
theorem MtsOk.cons {l : List (Str × Str × Nat × List T)} (h : MtE p.P p.w p.K p.mg p.base p.G j cn mn n d m) (hj : j ≤ p.k) (r : MtsOk p l ms) : MtsOk p ((cn, mn, n, d) :: l) (m :: ms) := fun i x y n d e => by
  cases i with
  | zero => simp at e; obtain ⟨rfl, rfl, rfl, rfl⟩ := e; exact h.mono hj
  | succ i => simp at e; exact r i x y n d e
theorem CnsOk.nil : CnsOk p [] ms := fun i x n d h => by simp at h
theorem CnsOk.cons {l : List (Str × Nat × List T)} (h : MkE p.P p.w p.K p.mg p.base p.G j x n d m) (hj : j + 1 ≤ p.k) (r : CnsOk p l ms) : CnsOk p ((x, n, d) :: l) (m :: ms) := fun i x n d e => by
  cases i with
  | zero => simp at e; obtain ⟨rfl, rfl, rfl⟩ := e; exact ⟨_, hj, h⟩
  | succ i => simp at e; exact r i x n d e
theorem GlsOk.nil : GlsOk p [] := fun i x t h => by simp at h
theorem GlsOk.cons {l : List (Str × T)} {t : T} (h : ∃ u v, p.mg x = some u ∧ RelV v u ∧ ∀ ι H, Rep p.G ι H t v) (r : GlsOk p l) : GlsOk p ((x, t) :: l) := fun i x t e => by
  cases i with
  | zero => simp at e; obtain ⟨rfl, rfl⟩ := e; exact h
  | succ i => simp at e; exact r i x t e
theorem fld_nil : ∀ f, (([] : List Str).contains f) = true → ClsOk p.G.K p.G f := fun f h => by simp at h
theorem fld_cons {l : List Str} (h : ClsOk p.G.K p.G x) (r : ∀ f, l.contains f = true → ClsOk p.G.K p.G f) : ∀ f, (x :: l).contains f = true → ClsOk p.G.K p.G f := fun f e => by
  simp only [List.contains_cons, Bool.or_eq_true, beq_iff_eq] at e
  rcases e with rfl | e
  · exact h
  · exact r f e
theorem free_nil : ∀ f, (([] : List Str).contains f) = true → p.mg f = none := fun f h => by simp at h
theorem free_cons {l : List Str} (h : p.mg x = none) (r : ∀ f, l.contains f = true → p.mg f = none) : ∀ f, (x :: l).contains f = true → p.mg f = none := fun f e => by
  simp only [List.contains_cons, Bool.or_eq_true, beq_iff_eq] at e
  rcases e with rfl | e
  · exact h
  · exact r f e
/-- a def, for its callers -/
theorem fnE_mk {nm : Str} {prm : Arguments} {body : List Stmt} {scope : Scope} {kws : List (Str × V)} {f : Addr} {fd : FuncData} (hn : ps.length = n) (t : TabOk (p.at k) Tb M) (F : FunD p.K nm qual prm body scope [] kws f fd) (hx : p.mg x = some (.ref f))
    (S : FnScope N ps scope) (h : (chkS Tb N c).b ⟨scope, true⟩ body = true)
    (hb : ∀ (kV doc pm : Value) (an : Option Addr) (cdv ct : Value) (us : List Value), us.length = ps.length → bindArgs (PySem.W.fnOf nm qual prm body scope .none kV doc pm an cdv ct) ⟨us, []⟩ = pure (ps.zip us)) :
    FnE p.P p.w p.K p.mg p.base p.G (k + 1) x n [] (runD keep N.length n (denS Tb M c)) := by
  subst hn
  exact ⟨⟨f, fd, ps, [], [], fn_chk t F S h, hx, F.kp, F.bindsN hb, .nil, fun _ _ => .nil⟩, fun ws st z => runD_len ws st z⟩
theorem mtE_mk {nm : Str} {prm : Arguments} {body : List Stmt} {scope : Scope} {kws : List (Str × V)} {f C : Addr} {fd : FuncData} (hn : ps.length = n) (t : TabOk (p.at k) Tb M) (F : FunD p.K nm qual prm body scope [] kws f fd) (hC : p.G.cl cn = some C) (hc : Cls p.K C) (hm : Meth p.K C mn f)
    (S : FnScope N ps scope) (h : (chkS Tb N c).b ⟨scope, true⟩ body = true)
    (hb : ∀ (kV doc pm : Value) (an : Option Addr) (cdv ct : Value) (us : List Value), us.length = ps.length → bindArgs (PySem.W.fnOf nm qual prm body scope .none kV doc pm an cdv ct) ⟨us, []⟩ = pure (ps.zip us)) :
    MtE p.P p.w p.K p.mg p.base p.G (k + 1) cn mn n [] (runD keep N.length n (denS Tb M c)) := by
  subst hn
  exact ⟨⟨f, C, fd, ps, [], [], fn_chk t F S h, hC, hc, hm, F.bindsN hb, .nil, fun _ _ => .nil⟩, fun ws st z => runD_len ws st z⟩
theorem mkE_mk {nm : Str} {prm : Arguments} {body : List Stmt} {scope : Scope} {kws : List (Str × V)} {f C : Addr} {fd : FuncData} (hn : ps.length = n) (t : TabOk (p.at k) Tb M) (F : FunD p.K nm qual prm body scope [] kws f fd) (hC : p.G.cl x = some C) (hx : p.mg x = some (.ref C)) (hm : Mk p.K C f)
    (S : FnScope N ps scope) (h : (chkS Tb N c).b ⟨scope, true⟩ body = true)
    (hb : ∀ (kV doc pm : Value) (an : Option Addr) (cdv ct : Value) (us : List Value), us.length = ps.length → bindArgs (PySem.W.fnOf nm qual prm body scope .none kV doc pm an cdv ct) ⟨us, []⟩ = pure (ps.zip us)) :
    MkE p.P p.w p.K p.mg p.base p.G (k + 1) x n [] (runD keep N.length n (denS Tb M c)) := by
  subst hn
  exact ⟨⟨f, C, fd, ps, [], [], fn_chk t F S h, hC, hx, hm, F.bindsN hb, .nil, fun _ _ => .nil⟩, fun ws st z => runD_len ws st z⟩
end
/-- the classes of the text -/
def clOf (K : PySem.W.Frag) (cs : List Str) : Str → Option Addr := fun c => if c ∈ cs then some (He.ga K c) else none
theorem clsOk_of {K : PySem.W.Frag} {cs : List Str} {f : Str} (h : ∀ c, c ∈ cs → (He.Fa.cls c).ok K = true ∧ (He.Fa.noat c f).ok K = true) : ClsOk K ⟨K, clOf K cs⟩ f := by
  have z : ∀ c C, clOf K cs c = some C → c ∈ cs ∧ C = He.ga K c := fun c C e => by
    unfold clOf at e
    split at e
    · rename_i h; cases e; exact ⟨h, rfl⟩
    · cases e
  refine ⟨fun c C e => ?_, fun c C e => ?_⟩
  · obtain ⟨h1, rfl⟩ := z c C e
    exact He.cls_ok (h c h1).1
  · obtain ⟨h1, rfl⟩ := z c C e
    exact He.noat_ok (h c h1).2
/-- the head's words, as a context -/
structure Hd (p : Par) (fa : List He.Fa) (fn : List He.DefD) (cs : List Str) (h : Heap) : Prop where
  X : p.K.In h
  ns : h.Ns mainGlobals p.mg
  c : He.SaysD fa fn p.K
  G : p.G = ⟨p.K, clOf p.K cs⟩
section
variable {p : Par} {fa : List He.Fa} {fn : List He.DefD} {cs : List Str} {h : Heap}
theorem Hd.GK (H : Hd p fa fn cs h) : p.G.K = p.K := by rw [H.G]
theorem Hd.glo (H : Hd p fa fn cs h) (i : Nat) {x : Str} (e : fa[i]? = some (.glo x) := by rfl) : p.mg x = some (.ref (He.ga p.K x)) := He.glo_ok H.X H.ns (H.c.fact i e)
theorem Hd.free (H : Hd p fa fn cs h) (i : Nat) {x : Str} (e : fa[i]? = some (.free x) := by rfl) : p.mg x = none := He.free_ok H.X H.ns (H.c.fact i e)
theorem Hd.int (H : Hd p fa fn cs h) (i : Nat) {x : Str} {z : Int} (e : fa[i]? = some (.int x z) := by rfl) : ∃ u v, p.mg x = some u ∧ RelV v u ∧ ∀ ι Hh, Rep p.G ι Hh (.int z) v := by
  obtain ⟨t, q⟩ := He.int_ok H.X H.ns (H.c.fact i e)
  exact ⟨_, .int z, q, ⟨t, rfl⟩, fun _ _ => .int z⟩
theorem Hd.str (H : Hd p fa fn cs h) (i : Nat) {x z : Str} (e : fa[i]? = some (.str x z) := by rfl) : ∃ u v, p.mg x = some u ∧ RelV v u ∧ ∀ ι Hh, Rep p.G ι Hh (.str z) v := by
  obtain ⟨t, q⟩ := He.str_ok H.X H.ns (H.c.fact i e)
  exact ⟨_, .str z, q, ⟨t, rfl⟩, fun _ _ => .str z⟩
theorem Hd.cl (H : Hd p fa fn cs h) {x : Str} (e : cs.contains x = true) : p.G.cl x = some (He.ga p.K x) := by
  rw [H.G]
  exact if_pos (by simpa using e)
theorem Hd.fact (H : Hd p fa fn cs h) {f : He.Fa} (i : Nat) (e : fa[i]? = some f := by rfl) : f.ok p.K = true := H.c.fact i e
theorem Hd.flds (H : Hd p fa fn cs h) {f : Str} (e : ∀ c, c ∈ cs → (He.Fa.cls c).ok p.K = true ∧ (He.Fa.noat c f).ok p.K = true) : ClsOk p.G.K p.G f := by
  have z : ClsOk p.K ⟨p.K, clOf p.K cs⟩ f := clsOk_of e
  have e2 : p.G.K = p.K := H.GK
  rw [e2, H.G]; exact z
end
/-- the law: what the mirror says of every script -/
theorem sp_scr {G : Gc} {m : MF} {H : Hp} {a : Addr} {ns : List Int} (h : ∀ ns : List Int, ns.length ≤ 63 → ∃ st, m [.v (.scr ns)] [] = .ok (.v (.bl true)) st) (hl : ns.length ≤ 63) (hO : Only H) (hS : SqL G.K H a (ns.map V.int)) :
    spM G 1 m [.ref a] H (fun v _ => v = .bl true) fun _ _ _ => False := by
  obtain ⟨st, e⟩ := h ns hl
  have ni : ¬ InI ⟨[], []⟩ a := fun z => by rcases z with z | z <;> cases z
  have hr : ScrAt G.K ⟨[], []⟩ H a ns := by
    rcases hS with (z | z) | z
    · rcases hO a with y | ⟨o, xs, y⟩
      · rw [y] at z; cases z
      · rw [y] at z; cases z
    · exact .inl ⟨z, ni⟩
    · exact .inr z
  refine ⟨⟨[], []⟩, [], [.v (.scr ns)], rfl, ⟨rfl, fun i j a h => by simp at h, fun n o h => by simp at h, fun n a h => by simp at h, fun a h => by cases h⟩, .cons (.scr hr hl) .nil, ?_⟩
  rw [e]
  intro ι' v H' _ _ r
  cases r
  rfl

/-- the law's end: the mirror says True of every script -/
theorem walk_end {l : PySem.W.OpenLaw} {k : Nat} {q : Program} {loose : List Str} {XP : (Str → Option Value) → Heap → Prop} {YP : World → Heap → Prop} {d : DefRec} {x : Str} (hn : l.most = some 63) (hdf : d.params.defaults = []) (hr : Room k callerA) (m : MF)
    (h : ∀ ns : List Int, ns.length ≤ 63 → ∃ st, m [.v (.scr ns)] [] = .ok (.v (.bl true)) st)
    (F : ∀ (w : World) (mg : Str → Option Value) (fa : Addr) (h : Heap), YP w h → h.Ns mainGlobals mg → mg d.name = some (.ref fa) →
      ∃ (K : PySem.W.Frag) (fd : FuncData) (G : Gc), K.In h ∧ G.K = K ∧ (∀ (s : Shared) (u : Value), BindsTo s fd ⟨[u], []⟩ [(x, u)]) ∧
        ∀ base : Heap, K.In base → base.Ns mainGlobals mg → FnOk l.prog w K mg base (L2.CX l.prog w) k fa fd [x] (spM G 1 m)) :
    PySem.W.WalkO q loose XP YP l.row.toRowW d [] (fun f vs => PySem.call f vs) := by
  refine Att.attach_call hn hdf fun w s₀ s₁ mg mb fa o pm cd doc a vs ns G Y ho hd hcd hmg hobj hints hlen hg => ?_
  obtain ⟨K, fd, G0, KX, eK, hb, hF⟩ := F w mg fa _ Y G.T.g hmg
  subst eK
  have hle : ns.length ≤ sizeLine := Nat.le_trans hlen (by rw [sizeLine_eq]; omega)
  refine law_call KX G.T.g G.T.b G.T.builtins G.T.nolimit hg hobj hints hle hr hF hb (fun H hO hS => sp_scr h hlen hO hS) fun H e s' z => ?_
  obtain ⟨_, _, _, _, _, _, _, _, _, _, _, _, z⟩ := z
  exact z
end DL

set_option Elab.async false
set_option linter.all false
set_option maxRecDepth 100000
set_option maxHeartbeats 0
/-! the mirrors that laws share, printed by gen.py -/
namespace DM
open PySem PySem.Spec PyProof.Rows L2 DL
def N_in_force : List Str := ["facts", "word", "gate", "day", "rows", "since", "best", "number", "fact"]
def tb_in_force : Tab := { glo := [], fn := [], mt := [], cn := [], fld := [], free := ["max"] }
def c_in_force : CS := (.cons (.asgC 4 (.cmpr true [7, 8] (.tup (.cons (.var 7) (.cons (.var 8) .nil))) (.var 0) (.and_ (.cmp .eq (.idx (.var 8) (.int 0)) (.var 1)) (.and_ (.cmp .eq (.idx (.var 8) (.int 1)) (.var 2)) (.one (.cmp .le (.idx (.var 8) (.int 2)) (.var 3))))) (.tup (.cons (.idx (.var 8) (.int 2)) (.cons (.var 7) .nil))))) (.cons (.unp (.tup (.cons (.var 5) (.cons (.var 6) .nil))) (.bestD true (.var 4) (.tup (.cons (.int 0) (.cons (.int 0) .nil))))) (.cons (.for_ (.tup (.cons (.var 7) (.cons (.var 8) .nil))) (.var 0) (.cons (.ifs (.cmp .eq (.var 7) (.var 6)) (.cons (.ret (.idx (.var 8) (.int 3))) .nil) .nil) .nil)) (.cons (.ret .non) .nil))))
noncomputable def m_in_force : MF := runD false 9 4 (denS tb_in_force { fn := [], mt := [], cn := [] } c_in_force)
def N_toll_on : List Str := ["facts", "gate", "day", "found"]
def tb_toll_on : Tab := { glo := [], fn := [("in_force", 4, [])], mt := [], cn := [], fld := [], free := [] }
def c_toll_on : CS := (.cons (.asg 3 (.call 0 (.cons (.var 0) (.cons (.str "toll") (.cons (.var 1) (.cons (.var 2) .nil)))))) (.cons (.ret (.ite (.cmp .is_ (.var 3) .non) (.int 0) (.var 3))) .nil))
noncomputable def m_toll_on : MF := runD false 4 3 (denS tb_toll_on { fn := [m_in_force], mt := [], cn := [] } c_toll_on)
def N_full_toll : List Str := ["facts", "gate", "day", "horses", "many"]
def tb_full_toll : Tab := { glo := [], fn := [("toll_on", 3, [])], mt := [], cn := [], fld := [], free := [] }
def c_full_toll : CS := (.cons (.asg 4 (.ite (.cmp .eq (.bin .mod (.var 2) (.int 7)) (.int 6)) (.int 2) (.int 1))) (.cons (.ret (.bin .mul (.bin .mul (.call 0 (.cons (.var 0) (.cons (.var 1) (.cons (.var 2) .nil)))) (.var 3)) (.var 4))) .nil))
noncomputable def m_full_toll : MF := runD false 5 4 (denS tb_full_toll { fn := [m_toll_on], mt := [], cn := [] } c_full_toll)
def N_board_on : List Str := ["facts", "gate", "day", "found", "named"]
def tb_board_on : Tab := { glo := [], fn := [("in_force", 4, [])], mt := [], cn := [], fld := [], free := ["list", "tuple", "sorted", "set"] }
def c_board_on : CS := (.cons (.asg 3 (.call 0 (.cons (.var 0) (.cons (.str "board") (.cons (.var 1) (.cons (.var 2) .nil)))))) (.cons (.asg 4 (.ite (.cmp .is_ (.var 3) .non) (.lst .nil) (.bi .list (.cons (.var 3) .nil)))) (.cons (.ret (.bi .tuple (.cons (.sset (.cons (.bin .add (.var 4) (.lst (.cons (.var 1) .nil))) .nil)) .nil))) .nil)))
noncomputable def m_board_on : MF := runD false 5 3 (denS tb_board_on { fn := [m_in_force], mt := [], cn := [] } c_board_on)
def N_Board___init__ : List Str := ["self", "facts", "horses", "day", "gate"]
def tb_Board___init__ : Tab := { glo := [("GATES", .int 8)], fn := [("full_toll", 4, []), ("board_on", 3, [])], mt := [], cn := [], fld := ["asked", "clears"], free := ["range"] }
def c_Board___init__ : CS := (.cons (.fldp "asked" (.var 0) (.cmpr true [4] (.var 4) (.rng1 (.cons (.glo 0) .nil)) .nil (.call 0 (.cons (.var 1) (.cons (.var 4) (.cons (.var 3) (.cons (.var 2) .nil))))))) (.cons (.fldp "clears" (.var 0) (.cmpr true [4] (.var 4) (.rng1 (.cons (.glo 0) .nil)) .nil (.call 1 (.cons (.var 1) (.cons (.var 4) (.cons (.var 3) .nil)))))) .nil))
noncomputable def m_Board___init__ : MF := runD true 5 4 (denS tb_Board___init__ { fn := [m_full_toll, m_board_on], mt := [], cn := [] } c_Board___init__)
def N_Board_through : List Str := ["self", "cleared", "gate"]
def tb_Board_through : Tab := { glo := [], fn := [], mt := [], cn := [], fld := ["asked", "clears"], free := ["tuple", "sorted", "set"] }
def c_Board_through : CS := (.cons (.ifs (.or_ (.cmp .is_ (.var 2) .non) (.one (.cmp .in_ (.var 2) (.var 1)))) (.cons (.ret (.tup (.cons (.int 0) (.cons (.var 1) .nil)))) .nil) .nil) (.cons (.ret (.tup (.cons (.idx (.fld "asked" (.var 0)) (.var 2)) (.cons (.bi .tuple (.cons (.sset (.cons (.bin .add (.var 1) (.idx (.fld "clears" (.var 0)) (.var 2))) .nil)) .nil)) .nil)))) .nil))
noncomputable def m_Board_through : MF := runD false 3 3 (denS tb_Board_through { fn := [], mt := [], cn := [] } c_Board_through)
def N_Hold___init__ : List Str := ["self", "there", "told"]
def tb_Hold___init__ : Tab := { glo := [], fn := [], mt := [], cn := [], fld := ["there", "many_told"], free := [] }
def c_Hold___init__ : CS := (.cons (.fldp "there" (.var 0) (.var 1)) (.cons (.fldp "many_told" (.var 0) (.var 2)) .nil))
noncomputable def m_Hold___init__ : MF := runD true 3 3 (denS tb_Hold___init__ { fn := [], mt := [], cn := [] } c_Hold___init__)
def N_Missing___init__ : List Str := ["self", "called", "number"]
def tb_Missing___init__ : Tab := { glo := [], fn := [], mt := [], cn := [], fld := ["called", "number"], free := [] }
def c_Missing___init__ : CS := (.cons (.fldp "called" (.var 0) (.var 1)) (.cons (.fldp "number" (.var 0) (.var 2)) .nil))
noncomputable def m_Missing___init__ : MF := runD true 3 3 (denS tb_Missing___init__ { fn := [], mt := [], cn := [] } c_Missing___init__)
def N_PikeError___init__ : List Str := ["self", "called"]
def tb_PikeError___init__ : Tab := { glo := [], fn := [], mt := [], cn := [], fld := ["called"], free := [] }
def c_PikeError___init__ : CS := (.cons (.fldp "called" (.var 0) (.var 1)) .nil)
noncomputable def m_PikeError___init__ : MF := runD true 2 2 (denS tb_PikeError___init__ { fn := [], mt := [], cn := [] } c_PikeError___init__)
def N_Roll___len__ : List Str := ["self"]
def tb_Roll___len__ : Tab := { glo := [], fn := [], mt := [], cn := [], fld := ["there", "times_kept"], free := ["len"] }
def c_Roll___len__ : CS := (.cons (.ret (.bi .len (.cons (.fld "there" (.idx (.fld "times_kept" (.var 0)) (.neg (.int 1)))) .nil))) .nil)
noncomputable def m_Roll___len__ : MF := runD false 1 1 (denS tb_Roll___len__ { fn := [], mt := [], cn := [] } c_Roll___len__)
def N_Roll_deeds : List Str := ["self"]
def tb_Roll_deeds : Tab := { glo := [], fn := [], mt := [], cn := [], fld := ["times_kept"], free := ["len"] }
def c_Roll_deeds : CS := (.cons (.ret (.bin .sub (.bi .len (.cons (.fld "times_kept" (.var 0)) .nil)) (.int 1))) .nil)
noncomputable def m_Roll_deeds : MF := runD false 1 1 (denS tb_Roll_deeds { fn := [], mt := [], cn := [] } c_Roll_deeds)
def N_Roll_fact_of : List Str := ["self", "number", "there"]
def tb_Roll_fact_of : Tab := { glo := [], fn := [], mt := [], cn := [], fld := ["there", "times_kept"], free := [] }
def c_Roll_fact_of : CS := (.cons (.asg 2 (.fld "there" (.idx (.fld "times_kept" (.var 0)) (.neg (.int 1))))) (.cons (.ifs (.cmp .nin (.var 1) (.var 2)) (.cons .never .nil) .nil) (.cons (.ret (.idx (.var 2) (.var 1))) .nil)))
noncomputable def m_Roll_fact_of : MF := runD false 3 2 (denS tb_Roll_fact_of { fn := [], mt := [], cn := [] } c_Roll_fact_of)
def N_Roll_facts : List Str := ["self", "there", "number"]
def tb_Roll_facts : Tab := { glo := [], fn := [], mt := [], cn := [], fld := ["there", "times_kept"], free := ["sorted"] }
def c_Roll_facts : CS := (.cons (.asg 1 (.fld "there" (.idx (.fld "times_kept" (.var 0)) (.neg (.int 1))))) (.cons (.ret (.cmpr true [2] (.var 2) (.bi .sorted (.cons (.var 1) .nil)) .nil (.tup (.cons (.var 2) (.cons (.idx (.var 1) (.var 2)) .nil))))) .nil))
noncomputable def m_Roll_facts : MF := runD false 3 1 (denS tb_Roll_facts { fn := [], mt := [], cn := [] } c_Roll_facts)
def N_Roll_go_on : List Str := ["self", "there", "told"]
def tb_Roll_go_on : Tab := { glo := [], fn := [], mt := [], cn := [("Hold", 3, [])], fld := ["times_kept", "gone"], free := [] }
def c_Roll_go_on : CS := (.cons (.exp (.bm .append (.fld "times_kept" (.var 0)) (.cons (.makeF 0 (.cons (.var 1) (.cons (.var 2) .nil))) .nil))) (.cons (.fldp "gone" (.var 0) (.lstM .nil)) .nil))
noncomputable def m_Roll_go_on : MF := runD false 3 3 (denS tb_Roll_go_on { fn := [], mt := [], cn := [m_Hold___init__] } c_Roll_go_on)
def N__wall : List Str := ["k"]
def tb__wall : Tab := { glo := [], fn := [], mt := [], cn := [], fld := [], free := [] }
def c__wall : CS := (.cons (.whl (.bl true) (.cons .pas .nil)) .nil)
noncomputable def m__wall : MF := runD false 1 1 (denS tb__wall { fn := [], mt := [], cn := [] } c__wall)
def N_Roll_known : List Str := ["self", "count"]
def tb_Roll_known : Tab := { glo := [], fn := [("_wall", 1, [])], mt := [], cn := [], fld := [], free := [] }
def c_Roll_known : CS := (.cons (.exp (.call 0 (.cons (.int 0) .nil))) .nil)
noncomputable def m_Roll_known : MF := runD false 2 2 (denS tb_Roll_known { fn := [m__wall], mt := [], cn := [] } c_Roll_known)
def N_Roll_redo : List Str := ["self"]
def tb_Roll_redo : Tab := { glo := [], fn := [], mt := [], cn := [], fld := ["gone", "times_kept"], free := ["len"] }
def c_Roll_redo : CS := (.cons (.ifs (.cmp .eq (.bi .len (.cons (.fld "gone" (.var 0)) .nil)) (.int 0)) (.cons .never .nil) .nil) (.cons (.exp (.bm .append (.fld "times_kept" (.var 0)) (.cons (.bm .popL (.fld "gone" (.var 0)) .nil) .nil))) .nil))
noncomputable def m_Roll_redo : MF := runD false 1 1 (denS tb_Roll_redo { fn := [], mt := [], cn := [] } c_Roll_redo)
def N_Roll_right : List Str := ["self", "number", "fact"]
def tb_Roll_right : Tab := { glo := [], fn := [("_wall", 1, [])], mt := [], cn := [], fld := [], free := [] }
def c_Roll_right : CS := (.cons (.exp (.call 0 (.cons (.int 1) .nil))) .nil)
noncomputable def m_Roll_right : MF := runD false 3 3 (denS tb_Roll_right { fn := [m__wall], mt := [], cn := [] } c_Roll_right)
def N_Roll_strike : List Str := ["self", "number"]
def tb_Roll_strike : Tab := { glo := [], fn := [("_wall", 1, [])], mt := [], cn := [], fld := [], free := [] }
def c_Roll_strike : CS := (.cons (.exp (.call 0 (.cons (.int 2) .nil))) .nil)
noncomputable def m_Roll_strike : MF := runD false 2 2 (denS tb_Roll_strike { fn := [m__wall], mt := [], cn := [] } c_Roll_strike)
def N_Roll_told : List Str := ["self"]
def tb_Roll_told : Tab := { glo := [], fn := [], mt := [], cn := [], fld := ["many_told", "times_kept"], free := [] }
def c_Roll_told : CS := (.cons (.ret (.fld "many_told" (.idx (.fld "times_kept" (.var 0)) (.neg (.int 1))))) .nil)
noncomputable def m_Roll_told : MF := runD false 1 1 (denS tb_Roll_told { fn := [], mt := [], cn := [] } c_Roll_told)
def N_Roll_twin : List Str := ["self"]
def tb_Roll_twin : Tab := { glo := [], fn := [("_wall", 1, [])], mt := [], cn := [], fld := [], free := [] }
def c_Roll_twin : CS := (.cons (.exp (.call 0 (.cons (.int 1) .nil))) .nil)
noncomputable def m_Roll_twin : MF := runD false 1 1 (denS tb_Roll_twin { fn := [m__wall], mt := [], cn := [] } c_Roll_twin)
def N_Roll_undo : List Str := ["self"]
def tb_Roll_undo : Tab := { glo := [], fn := [], mt := [], cn := [], fld := ["times_kept", "gone"], free := ["len"] }
def c_Roll_undo : CS := (.cons (.ifs (.cmp .eq (.bi .len (.cons (.fld "times_kept" (.var 0)) .nil)) (.int 1)) (.cons .never .nil) .nil) (.cons (.exp (.bm .append (.fld "gone" (.var 0)) (.cons (.bm .popL (.fld "times_kept" (.var 0)) .nil) .nil))) .nil))
noncomputable def m_Roll_undo : MF := runD false 1 1 (denS tb_Roll_undo { fn := [], mt := [], cn := [] } c_Roll_undo)
def N_Ticket___init__ : List Str := ["self", "number", "gate", "horses", "cleared"]
def tb_Ticket___init__ : Tab := { glo := [], fn := [], mt := [], cn := [], fld := ["bought", "gate_of", "team", "cleared"], free := [] }
def c_Ticket___init__ : CS := (.cons (.fldp "bought" (.var 0) (.var 1)) (.cons (.fldp "gate_of" (.var 0) (.var 2)) (.cons (.fldp "team" (.var 0) (.var 3)) (.cons (.fldp "cleared" (.var 0) (.var 4)) .nil))))
noncomputable def m_Ticket___init__ : MF := runD true 5 5 (denS tb_Ticket___init__ { fn := [], mt := [], cn := [] } c_Ticket___init__)
def N_lost_by : List Str := ["facts", "number", "minute", "other", "fact"]
def tb_lost_by : Tab := { glo := [], fn := [], mt := [], cn := [], fld := [], free := ["any"] }
def c_lost_by : CS := (.cons (.ret (.bi .any (.cons (.cmpr true [3, 4] (.tup (.cons (.var 3) (.cons (.var 4) .nil))) (.var 0) .nil (.and_ (.cmp .eq (.idx (.var 4) (.int 0)) (.str "lost")) (.and_ (.cmp .eq (.idx (.var 4) (.int 1)) (.var 1)) (.one (.cmp .le (.idx (.var 4) (.int 2)) (.var 2)))))) .nil))) .nil)
noncomputable def m_lost_by : MF := runD false 5 3 (denS tb_lost_by { fn := [], mt := [], cn := [] } c_lost_by)
def N_Ticket_hindrance : List Str := ["self", "facts", "gate", "horses", "minute"]
def tb_Ticket_hindrance : Tab := { glo := [], fn := [("lost_by", 3, [])], mt := [], cn := [], fld := ["cleared", "team", "bought"], free := [] }
def c_Ticket_hindrance : CS := (.cons (.ifs (.cmp .nin (.var 2) (.fld "cleared" (.var 0))) (.cons (.ret (.str "board")) .nil) .nil) (.cons (.ifs (.cmp .lt (.fld "team" (.var 0)) (.var 3)) (.cons (.ret (.str "horses")) .nil) .nil) (.cons (.ifs (.call 0 (.cons (.var 1) (.cons (.fld "bought" (.var 0)) (.cons (.var 4) .nil)))) (.cons (.ret (.str "lost")) .nil) .nil) (.cons (.ret (.str "")) .nil))))
noncomputable def m_Ticket_hindrance : MF := runD false 5 5 (denS tb_Ticket_hindrance { fn := [m_lost_by], mt := [], cn := [] } c_Ticket_hindrance)
def N_Toll___init__ : List Str := ["self", "halves"]
def tb_Toll___init__ : Tab := { glo := [], fn := [], mt := [], cn := [], fld := ["halves"], free := [] }
def c_Toll___init__ : CS := (.cons (.fldp "halves" (.var 0) (.var 1)) .nil)
noncomputable def m_Toll___init__ : MF := runD true 2 2 (denS tb_Toll___init__ { fn := [], mt := [], cn := [] } c_Toll___init__)
def N_Toll_plus : List Str := ["self", "other"]
def tb_Toll_plus : Tab := { glo := [], fn := [], mt := [], cn := [("Toll", 2, [])], fld := ["halves"], free := [] }
def c_Toll_plus : CS := (.cons (.ret (.makeF 0 (.cons (.bin .add (.fld "halves" (.var 0)) (.fld "halves" (.var 1))) .nil))) .nil)
noncomputable def m_Toll_plus : MF := runD false 2 2 (denS tb_Toll_plus { fn := [], mt := [], cn := [m_Toll___init__] } c_Toll_plus)
def N_Toll_third : List Str := ["self"]
def tb_Toll_third : Tab := { glo := [], fn := [], mt := [], cn := [("Toll", 2, [])], fld := ["halves"], free := [] }
def c_Toll_third : CS := (.cons (.ret (.makeF 0 (.cons (.bin .div (.fld "halves" (.var 0)) (.int 3)) .nil))) .nil)
noncomputable def m_Toll_third : MF := runD false 1 1 (denS tb_Toll_third { fn := [], mt := [], cn := [m_Toll___init__] } c_Toll_third)
def N_Toll_times : List Str := ["self", "many"]
def tb_Toll_times : Tab := { glo := [], fn := [], mt := [], cn := [("Toll", 2, [])], fld := ["halves"], free := [] }
def c_Toll_times : CS := (.cons (.ret (.makeF 0 (.cons (.bin .mul (.fld "halves" (.var 0)) (.var 1)) .nil))) .nil)
noncomputable def m_Toll_times : MF := runD false 2 2 (denS tb_Toll_times { fn := [], mt := [], cn := [m_Toll___init__] } c_Toll_times)
def N_passes_free : List Str := ["facts", "carriage", "gate", "day", "words", "number", "fact"]
def tb_passes_free : Tab := { glo := [], fn := [], mt := [], cn := [], fld := [], free := ["max"] }
def c_passes_free : CS := (.cons (.asg 4 (.lstM .nil)) (.cons (.for_ (.tup (.cons (.var 5) (.cons (.var 6) .nil))) (.var 0) (.cons (.ifs (.and_ (.cmp .eq (.idx (.var 6) (.int 0)) (.str "folk")) (.and_ (.cmp .eq (.idx (.var 6) (.int 1)) (.var 1)) (.one (.chn .le .le (.idx (.var 6) (.int 2)) (.var 3) (.idx (.var 6) (.int 3)))))) (.cons (.exp (.bm .append (.var 4) (.cons (.str "folk") .nil))) .nil) .nil) (.cons (.ifs (.and_ (.cmp .eq (.idx (.var 6) (.int 0)) (.str "bargain")) (.and_ (.cmp .eq (.slc (.var 6) (.psm (.int 1)) (.psm (.int 3))) (.tup (.cons (.var 2) (.cons (.var 1) .nil)))) (.one (.chn .le .le (.idx (.var 6) (.int 3)) (.var 3) (.idx (.var 6) (.int 4)))))) (.cons (.exp (.bm .append (.var 4) (.cons (.str "bargain") .nil))) .nil) .nil) .nil))) (.cons (.ret (.bestD true (.var 4) (.str ""))) .nil)))
noncomputable def m_passes_free : MF := runD false 7 4 (denS tb_passes_free { fn := [], mt := [], cn := [] } c_passes_free)
def N_Walk_row_for : List Str := ["self", "facts", "passing", "where", "pairs", "word", "clearing", "number", "gate", "horses", "carriage", "day", "bought", "mark"]
def tb_Walk_row_for : Tab := { glo := [], fn := [("passes_free", 4, []), ("board_on", 3, []), ("full_toll", 4, [])], mt := [], cn := [("Ticket", 5, [])], fld := ["tickets"], free := ["len"] }
def c_Walk_row_for : CS := (.cons (.unp (.tup (.cons (.var 7) (.cons (.var 8) (.cons (.var 9) .nil)))) (.var 2)) (.cons (.unp (.tup (.cons (.var 10) (.cons (.var 11) .nil))) (.var 3)) (.cons (.asg 5 (.call 0 (.cons (.var 1) (.cons (.var 10) (.cons (.var 8) (.cons (.var 11) .nil)))))) (.cons (.ifs (.cmp .ne (.var 5) (.str "")) (.cons (.ret (.tup (.cons (.var 7) (.cons (.var 5) (.cons .non (.cons (.int 0) .nil)))))) .nil) .nil) (.cons (.asgC 6 (.cmpr true [12, 13] (.tup (.cons (.var 12) (.cons (.var 13) .nil))) (.var 4) (.cmp .eq (.var 13) (.str "")) (.var 12))) (.cons (.ifs (.cmp .gt (.bi .len (.cons (.var 6) .nil)) (.int 0)) (.cons (.ret (.tup (.cons (.var 7) (.cons (.str "ticket") (.cons (.idx (.var 6) (.int 0)) (.cons (.int 0) .nil)))))) .nil) .nil) (.cons (.exp (.bm .append (.fld "tickets" (.var 0)) (.cons (.makeF 0 (.cons (.var 7) (.cons (.var 8) (.cons (.var 9) (.cons (.call 1 (.cons (.var 1) (.cons (.var 8) (.cons (.var 11) .nil)))) .nil))))) .nil))) (.cons (.ret (.tup (.cons (.var 7) (.cons (.str "owed") (.cons .non (.cons (.call 2 (.cons (.var 1) (.cons (.var 8) (.cons (.var 11) (.cons (.var 9) .nil))))) .nil)))))) .nil))))))))
noncomputable def m_Walk_row_for : MF := runD false 14 5 (denS tb_Walk_row_for { fn := [m_passes_free, m_board_on, m_full_toll], mt := [], cn := [m_Ticket___init__] } c_Walk_row_for)
def N__law_hold : List Str := ["_law_facts_here", "_law_word", "_law_gate_here", "_law_day_here", "_law_other", "_law_best", "_law_number", "_law_fact_here"]
def tb__law_hold : Tab := { glo := [], fn := [], mt := [], cn := [], fld := [], free := [] }
def c__law_hold : CS := (.cons (.asg 5 (.tup (.cons (.neg (.int 1)) (.cons (.var 4) .nil)))) (.cons (.for_ (.tup (.cons (.var 6) (.cons (.var 7) .nil))) (.var 0) (.cons (.ifs (.and_ (.cmp .eq (.idx (.var 7) (.int 0)) (.var 1)) (.and_ (.cmp .eq (.idx (.var 7) (.int 1)) (.var 2)) (.one (.chn .le .le (.idx (.var 5) (.int 0)) (.idx (.var 7) (.int 2)) (.var 3))))) (.cons (.asg 5 (.tup (.cons (.idx (.var 7) (.int 2)) (.cons (.idx (.var 7) (.int 3)) .nil)))) .nil) .nil) .nil)) (.cons (.ret (.idx (.var 5) (.int 1))) .nil)))
noncomputable def m__law_hold : MF := runD false 8 5 (denS tb__law_hold { fn := [], mt := [], cn := [] } c__law_hold)
def N__law_asked_toll : List Str := ["_law_facts_here", "_law_gate_here", "_law_day_here", "_law_horses"]
def tb__law_asked_toll : Tab := { glo := [], fn := [("_law_hold", 5, [])], mt := [], cn := [], fld := [], free := ["int"] }
def c__law_asked_toll : CS := (.cons (.ret (.bin .mul (.bin .mul (.call 0 (.cons (.var 0) (.cons (.str "toll") (.cons (.var 1) (.cons (.var 2) (.cons (.int 0) .nil)))))) (.var 3)) (.idx (.lst (.cons (.int 1) (.cons (.int 2) .nil))) (.bi .int (.cons (.cmp .eq (.bin .mod (.var 2) (.int 7)) (.int 6)) .nil))))) .nil)
noncomputable def m__law_asked_toll : MF := runD false 4 4 (denS tb__law_asked_toll { fn := [m__law_hold], mt := [], cn := [] } c__law_asked_toll)
def N__law_bag : List Str := ["_law_script", "_law_salt", "_law_cell"]
def tb__law_bag : Tab := { glo := [], fn := [], mt := [], cn := [], fld := [], free := ["list"] }
def c__law_bag : CS := (.cons (.asg 1 (.int 977)) (.cons (.for_ (.var 2) (.slc (.var 0) .pno (.psm (.int 63))) (.cons (.asg 1 (.bin .mod (.bin .add (.bin .add (.bin .mul (.var 1) (.int 48271)) (.bin .mod (.var 2) (.int 2147483629))) (.int 11)) (.int 2147483647))) .nil)) (.cons (.ret (.lstM (.cons (.bi .list (.cons (.slc (.var 0) .pno (.psm (.int 63))) .nil)) (.cons (.int 0) (.cons (.int 0) (.cons (.var 1) .nil)))))) .nil)))
noncomputable def m__law_bag : MF := runD true 3 1 (denS tb__law_bag { fn := [], mt := [], cn := [] } c__law_bag)
def N__law_clears : List Str := ["_law_facts_here", "_law_gate_here", "_law_day_here", "_law_named", "_law_one"]
def tb__law_clears : Tab := { glo := [], fn := [("_law_hold", 5, [])], mt := [], cn := [], fld := [], free := ["range"] }
def c__law_clears : CS := (.cons (.asg 3 (.call 0 (.cons (.var 0) (.cons (.str "board") (.cons (.var 1) (.cons (.var 2) (.cons (.tup .nil) .nil))))))) (.cons (.ret (.cmpr true [4] (.var 4) (.rng1 (.cons (.int 8) .nil)) (.or_ (.cmp .in_ (.var 4) (.var 3)) (.one (.cmp .eq (.var 4) (.var 1)))) (.var 4))) .nil))
noncomputable def m__law_clears : MF := runD false 5 3 (denS tb__law_clears { fn := [m__law_hold], mt := [], cn := [] } c__law_clears)
def N__law_bar : List Str := ["_law_facts_here", "_law_ticket", "_law_day_here", "_law_minute", "_law_gate_here", "_law_horses", "_law_gone", "_law_number", "_law_sold", "_law_team", "_law_other", "_law_fact_here"]
def tb__law_bar : Tab := { glo := [], fn := [("_law_clears", 3, [])], mt := [], cn := [], fld := [], free := ["min"] }
def c__law_bar : CS := (.cons (.unp (.tup (.cons (.var 7) (.cons (.var 8) (.cons (.var 9) .nil)))) (.var 1)) (.cons (.ifs (.cmp .nin (.var 4) (.call 0 (.cons (.var 0) (.cons (.var 8) (.cons (.var 2) .nil))))) (.cons (.ret (.str "board")) .nil) .nil) (.cons (.ifs (.cmp .lt (.var 9) (.var 5)) (.cons (.ret (.str "horses")) .nil) .nil) (.cons (.asgC 6 (.cmpr true [10, 11] (.tup (.cons (.var 10) (.cons (.var 11) .nil))) (.var 0) (.and_ (.cmp .eq (.idx (.var 11) (.int 0)) (.str "lost")) (.one (.cmp .eq (.idx (.var 11) (.int 1)) (.var 7)))) (.idx (.var 11) (.int 2)))) (.cons (.ret (.ite (.cmp .le (.bi .min1 (.cons (.bin .add (.var 6) (.lst (.cons (.int 1440) .nil))) .nil)) (.var 3)) (.str "lost") (.str ""))) .nil)))))
noncomputable def m__law_bar : MF := runD false 12 6 (denS tb__law_bar { fn := [m__law_clears], mt := [], cn := [] } c__law_bar)
def N__law_pull : List Str := ["_law_bag_here", "_law_amount", "_law_seed", "_law_cell", "_law_got"]
def tb__law_pull : Tab := { glo := [], fn := [], mt := [], cn := [], fld := [], free := ["len"] }
def c__law_pull : CS := (.cons (.ifs (.and_ (.cmp .eq (.idx (.var 0) (.int 2)) (.int 0)) (.one (.cmp .lt (.idx (.var 0) (.int 1)) (.bi .len (.cons (.idx (.var 0) (.int 0)) .nil))))) (.cons (.asg 3 (.idx (.idx (.var 0) (.int 0)) (.idx (.var 0) (.int 1)))) (.cons (.put (.var 0) (.int 1) (.bin .add (.idx (.var 0) (.int 1)) (.int 1))) (.cons (.ifs (.cmp .ge (.var 3) (.bin .pow (.int 10) (.int 18))) (.cons (.put (.var 0) (.int 2) (.var 3)) .nil) (.cons (.put (.var 0) (.int 3) (.bin .mod (.bin .add (.bin .add (.bin .mul (.idx (.var 0) (.int 3)) (.int 69621)) (.bin .mul (.bin .mod (.var 3) (.int 2147483629)) (.int 48271))) (.int 5)) (.int 2147483647))) .nil)) .nil))) .nil) (.cons (.ifs (.cmp .gt (.idx (.var 0) (.int 2)) (.int 0)) (.cons (.asg 4 (.bin .mod (.idx (.var 0) (.int 2)) (.var 1))) (.cons (.put (.var 0) (.int 2) (.bin .div (.idx (.var 0) (.int 2)) (.var 1))) (.cons (.ret (.var 4)) .nil))) .nil) (.cons (.asg 2 (.idx (.var 0) (.int 3))) (.cons (.put (.var 0) (.int 3) (.bin .mod (.bin .add (.bin .add (.bin .mul (.var 2) (.int 39373)) (.bin .mul (.bin .div (.var 2) (.int 127773)) (.int 31))) (.int 1013904223)) (.int 2147483647))) (.cons (.ret (.bin .mod (.bin .add (.bin .div (.idx (.var 0) (.int 3)) (.int 97)) (.bin .mul (.bin .mod (.idx (.var 0) (.int 3)) (.int 8191)) (.int 53))) (.var 1))) .nil)))))
noncomputable def m__law_pull : MF := runD false 5 2 (denS tb__law_pull { fn := [], mt := [], cn := [] } c__law_pull)
def N__law_far : List Str := ["_law_bag_here", "_law_number"]
def tb__law_far : Tab := { glo := [], fn := [("_law_pull", 2, [])], mt := [], cn := [], fld := [], free := [] }
def c__law_far : CS := (.cons (.asg 1 (.call 0 (.cons (.var 0) (.cons (.bin .pow (.int 10) (.int 9)) .nil)))) (.cons (.ifs (.cmp .eq (.call 0 (.cons (.var 0) (.cons (.int 2) .nil))) (.int 0)) (.cons (.asg 1 (.bin .add (.var 1) (.bin .pow (.int 10) (.int 20)))) .nil) .nil) (.cons (.ifs (.cmp .eq (.call 0 (.cons (.var 0) (.cons (.int 2) .nil))) (.int 0)) (.cons (.ret (.bin .sub (.neg (.int 1)) (.var 1))) .nil) .nil) (.cons (.ret (.var 1)) .nil))))
noncomputable def m__law_far : MF := runD false 2 1 (denS tb__law_far { fn := [m__law_pull], mt := [], cn := [] } c__law_far)
def N__law_bent : List Str := ["_law_bag_here", "_law_fact_here", "_law_way", "_law_at", "_law_number", "_law_bad"]
def tb__law_bent : Tab := { glo := [], fn := [("_law_pull", 2, []), ("_law_far", 1, [])], mt := [], cn := [], fld := [], free := ["len"] }
def c__law_bent : CS := (.cons (.asg 2 (.call 0 (.cons (.var 0) (.cons (.int 6) .nil)))) (.cons (.ifs (.cmp .eq (.var 2) (.int 0)) (.cons (.ret (.slc (.var 1) .pno (.psm (.neg (.int 1))))) .nil) .nil) (.cons (.ifs (.cmp .eq (.var 2) (.int 1)) (.cons (.ret (.bin .add (.var 1) (.tup (.cons (.int 1) .nil)))) .nil) .nil) (.cons (.ifs (.cmp .eq (.var 2) (.int 2)) (.cons (.ret (.bin .add (.tup (.cons (.idx (.lst (.cons (.str "") (.cons (.str "Pass") (.cons (.str "tolls") (.cons (.str "gate") (.cons (.str "pass ") .nil)))))) (.call 0 (.cons (.var 0) (.cons (.int 5) .nil)))) .nil)) (.slc (.var 1) (.psm (.int 1)) .pno))) .nil) .nil) (.cons (.ifs (.and_ (.cmp .eq (.idx (.var 1) (.int 0)) (.str "board")) (.one (.cmp .eq (.call 0 (.cons (.var 0) (.cons (.int 2) .nil))) (.int 0)))) (.cons (.asg 5 (.idx (.lst (.cons (.tup (.cons (.int 1) (.cons (.int 0) .nil))) (.cons (.tup (.cons (.int 2) (.cons (.int 2) .nil))) (.cons (.tup (.cons (.int 8) .nil)) (.cons (.tup (.cons (.neg (.int 1)) (.cons (.int 3) .nil))) (.cons (.tup (.cons (.int 0) (.cons (.int 9) .nil))) (.cons (.tup (.cons (.int 7) (.cons (.bin .pow (.int 10) (.int 20)) .nil))) .nil))))))) (.call 0 (.cons (.var 0) (.cons (.int 6) .nil))))) (.cons (.ret (.bin .add (.slc (.var 1) .pno (.psm (.int 3))) (.tup (.cons (.var 5) .nil)))) .nil)) .nil) (.cons (.asg 3 (.bin .add (.int 1) (.call 0 (.cons (.var 0) (.cons (.ite (.cmp .eq (.idx (.var 1) (.int 0)) (.str "board")) (.int 2) (.bin .sub (.bi .len (.cons (.var 1) .nil)) (.int 1))) .nil))))) (.cons (.asg 4 (.idx (.lst (.cons (.neg (.int 1)) (.cons (.int 0) (.cons (.int 8) (.cons (.int 9) (.cons (.int 10) (.cons (.int 49) (.cons (.int 1000) (.cons (.int 1440) (.cons (.int 100001) (.cons (.int 4) (.cons (.call 1 (.cons (.var 0) .nil)) .nil)))))))))))) (.call 0 (.cons (.var 0) (.cons (.int 11) .nil))))) (.cons (.ret (.bin .add (.bin .add (.slc (.var 1) .pno (.psm (.var 3))) (.tup (.cons (.var 4) .nil))) (.slc (.var 1) (.psm (.bin .add (.var 3) (.int 1))) .pno))) .nil))))))))
noncomputable def m__law_bent : MF := runD false 6 2 (denS tb__law_bent { fn := [m__law_pull, m__law_far], mt := [], cn := [] } c__law_bent)
def N__law_bent_net : List Str := ["_law_bag_here", "_law_net_here", "_law_way", "_law_at", "_law_bad"]
def tb__law_bent_net : Tab := { glo := [], fn := [("_law_pull", 2, []), ("_law_far", 1, [])], mt := [], cn := [], fld := [], free := ["len"] }
def c__law_bent_net : CS := (.cons (.asg 2 (.call 0 (.cons (.var 0) (.cons (.int 4) .nil)))) (.cons (.ifs (.cmp .eq (.var 2) (.int 0)) (.cons (.ret (.bin .mul (.bin .add (.var 1) (.lst (.cons (.tup (.cons (.int 0) (.cons (.int 1) (.cons (.int 0) .nil)))) .nil))) (.int 13))) .nil) .nil) (.cons (.asg 3 (.call 0 (.cons (.var 0) (.cons (.bin .add (.bi .len (.cons (.var 1) .nil)) (.int 1)) .nil)))) (.cons (.asg 4 (.idx (.lst (.cons (.tup (.cons (.int 8) (.cons (.int 0) (.cons .non .nil)))) (.cons (.tup (.cons (.int 0) (.cons (.neg (.int 1)) (.cons (.int 1) .nil)))) (.cons (.tup (.cons (.int 1) (.cons (.int 2) (.cons (.int 8) .nil)))) (.cons (.tup (.cons (.int 1) (.cons (.int 2) (.cons (.neg (.int 1)) .nil)))) (.cons (.tup (.cons (.int 0) (.cons (.call 1 (.cons (.var 0) .nil)) (.cons .non .nil)))) .nil)))))) (.call 0 (.cons (.var 0) (.cons (.int 5) .nil))))) (.cons (.ret (.bin .add (.bin .add (.slc (.var 1) .pno (.psm (.var 3))) (.lst (.cons (.var 4) .nil))) (.slc (.var 1) (.psm (.var 3)) .pno))) .nil)))))
noncomputable def m__law_bent_net : MF := runD false 5 2 (denS tb__law_bent_net { fn := [m__law_pull, m__law_far], mt := [], cn := [] } c__law_bent_net)
def N__law_gate : List Str := ["_law_bag_here"]
def tb__law_gate : Tab := { glo := [], fn := [("_law_pull", 2, [])], mt := [], cn := [], fld := [], free := ["int"] }
def c__law_gate : CS := (.cons (.ret (.call 0 (.cons (.var 0) (.cons (.idx (.tup (.cons (.int 4) (.cons (.int 8) .nil))) (.bi .int (.cons (.cmp .eq (.call 0 (.cons (.var 0) (.cons (.int 4) .nil))) (.int 0)) .nil))) .nil)))) .nil)
noncomputable def m__law_gate : MF := runD false 1 1 (denS tb__law_gate { fn := [m__law_pull], mt := [], cn := [] } c__law_gate)
def N__law_day : List Str := ["_law_bag_here", "_law_some"]
def tb__law_day : Tab := { glo := [], fn := [("_law_pull", 2, [])], mt := [], cn := [], fld := [], free := [] }
def c__law_day : CS := (.cons (.asg 1 (.idx (.lst (.cons (.int 13) (.cons (.int 999) (.cons (.int 993) (.cons (.int 6) .nil))))) (.call 0 (.cons (.var 0) (.cons (.int 4) .nil))))) (.cons (.ret (.idx (.lst (.cons (.call 0 (.cons (.var 0) (.cons (.int 9) .nil))) (.cons (.var 1) (.cons (.bin .add (.int 5) (.call 0 (.cons (.var 0) (.cons (.int 3) .nil)))) (.cons (.call 0 (.cons (.var 0) (.cons (.int 1000) .nil))) .nil))))) (.call 0 (.cons (.var 0) (.cons (.int 4) .nil))))) .nil))
noncomputable def m__law_day : MF := runD false 2 1 (denS tb__law_day { fn := [m__law_pull], mt := [], cn := [] } c__law_day)
def N__law_board : List Str := ["_law_bag_here", "_law_gates", "_law_gate_here"]
def tb__law_board : Tab := { glo := [], fn := [("_law_pull", 2, []), ("_law_gate", 1, []), ("_law_day", 1, [])], mt := [], cn := [], fld := [], free := ["tuple", "range"] }
def c__law_board : CS := (.cons (.asg 1 (.bi .tuple (.cons (.cmpr true [2] (.var 2) (.rng1 (.cons (.int 8) .nil)) (.cmp .eq (.call 0 (.cons (.var 0) (.cons (.int 3) .nil))) (.int 0)) (.var 2)) .nil))) (.cons (.ret (.tup (.cons (.str "board") (.cons (.call 1 (.cons (.var 0) .nil)) (.cons (.call 2 (.cons (.var 0) .nil)) (.cons (.var 1) .nil)))))) .nil))
noncomputable def m__law_board : MF := runD false 3 1 (denS tb__law_board { fn := [m__law_pull, m__law_gate, m__law_day], mt := [], cn := [] } c__law_board)
def N__law_passing : List Str := ["_law_bag_here", "_law_minute", "_law_carriage"]
def tb__law_passing : Tab := { glo := [], fn := [("_law_pull", 2, []), ("_law_day", 1, []), ("_law_gate", 1, [])], mt := [], cn := [], fld := [], free := ["int"] }
def c__law_passing : CS := (.cons (.asg 1 (.idx (.lst (.cons (.call 0 (.cons (.var 0) (.cons (.int 6) .nil))) (.cons (.call 0 (.cons (.var 0) (.cons (.int 1440) .nil))) (.cons (.int 1439) .nil)))) (.call 0 (.cons (.var 0) (.cons (.int 3) .nil))))) (.cons (.asg 2 (.call 0 (.cons (.var 0) (.cons (.idx (.tup (.cons (.int 3) (.cons (.int 10) .nil))) (.bi .int (.cons (.cmp .eq (.call 0 (.cons (.var 0) (.cons (.int 4) .nil))) (.int 0)) .nil))) .nil)))) (.cons (.ret (.tup (.cons (.str "pass") (.cons (.call 1 (.cons (.var 0) .nil)) (.cons (.var 1) (.cons (.call 2 (.cons (.var 0) .nil)) (.cons (.var 2) (.cons (.bin .add (.int 1) (.call 0 (.cons (.var 0) (.cons (.int 8) .nil)))) .nil)))))))) .nil)))
noncomputable def m__law_passing : MF := runD false 3 1 (denS tb__law_passing { fn := [m__law_pull, m__law_day, m__law_gate], mt := [], cn := [] } c__law_passing)
def N__law_stretch : List Str := ["_law_bag_here", "_law_first"]
def tb__law_stretch : Tab := { glo := [], fn := [("_law_day", 1, []), ("_law_pull", 2, [])], mt := [], cn := [], fld := [], free := [] }
def c__law_stretch : CS := (.cons (.asg 1 (.call 0 (.cons (.var 0) .nil))) (.cons (.ret (.tup (.cons (.var 1) (.cons (.bin .mod (.idx (.lst (.cons (.var 1) (.cons (.int 999) (.cons (.bin .add (.var 1) (.call 1 (.cons (.var 0) (.cons (.int 3) .nil)))) (.cons (.call 0 (.cons (.var 0) .nil)) .nil))))) (.call 1 (.cons (.var 0) (.cons (.int 4) .nil)))) (.int 1000)) .nil)))) .nil))
noncomputable def m__law_stretch : MF := runD false 2 1 (denS tb__law_stretch { fn := [m__law_day, m__law_pull], mt := [], cn := [] } c__law_stretch)
def N__law_fact : List Str := ["_law_bag_here", "_law_amount", "_law_turn", "_law_coins"]
def tb__law_fact : Tab := { glo := [], fn := [("_law_pull", 2, []), ("_law_passing", 1, []), ("_law_gate", 1, []), ("_law_day", 1, []), ("_law_board", 1, []), ("_law_stretch", 1, [])], mt := [], cn := [], fld := [], free := ["int"] }
def c__law_fact : CS := (.cons (.asg 2 (.call 0 (.cons (.var 0) (.cons (.int 16) .nil)))) (.cons (.ifs (.cmp .lt (.var 2) (.int 7)) (.cons (.ret (.call 1 (.cons (.var 0) .nil))) .nil) .nil) (.cons (.ifs (.cmp .lt (.var 2) (.int 9)) (.cons (.ret (.tup (.cons (.str "toll") (.cons (.call 2 (.cons (.var 0) .nil)) (.cons (.call 3 (.cons (.var 0) .nil)) (.cons (.call 0 (.cons (.var 0) (.cons (.int 49) .nil))) .nil)))))) .nil) .nil) (.cons (.ifs (.cmp .lt (.var 2) (.int 11)) (.cons (.ret (.call 4 (.cons (.var 0) .nil))) .nil) .nil) (.cons (.ifs (.cmp .lt (.var 2) (.int 12)) (.cons (.ret (.tup (.cons (.str "trust") (.cons (.call 2 (.cons (.var 0) .nil)) (.cons (.call 3 (.cons (.var 0) .nil)) (.cons (.call 0 (.cons (.var 0) (.cons (.int 4) .nil))) .nil)))))) .nil) .nil) (.cons (.ifs (.cmp .lt (.var 2) (.int 13)) (.cons (.ret (.bin .add (.tup (.cons (.str "folk") (.cons (.call 0 (.cons (.var 0) (.cons (.int 10) .nil))) .nil))) (.call 5 (.cons (.var 0) .nil)))) .nil) .nil) (.cons (.ifs (.cmp .lt (.var 2) (.int 14)) (.cons (.ret (.bin .add (.tup (.cons (.str "bargain") (.cons (.call 2 (.cons (.var 0) .nil)) (.cons (.call 0 (.cons (.var 0) (.cons (.int 3) .nil))) .nil)))) (.call 5 (.cons (.var 0) .nil)))) .nil) .nil) (.cons (.ifs (.cmp .lt (.var 2) (.int 15)) (.cons (.ret (.tup (.cons (.str "lost") (.cons (.bin .add (.int 1) (.call 0 (.cons (.var 0) (.cons (.bin .add (.var 1) (.int 2)) .nil)))) (.cons (.idx (.lst (.cons (.int 0) (.cons (.call 0 (.cons (.var 0) (.cons (.int 1440) .nil))) (.cons (.int 3) .nil)))) (.call 0 (.cons (.var 0) (.cons (.int 3) .nil)))) .nil))))) .nil) .nil) (.cons (.asg 3 (.idx (.lst (.cons (.call 0 (.cons (.var 0) (.cons (.int 500) .nil))) (.cons (.call 0 (.cons (.var 0) (.cons (.int 500) .nil))) (.cons (.bin .add (.int 99999) (.call 0 (.cons (.var 0) (.cons (.int 2) .nil)))) .nil)))) (.call 0 (.cons (.var 0) (.cons (.int 3) .nil))))) (.cons (.ret (.tup (.cons (.str "paid") (.cons (.call 0 (.cons (.var 0) (.cons (.idx (.tup (.cons (.int 3) (.cons (.int 10) .nil))) (.bi .int (.cons (.cmp .eq (.call 0 (.cons (.var 0) (.cons (.int 4) .nil))) (.int 0)) .nil))) .nil))) (.cons (.call 3 (.cons (.var 0) .nil)) (.cons (.var 3) .nil)))))) .nil))))))))))
noncomputable def m__law_fact : MF := runD false 4 2 (denS tb__law_fact { fn := [m__law_pull, m__law_passing, m__law_gate, m__law_day, m__law_board, m__law_stretch], mt := [], cn := [] } c__law_fact)
def N__law_deed : List Str := ["_law_bag_here", "_law_model", "_law_numbers", "_law_turn", "_law_number", "_law_old", "_law_fact_here"]
def tb__law_deed : Tab := { glo := [], fn := [("_law_pull", 2, []), ("_law_fact", 2, []), ("_law_far", 1, [])], mt := [], cn := [], fld := [], free := ["sorted", "len"] }
def c__law_deed : CS := (.cons (.asg 2 (.bi .sorted (.cons (.idx (.var 1) (.str "facts")) .nil))) (.cons (.asg 3 (.call 0 (.cons (.var 0) (.cons (.int 8) .nil)))) (.cons (.ifs (.or_ (.cmp .lt (.var 3) (.int 5)) (.one (.cmp .eq (.bi .len (.cons (.var 2) .nil)) (.int 0)))) (.cons (.ret (.tup (.cons (.str "tell") (.cons (.call 1 (.cons (.var 0) (.cons (.idx (.var 1) (.str "told")) .nil))) .nil)))) .nil) .nil) (.cons (.asg 4 (.idx (.var 2) (.call 0 (.cons (.var 0) (.cons (.bi .len (.cons (.var 2) .nil)) .nil))))) (.cons (.asg 5 (.idx (.idx (.var 1) (.str "facts")) (.var 4))) (.cons (.ifs (.cmp .eq (.call 0 (.cons (.var 0) (.cons (.int 8) .nil))) (.int 0)) (.cons (.asg 4 (.idx (.lst (.cons (.int 0) (.cons (.bin .add (.idx (.var 1) (.str "told")) (.int 1)) (.cons (.int 1) (.cons (.call 2 (.cons (.var 0) .nil)) .nil))))) (.call 0 (.cons (.var 0) (.cons (.int 4) .nil))))) .nil) .nil) (.cons (.ifs (.cmp .eq (.var 3) (.int 5)) (.cons (.ret (.tup (.cons (.str "strike") (.cons (.var 4) .nil)))) .nil) .nil) (.cons (.asg 6 (.call 1 (.cons (.var 0) (.cons (.idx (.var 1) (.str "told")) .nil)))) (.cons (.ifs (.and_ (.cmp .ne (.idx (.var 6) (.int 0)) (.idx (.var 5) (.int 0))) (.one (.cmp .gt (.call 0 (.cons (.var 0) (.cons (.int 3) .nil))) (.int 0)))) (.cons (.asg 6 (.bin .add (.bin .add (.slc (.var 5) .pno (.psm (.int 1))) (.tup (.cons (.bin .add (.bin .mod (.idx (.var 5) (.int 1)) (.int 3)) (.int 1)) .nil))) (.slc (.var 5) (.psm (.int 2)) .pno))) .nil) .nil) (.cons (.ret (.tup (.cons (.str "right") (.cons (.var 4) (.cons (.var 6) .nil))))) .nil))))))))))
noncomputable def m__law_deed : MF := runD false 7 2 (denS tb__law_deed { fn := [m__law_pull, m__law_fact, m__law_far], mt := [], cn := [] } c__law_deed)
def N__law_fact_list : List Str := ["_law_model", "_law_number"]
def tb__law_fact_list : Tab := { glo := [], fn := [], mt := [], cn := [], fld := [], free := ["sorted"] }
def c__law_fact_list : CS := (.cons (.ret (.cmpr true [1] (.var 1) (.bi .sorted (.cons (.idx (.var 0) (.str "facts")) .nil)) .nil (.tup (.cons (.var 1) (.cons (.idx (.idx (.var 0) (.str "facts")) (.var 1)) .nil))))) .nil)
noncomputable def m__law_fact_list : MF := runD false 2 1 (denS tb__law_fact_list { fn := [], mt := [], cn := [] } c__law_fact_list)
def N__law_facts : List Str := ["_law_bag_here", "_law_most", "_law_amount", "_law_found", "_law_number", "_law_one_day", "_law_day_here", "_law_turn", "_law_fact_here"]
def tb__law_facts : Tab := { glo := [], fn := [("_law_pull", 2, []), ("_law_fact", 2, [])], mt := [], cn := [], fld := [], free := ["range", "int"] }
def c__law_facts : CS := (.cons (.asg 2 (.call 0 (.cons (.var 0) (.cons (.bin .add (.var 1) (.int 1)) .nil)))) (.cons (.asg 3 (.lstM .nil)) (.cons (.asg 4 (.int 0)) (.cons (.asg 5 (.cmp .gt (.call 0 (.cons (.var 0) (.cons (.int 3) .nil))) (.int 0))) (.cons (.asg 6 (.bin .add (.int 5) (.call 0 (.cons (.var 0) (.cons (.int 3) .nil))))) (.cons (.for_ (.var 7) (.rng1 (.cons (.var 2) .nil)) (.cons (.asg 4 (.bin .add (.bin .add (.var 4) (.int 1)) (.bi .int (.cons (.cmp .eq (.call 0 (.cons (.var 0) (.cons (.int 6) .nil))) (.int 0)) .nil)))) (.cons (.asg 8 (.call 1 (.cons (.var 0) (.cons (.var 2) .nil)))) (.cons (.ifs (.and_ (.var 5) (.one (.cmp .eq (.idx (.var 8) (.int 0)) (.str "pass")))) (.cons (.asg 8 (.bin .add (.tup (.cons (.str "pass") (.cons (.var 6) (.cons (.idx (.var 8) (.int 2)) (.cons (.idx (.var 8) (.int 3)) (.cons (.bin .mod (.idx (.var 8) (.int 4)) (.int 2)) .nil)))))) (.slc (.var 8) (.psm (.int 5)) .pno))) .nil) .nil) (.cons (.ifs (.and_ (.var 5) (.one (.cmp .in_ (.idx (.var 8) (.int 0)) (.lst (.cons (.str "toll") (.cons (.str "board") .nil)))))) (.cons (.asg 8 (.bin .add (.bin .add (.slc (.var 8) .pno (.psm (.int 2))) (.tup (.cons (.bin .mod (.idx (.var 8) (.int 2)) (.bin .add (.var 6) (.int 2))) .nil))) (.slc (.var 8) (.psm (.int 3)) .pno))) .nil) .nil) (.cons (.exp (.bm .append (.var 3) (.cons (.tup (.cons (.var 4) (.cons (.var 8) .nil))) .nil))) .nil)))))) (.cons (.ret (.var 3)) .nil)))))))
noncomputable def m__law_facts : MF := runD false 9 2 (denS tb__law_facts { fn := [m__law_pull, m__law_fact], mt := [], cn := [] } c__law_facts)
def N__law_first : List Str := ["_law_start", "_law_errands", "_law_one"]
def tb__law_first : Tab := { glo := [], fn := [], mt := [], cn := [], fld := [], free := ["tuple", "range"] }
def c__law_first : CS := (.cons (.ret (.tup (.cons (.var 0) (.cons (.tup .nil) (.cons (.bi .tuple (.cons (.cmpr true [2] (.var 2) (.rng1 (.cons (.int 8) .nil)) (.and_ (.cmp .in_ (.var 2) (.var 1)) (.one (.cmp .ne (.var 2) (.var 0)))) (.var 2)) .nil)) .nil))))) .nil)
noncomputable def m__law_first : MF := runD false 3 2 (denS tb__law_first { fn := [], mt := [], cn := [] } c__law_first)
def N__law_free : List Str := ["_law_facts_here", "_law_carriage", "_law_gate_here", "_law_day_here", "_law_number", "_law_fact_here"]
def tb__law_free : Tab := { glo := [], fn := [], mt := [], cn := [], fld := [], free := [] }
def c__law_free : CS := (.cons (.for_ (.tup (.cons (.var 4) (.cons (.var 5) .nil))) (.var 0) (.cons (.ifs (.and_ (.cmp .eq (.idx (.var 5) (.int 0)) (.str "folk")) (.and_ (.cmp .eq (.idx (.var 5) (.int 1)) (.var 1)) (.one (.chn .le .le (.idx (.var 5) (.int 2)) (.var 3) (.idx (.var 5) (.int 3)))))) (.cons (.ret (.str "folk")) .nil) .nil) .nil)) (.cons (.for_ (.tup (.cons (.var 4) (.cons (.var 5) .nil))) (.var 0) (.cons (.ifs (.and_ (.cmp .eq (.idx (.var 5) (.int 0)) (.str "bargain")) (.and_ (.cmp .eq (.idx (.var 5) (.int 1)) (.var 2)) (.and_ (.cmp .eq (.idx (.var 5) (.int 2)) (.var 1)) (.one (.chn .le .le (.idx (.var 5) (.int 3)) (.var 3) (.idx (.var 5) (.int 4))))))) (.cons (.ret (.str "bargain")) .nil) .nil) .nil)) (.cons (.ret (.str "")) .nil)))
noncomputable def m__law_free : MF := runD false 6 4 (denS tb__law_free { fn := [], mt := [], cn := [] } c__law_free)
def N__law_like : List Str := ["_law_found", "_law_due", "_law_k"]
def tb__law_like : Tab := { glo := [], fn := [("_law_like", 2, [])], mt := [], cn := [], fld := [], free := ["isinstance", "list", "tuple", "bool", "all", "range", "len"] }
def c__law_like : CS := (.cons (.ifs (.or_ (.cmp .ne (.isi .tuple (.var 1)) (.isi .tuple (.var 0))) (.one (.cmp .ne (.isi .list (.var 1)) (.isi .list (.var 0))))) (.cons (.ret (.bl false)) .nil) .nil) (.cons (.ifs (.not_ (.isiTL (.var 1))) (.cons (.ret (.and_ (.cmp .eq (.isi .bool (.var 0)) (.isi .bool (.var 1))) (.one (.cmp .eq (.var 0) (.var 1))))) .nil) .nil) (.cons (.ret (.and_ (.cmp .eq (.bi .len (.cons (.var 0) .nil)) (.bi .len (.cons (.var 1) .nil))) (.one (.bi .all (.cons (.cmpr true [2] (.var 2) (.rng1 (.cons (.bi .len (.cons (.var 1) .nil)) .nil)) .nil (.call 0 (.cons (.idx (.var 0) (.var 2)) (.cons (.idx (.var 1) (.var 2)) .nil)))) .nil))))) .nil)))
noncomputable def m__law_like : Nat → MF
  | 0 => runD false 3 2 (denS {} {} .never)
  | f + 1 => runD false 3 2 (denS tb__law_like { fn := [(m__law_like f)], mt := [], cn := [] } c__law_like)
def N__law_mixed : List Str := ["_law_bag_here", "_law_row", "_law_left", "_law_found", "_law_step"]
def tb__law_mixed : Tab := { glo := [], fn := [("_law_pull", 2, [])], mt := [], cn := [], fld := [], free := ["list", "range", "len"] }
def c__law_mixed : CS := (.cons (.asg 2 (.bi .listM (.cons (.var 1) .nil))) (.cons (.asg 3 (.lstM .nil)) (.cons (.for_ (.var 4) (.rng1 (.cons (.bi .len (.cons (.var 1) .nil)) .nil)) (.cons (.exp (.bm .append (.var 3) (.cons (.bm .popAt (.var 2) (.cons (.call 0 (.cons (.var 0) (.cons (.bi .len (.cons (.var 2) .nil)) .nil))) .nil)) .nil))) .nil)) (.cons (.ret (.var 3)) .nil))))
noncomputable def m__law_mixed : MF := runD false 5 2 (denS tb__law_mixed { fn := [m__law_pull], mt := [], cn := [] } c__law_mixed)
def N__law_net : List Str := ["_law_bag_here", "_law_places", "_law_found", "_law_turn", "_law_one", "_law_gate_here"]
def tb__law_net : Tab := { glo := [], fn := [("_law_pull", 2, []), ("_law_gate", 1, [])], mt := [], cn := [], fld := [], free := ["range"] }
def c__law_net : CS := (.cons (.asg 1 (.bin .add (.int 2) (.call 0 (.cons (.var 0) (.cons (.int 7) .nil))))) (.cons (.asg 2 (.lstM .nil)) (.cons (.for_ (.var 3) (.rng1 (.cons (.call 0 (.cons (.var 0) (.cons (.int 13) .nil))) .nil)) (.cons (.asg 4 (.call 0 (.cons (.var 0) (.cons (.var 1) .nil)))) (.cons (.asg 5 (.idx (.lst (.cons .non (.cons (.call 1 (.cons (.var 0) .nil)) (.cons (.call 0 (.cons (.var 0) (.cons (.int 3) .nil))) (.cons (.call 1 (.cons (.var 0) .nil)) .nil))))) (.call 0 (.cons (.var 0) (.cons (.int 4) .nil))))) (.cons (.exp (.bm .append (.var 2) (.cons (.tup (.cons (.var 4) (.cons (.idx (.lst (.cons (.bin .mod (.bin .add (.var 4) (.int 1)) (.var 1)) (.cons (.call 0 (.cons (.var 0) (.cons (.var 1) .nil))) .nil))) (.call 0 (.cons (.var 0) (.cons (.int 2) .nil)))) (.cons (.var 5) .nil)))) .nil))) .nil)))) (.cons (.ret (.var 2)) .nil))))
noncomputable def m__law_net : MF := runD false 6 1 (denS tb__law_net { fn := [m__law_pull, m__law_gate], mt := [], cn := [] } c__law_net)
def N__law_net_ok : List Str := ["_law_net_here", "_law_one", "_law_other", "_law_gate_here"]
def tb__law_net_ok : Tab := { glo := [], fn := [], mt := [], cn := [], fld := [], free := ["len"] }
def c__law_net_ok : CS := (.cons (.ifs (.cmp .gt (.bi .len (.cons (.var 0) .nil)) (.int 12)) (.cons (.ret (.bl false)) .nil) .nil) (.cons (.for_ (.tup (.cons (.var 1) (.cons (.var 2) (.cons (.var 3) .nil)))) (.var 0) (.cons (.ifs (.or_ (.not_ (.chn .le .le (.int 0) (.var 1) (.int 7))) (.or_ (.not_ (.chn .le .le (.int 0) (.var 2) (.int 7))) (.one (.and_ (.cmp .isn (.var 3) .non) (.one (.not_ (.chn .le .le (.int 0) (.var 3) (.int 7)))))))) (.cons (.ret (.bl false)) .nil) .nil) .nil)) (.cons (.ret (.bl true)) .nil)))
noncomputable def m__law_net_ok : MF := runD false 4 1 (denS tb__law_net_ok { fn := [], mt := [], cn := [] } c__law_net_ok)
def N__law_num : List Str := ["_law_found"]
def tb__law_num : Tab := { glo := [], fn := [], mt := [], cn := [], fld := [], free := ["isinstance", "bool", "int"] }
def c__law_num : CS := (.cons (.ret (.and_ (.isi .int (.var 0)) (.one (.not_ (.isi .bool (.var 0)))))) .nil)
noncomputable def m__law_num : MF := runD false 1 1 (denS tb__law_num { fn := [], mt := [], cn := [] } c__law_num)
def N__law_number_read : List Str := ["_law_word", "_law_sign_here"]
def tb__law_number_read : Tab := { glo := [], fn := [], mt := [], cn := [], fld := [], free := ["all", "len", "int"] }
def c__law_number_read : CS := (.cons (.ifs (.or_ (.not_ (.chn .le .le (.int 1) (.bi .len (.cons (.var 0) .nil)) (.int 30))) (.one (.not_ (.bi .all (.cons (.cmpr true [1] (.var 1) (.var 0) .nil (.cmp .in_ (.var 1) (.str "0123456789"))) .nil))))) (.cons (.ret .non) .nil) .nil) (.cons (.ret (.ite (.and_ (.cmp .gt (.bi .len (.cons (.var 0) .nil)) (.int 1)) (.one (.cmp .eq (.idx (.var 0) (.int 0)) (.str "0")))) .non (.bi .int (.cons (.var 0) .nil)))) .nil))
noncomputable def m__law_number_read : MF := runD false 2 1 (denS tb__law_number_read { fn := [], mt := [], cn := [] } c__law_number_read)
def N__law_roads : List Str := ["_law_net_here", "_law_place", "_law_found", "_law_one", "_law_other", "_law_gate_here"]
def tb__law_roads : Tab := { glo := [], fn := [], mt := [], cn := [], fld := [], free := [] }
def c__law_roads : CS := (.cons (.asg 2 (.lstM .nil)) (.cons (.for_ (.tup (.cons (.var 3) (.cons (.var 4) (.cons (.var 5) .nil)))) (.var 0) (.cons (.ifs (.cmp .eq (.var 1) (.var 3)) (.cons (.exp (.bm .append (.var 2) (.cons (.tup (.cons (.var 4) (.cons (.var 5) .nil))) .nil))) .nil) (.cons (.ifs (.cmp .eq (.var 1) (.var 4)) (.cons (.exp (.bm .append (.var 2) (.cons (.tup (.cons (.var 3) (.cons (.var 5) .nil))) .nil))) .nil) .nil) .nil)) .nil)) (.cons (.ret (.var 2)) .nil)))
noncomputable def m__law_roads : MF := runD false 6 2 (denS tb__law_roads { fn := [], mt := [], cn := [] } c__law_roads)
def N__law_roll_stands : List Str := ["_law_roll", "_law_model", "_law_deeds"]
def tb__law_roll_stands : Tab := { glo := [], fn := [("_law_like", 2, []), ("_law_fact_list", 1, [])], mt := [("Roll", "told", 1, []), ("Roll", "facts", 1, []), ("Roll", "deeds", 1, [])], cn := [], fld := [], free := ["len"] }
def c__law_roll_stands : CS := (.cons (.ifs (.or_ (.not_ (.call 0 (.cons (.meth 1 (.var 0) .nil) (.cons (.call 1 (.cons (.var 1) .nil)) .nil)))) (.one (.not_ (.call 0 (.cons (.meth 0 (.var 0) .nil) (.cons (.idx (.var 1) (.str "told")) .nil)))))) (.cons (.ret (.bl false)) .nil) .nil) (.cons (.ret (.and_ (.call 0 (.cons (.meth 2 (.var 0) .nil) (.cons (.var 2) .nil))) (.one (.call 0 (.cons (.bi .len (.cons (.var 0) .nil)) (.cons (.bi .len (.cons (.idx (.var 1) (.str "facts")) .nil)) .nil)))))) .nil))
noncomputable def m__law_roll_stands : MF := runD false 3 3 (denS tb__law_roll_stands { fn := [(m__law_like 6), m__law_fact_list], mt := [m_Roll_told, m_Roll_facts, m_Roll_deeds], cn := [] } c__law_roll_stands)
def N__law_sign : List Str := ["_law_bag_here", "_law_signs"]
def tb__law_sign : Tab := { glo := [], fn := [("_law_pull", 2, [])], mt := [], cn := [], fld := [], free := ["len"] }
def c__law_sign : CS := (.cons (.asg 1 (.bin .add (.str " 0123456789- 012.!\"#$&'()*+,/:;<=>?@AZ[]^_abcdefghijklmnopqrstuvwxyz{|}~") (.str "\n"))) (.cons (.ret (.idx (.var 1) (.call 0 (.cons (.var 0) (.cons (.bi .len (.cons (.var 1) .nil)) .nil))))) .nil))
noncomputable def m__law_sign : MF := runD false 2 1 (denS tb__law_sign { fn := [m__law_pull], mt := [], cn := [] } c__law_sign)
def N__law_stand_on : List Str := ["_law_facts_here", "_law_day_here", "_law_horses", "_law_stand", "_law_there", "_law_gate_here", "_law_errands", "_law_cost", "_law_place", "_law_cleared", "_law_left", "_law_named", "_law_one"]
def tb__law_stand_on : Tab := { glo := [], fn := [("_law_asked_toll", 4, []), ("_law_clears", 3, [])], mt := [], cn := [], fld := [], free := ["tuple", "range"] }
def c__law_stand_on : CS := (.cons (.unp (.tup (.cons (.var 8) (.cons (.var 9) (.cons (.var 10) .nil)))) (.var 3)) (.cons (.asg 7 (.int 0)) (.cons (.ifs (.and_ (.cmp .isn (.var 5) .non) (.one (.cmp .nin (.var 5) (.var 9)))) (.cons (.asg 7 (.call 0 (.cons (.var 0) (.cons (.var 5) (.cons (.var 1) (.cons (.var 2) .nil)))))) (.cons (.asg 11 (.call 1 (.cons (.var 0) (.cons (.var 5) (.cons (.var 1) .nil))))) (.cons (.asg 9 (.bi .tuple (.cons (.cmpr true [12] (.var 12) (.rng1 (.cons (.int 8) .nil)) (.or_ (.cmp .in_ (.var 12) (.var 9)) (.one (.cmp .in_ (.var 12) (.var 11)))) (.var 12)) .nil))) .nil))) .nil) (.cons (.ret (.tup (.cons (.var 7) (.cons (.tup (.cons (.var 4) (.cons (.var 9) (.cons (.bi .tuple (.cons (.cmpr true [12] (.var 12) (.var 10) (.cmp .ne (.var 12) (.var 4)) (.var 12)) .nil)) .nil)))) .nil)))) .nil))))
noncomputable def m__law_stand_on : MF := runD false 13 7 (denS tb__law_stand_on { fn := [m__law_asked_toll, m__law_clears], mt := [], cn := [] } c__law_stand_on)
def N__law_walk : List Str := ["_law_facts_here", "_law_carriage", "_law_day_here", "_law_rows_here", "_law_tickets", "_law_spots", "_law_number", "_law_fact_here", "_law_minute", "_law_gate_here", "_law_horses", "_law_bars", "_law_word", "_law_good", "_law_row", "_law_ticket", "_law_one", "_law_mark", "_law_pair"]
def tb__law_walk : Tab := { glo := [], fn := [("_law_bar", 6, []), ("_law_free", 4, []), ("_law_asked_toll", 4, [])], mt := [], cn := [], fld := [], free := ["sorted", "len"] }
def c__law_walk : CS := (.cons (.asg 3 (.lstM .nil)) (.cons (.asg 4 (.lstM .nil)) (.cons (.asg 5 (.lstM .nil)) (.cons (.for_ (.tup (.cons (.var 6) (.cons (.var 7) .nil))) (.var 0) (.cons (.ifs (.and_ (.cmp .eq (.idx (.var 7) (.int 0)) (.str "pass")) (.and_ (.cmp .eq (.idx (.var 7) (.int 1)) (.var 2)) (.one (.cmp .eq (.idx (.var 7) (.int 4)) (.var 1))))) (.cons (.exp (.bm .append (.var 5) (.cons (.tup (.cons (.idx (.var 7) (.int 2)) (.cons (.var 6) (.cons (.idx (.var 7) (.int 3)) (.cons (.idx (.var 7) (.int 5)) .nil))))) .nil))) .nil) .nil) .nil)) (.cons (.for_ (.tup (.cons (.var 8) (.cons (.var 6) (.cons (.var 9) (.cons (.var 10) .nil))))) (.bi .sorted (.cons (.var 5) .nil)) (.cons (.asgC 11 (.cmpr true [15] (.var 15) (.var 4) .nil (.tup (.cons (.idx (.var 15) (.int 0)) (.cons (.call 0 (.cons (.var 0) (.cons (.var 15) (.cons (.var 2) (.cons (.var 8) (.cons (.var 9) (.cons (.var 10) .nil))))))) .nil))))) (.cons (.asg 12 (.call 1 (.cons (.var 0) (.cons (.var 1) (.cons (.var 9) (.cons (.var 2) .nil)))))) (.cons (.asgC 13 (.cmpr true [16, 17] (.tup (.cons (.var 16) (.cons (.var 17) .nil))) (.var 11) (.cmp .eq (.var 17) (.str "")) (.var 16))) (.cons (.asg 14 (.tup (.cons (.var 6) (.cons (.var 12) (.cons .non (.cons (.int 0) .nil)))))) (.cons (.ifs (.and_ (.cmp .eq (.var 12) (.str "")) (.one (.cmp .gt (.bi .len (.cons (.var 13) .nil)) (.int 0)))) (.cons (.asg 14 (.tup (.cons (.var 6) (.cons (.str "ticket") (.cons (.idx (.var 13) (.int 0)) (.cons (.int 0) .nil)))))) .nil) (.cons (.ifs (.cmp .eq (.var 12) (.str "")) (.cons (.asg 14 (.tup (.cons (.var 6) (.cons (.str "owed") (.cons .non (.cons (.call 2 (.cons (.var 0) (.cons (.var 9) (.cons (.var 2) (.cons (.var 10) .nil))))) .nil)))))) (.cons (.exp (.bm .append (.var 4) (.cons (.tup (.cons (.var 6) (.cons (.var 9) (.cons (.var 10) .nil)))) .nil))) .nil)) .nil) .nil)) (.cons (.exp (.bm .append (.var 3) (.cons (.tup (.cons (.var 14) (.cons (.cmpr true [18] (.var 18) (.var 11) (.cmp .ne (.idx (.var 18) (.int 1)) (.str "")) (.var 18)) .nil))) .nil))) .nil))))))) (.cons (.ret (.var 3)) .nil))))))
noncomputable def m__law_walk : MF := runD false 19 3 (denS tb__law_walk { fn := [m__law_bar, m__law_free, m__law_asked_toll], mt := [], cn := [] } c__law_walk)
def N_better : List Str := ["one", "other"]
def tb_better : Tab := { glo := [], fn := [], mt := [], cn := [], fld := [], free := ["min"] }
def c_better : CS := (.cons (.ifs (.cmp .is_ (.var 0) .non) (.cons (.ret (.var 1)) .nil) .nil) (.cons (.ifs (.cmp .is_ (.var 1) .non) (.cons (.ret (.var 0)) .nil) .nil) (.cons (.ret (.bi .min2 (.cons (.var 0) (.cons (.var 1) .nil)))) .nil)))
noncomputable def m_better : MF := runD false 2 2 (denS tb_better { fn := [], mt := [], cn := [] } c_better)
def N_best_on : List Str := ["found", "told", "best", "halves", "later"]
def tb_best_on : Tab := { glo := [], fn := [("better", 2, [])], mt := [], cn := [], fld := [], free := [] }
def c_best_on : CS := (.cons (.asg 2 .non) (.cons (.for_ (.tup (.cons (.var 3) (.cons (.var 4) .nil))) (.var 1) (.cons (.ifs (.cmp .isn (.idx (.var 0) (.var 4)) .non) (.cons (.asg 2 (.call 0 (.cons (.var 2) (.cons (.tup (.cons (.bin .add (.idx (.idx (.var 0) (.var 4)) (.int 0)) (.var 3)) (.cons (.bin .add (.idx (.idx (.var 0) (.var 4)) (.int 1)) (.int 1)) .nil))) .nil)))) .nil) .nil) .nil)) (.cons (.ret (.var 2)) .nil)))
noncomputable def m_best_on : MF := runD false 5 2 (denS tb_best_on { fn := [m_better], mt := [], cn := [] } c_best_on)
def N_done_with : List Str := ["roll", "line"]
def tb_done_with : Tab := { glo := [], fn := [], mt := [("Roll", "undo", 1, []), ("Roll", "redo", 1, [])], cn := [], fld := [], free := [] }
def c_done_with : CS := (.cons (.ifs (.cmp .eq (.var 1) (.str "undo")) (.cons (.exp (.meth 0 (.var 0) .nil)) .nil) (.cons (.exp (.meth 1 (.var 0) .nil)) .nil)) (.cons (.ret (.str "done")) .nil))
noncomputable def m_done_with : MF := runD false 2 2 (denS tb_done_with { fn := [], mt := [m_Roll_undo, m_Roll_redo], cn := [] } c_done_with)
def N_left_behind : List Str := ["left", "place", "errand"]
def tb_left_behind : Tab := { glo := [], fn := [], mt := [], cn := [], fld := [], free := ["tuple"] }
def c_left_behind : CS := (.cons (.ret (.bi .tuple (.cons (.cmpr true [2] (.var 2) (.var 0) (.cmp .ne (.var 2) (.var 1)) (.var 2)) .nil))) .nil)
noncomputable def m_left_behind : MF := runD false 3 2 (denS tb_left_behind { fn := [], mt := [], cn := [] } c_left_behind)
def N_first_stand : List Str := ["start", "errands"]
def tb_first_stand : Tab := { glo := [], fn := [("left_behind", 2, [])], mt := [], cn := [], fld := [], free := ["tuple", "sorted"] }
def c_first_stand : CS := (.cons (.ret (.tup (.cons (.var 0) (.cons (.tup .nil) (.cons (.call 0 (.cons (.bi .tuple (.cons (.bi .sorted (.cons (.var 1) .nil)) .nil)) (.cons (.var 0) .nil))) .nil))))) .nil)
noncomputable def m_first_stand : MF := runD false 2 2 (denS tb_first_stand { fn := [m_left_behind], mt := [], cn := [] } c_first_stand)
def N_good_gates : List Str := ["gates", "gate"]
def tb_good_gates : Tab := { glo := [], fn := [], mt := [], cn := [], fld := [], free := ["list", "range"] }
def c_good_gates : CS := (.cons (.ret (.cmp .eq (.bi .list (.cons (.var 0) .nil)) (.cmpr true [1] (.var 1) (.rng1 (.cons (.int 8) .nil)) (.cmp .in_ (.var 1) (.var 0)) (.var 1)))) .nil)
noncomputable def m_good_gates : MF := runD false 2 1 (denS tb_good_gates { fn := [], mt := [], cn := [] } c_good_gates)
def N_good_road : List Str := ["road", "one", "other", "gate"]
def tb_good_road : Tab := { glo := [("LAST_PLACE", .int 7), ("LAST_GATE", .int 7)], fn := [], mt := [], cn := [], fld := [], free := [] }
def c_good_road : CS := (.cons (.unp (.tup (.cons (.var 1) (.cons (.var 2) (.cons (.var 3) .nil)))) (.var 0)) (.cons (.ifs (.or_ (.not_ (.chn .le .le (.int 0) (.var 1) (.glo 0))) (.one (.not_ (.chn .le .le (.int 0) (.var 2) (.glo 0))))) (.cons (.ret (.bl false)) .nil) .nil) (.cons (.ret (.or_ (.cmp .is_ (.var 3) .non) (.one (.chn .le .le (.int 0) (.var 3) (.glo 1))))) .nil)))
noncomputable def m_good_road : MF := runD false 4 1 (denS tb_good_road { fn := [], mt := [], cn := [] } c_good_road)
def N_good_stand : List Str := ["stand", "errands", "place", "cleared", "left", "errand", "gate"]
def tb_good_stand : Tab := { glo := [("GATES", .int 8)], fn := [], mt := [], cn := [], fld := [], free := ["list", "range", "sorted"] }
def c_good_stand : CS := (.cons (.unp (.tup (.cons (.var 2) (.cons (.var 3) (.cons (.var 4) .nil)))) (.var 0)) (.cons (.ifs (.or_ (.not_ (.chn .le .lt (.int 0) (.var 2) (.int 8))) (.one (.cmp .ne (.bi .list (.cons (.var 3) .nil)) (.cmpr true [6] (.var 6) (.rng1 (.cons (.glo 0) .nil)) (.cmp .in_ (.var 6) (.var 3)) (.var 6))))) (.cons (.ret (.bl false)) .nil) .nil) (.cons (.ret (.cmp .eq (.bi .list (.cons (.var 4) .nil)) (.cmpr true [5] (.var 5) (.bi .sorted (.cons (.var 1) .nil)) (.cmp .in_ (.var 5) (.var 4)) (.var 5)))) .nil)))
noncomputable def m_good_stand : MF := runD false 7 2 (denS tb_good_stand { fn := [], mt := [], cn := [] } c_good_stand)
def N_look_carriage : List Str := ["carriage"]
def tb_look_carriage : Tab := { glo := [("LAST_CARRIAGE", .int 9)], fn := [], mt := [], cn := [], fld := [], free := [] }
def c_look_carriage : CS := (.cons (.ifs (.not_ (.chn .le .le (.int 0) (.var 0) (.glo 0))) (.cons .never .nil) .nil) .nil)
noncomputable def m_look_carriage : MF := runD false 1 1 (denS tb_look_carriage { fn := [], mt := [], cn := [] } c_look_carriage)
def N_look_day : List Str := ["day"]
def tb_look_day : Tab := { glo := [("LAST_DAY", .int 999)], fn := [], mt := [], cn := [], fld := [], free := [] }
def c_look_day : CS := (.cons (.ifs (.not_ (.chn .le .le (.int 0) (.var 0) (.glo 0))) (.cons .never .nil) .nil) .nil)
noncomputable def m_look_day : MF := runD false 1 1 (denS tb_look_day { fn := [], mt := [], cn := [] } c_look_day)
def N_look_net : List Str := ["net", "road"]
def tb_look_net : Tab := { glo := [("MOST_ROADS", .int 12)], fn := [("good_road", 1, [])], mt := [], cn := [], fld := [], free := ["all", "len"] }
def c_look_net : CS := (.cons (.ifs (.or_ (.cmp .gt (.bi .len (.cons (.var 0) .nil)) (.glo 0)) (.one (.not_ (.bi .all (.cons (.cmpr true [1] (.var 1) (.var 0) .nil (.call 0 (.cons (.var 1) .nil))) .nil))))) (.cons .never .nil) .nil) .nil)
noncomputable def m_look_net : MF := runD false 2 1 (denS tb_look_net { fn := [m_good_road], mt := [], cn := [] } c_look_net)
def N_look_place : List Str := ["place"]
def tb_look_place : Tab := { glo := [("LAST_PLACE", .int 7)], fn := [], mt := [], cn := [], fld := [], free := [] }
def c_look_place : CS := (.cons (.ifs (.not_ (.chn .le .le (.int 0) (.var 0) (.glo 0))) (.cons .never .nil) .nil) .nil)
noncomputable def m_look_place : MF := runD false 1 1 (denS tb_look_place { fn := [], mt := [], cn := [] } c_look_place)
def N_look_team : List Str := ["horses", "day"]
def tb_look_team : Tab := { glo := [("MOST_HORSES", .int 8)], fn := [("look_day", 1, [])], mt := [], cn := [], fld := [], free := [] }
def c_look_team : CS := (.cons (.ifs (.not_ (.chn .le .le (.int 1) (.var 0) (.glo 0))) (.cons .never .nil) .nil) (.cons (.exp (.call 0 (.cons (.var 1) .nil))) .nil))
noncomputable def m_look_team : MF := runD false 2 2 (denS tb_look_team { fn := [m_look_day], mt := [], cn := [] } c_look_team)
def N_number_in : List Str := ["word", "sign"]
def tb_number_in : Tab := { glo := [("FIGURES", .str "0123456789"), ("MOST_FIGURES", .int 30)], fn := [], mt := [], cn := [], fld := [], free := ["all", "len", "int"] }
def c_number_in : CS := (.cons (.ifs (.or_ (.not_ (.chn .le .le (.int 1) (.bi .len (.cons (.var 0) .nil)) (.glo 1))) (.one (.not_ (.bi .all (.cons (.cmpr true [1] (.var 1) (.var 0) .nil (.cmp .in_ (.var 1) (.glo 0))) .nil))))) (.cons (.ret .non) .nil) .nil) (.cons (.ifs (.and_ (.cmp .eq (.idx (.var 0) (.int 0)) (.str "0")) (.one (.cmp .gt (.bi .len (.cons (.var 0) .nil)) (.int 1)))) (.cons (.ret .non) .nil) .nil) (.cons (.ret (.bi .int (.cons (.var 0) .nil))) .nil)))
noncomputable def m_number_in : MF := runD false 2 1 (denS tb_number_in { fn := [], mt := [], cn := [] } c_number_in)
def N_passing_of : List Str := ["facts", "number", "other", "fact"]
def tb_passing_of : Tab := { glo := [], fn := [], mt := [], cn := [], fld := [], free := [] }
def c_passing_of : CS := (.cons (.for_ (.tup (.cons (.var 2) (.cons (.var 3) .nil))) (.var 0) (.cons (.ifs (.and_ (.cmp .eq (.var 2) (.var 1)) (.one (.cmp .eq (.idx (.var 3) (.int 0)) (.str "pass")))) (.cons (.ret (.var 3)) .nil) .nil) .nil)) (.cons .never .nil))
noncomputable def m_passing_of : MF := runD false 4 2 (denS tb_passing_of { fn := [], mt := [], cn := [] } c_passing_of)
def N_passings : List Str := ["facts", "carriage", "day", "found", "number", "fact"]
def tb_passings : Tab := { glo := [], fn := [], mt := [], cn := [], fld := [], free := ["sorted"] }
def c_passings : CS := (.cons (.asg 3 (.lstM .nil)) (.cons (.for_ (.tup (.cons (.var 4) (.cons (.var 5) .nil))) (.var 0) (.cons (.ifs (.and_ (.cmp .eq (.idx (.var 5) (.int 0)) (.str "pass")) (.and_ (.cmp .eq (.idx (.var 5) (.int 1)) (.var 2)) (.one (.cmp .eq (.idx (.var 5) (.int 4)) (.var 1))))) (.cons (.exp (.bm .append (.var 3) (.cons (.tup (.cons (.idx (.var 5) (.int 2)) (.cons (.var 4) (.cons (.idx (.var 5) (.int 3)) (.cons (.idx (.var 5) (.int 5)) .nil))))) .nil))) .nil) .nil) .nil)) (.cons (.ret (.bi .sorted (.cons (.var 3) .nil))) .nil)))
noncomputable def m_passings : MF := runD false 6 3 (denS tb_passings { fn := [], mt := [], cn := [] } c_passings)
def N_roads_from : List Str := ["net", "place", "found", "one", "other", "gate"]
def tb_roads_from : Tab := { glo := [], fn := [], mt := [], cn := [], fld := [], free := [] }
def c_roads_from : CS := (.cons (.asg 2 (.lstM .nil)) (.cons (.for_ (.tup (.cons (.var 3) (.cons (.var 4) (.cons (.var 5) .nil)))) (.var 0) (.cons (.ifs (.cmp .eq (.var 3) (.var 1)) (.cons (.exp (.bm .append (.var 2) (.cons (.tup (.cons (.var 4) (.cons (.var 5) .nil))) .nil))) .nil) .nil) (.cons (.ifs (.and_ (.cmp .eq (.var 4) (.var 1)) (.one (.cmp .ne (.var 3) (.var 4)))) (.cons (.exp (.bm .append (.var 2) (.cons (.tup (.cons (.var 3) (.cons (.var 5) .nil))) .nil))) .nil) .nil) .nil))) (.cons (.ret (.var 2)) .nil)))
noncomputable def m_roads_from : MF := runD false 6 2 (denS tb_roads_from { fn := [], mt := [], cn := [] } c_roads_from)
def N_steps_on : List Str := ["net", "board", "stand", "found", "place", "cleared", "left", "there", "gate", "halves", "more"]
def tb_steps_on : Tab := { glo := [], fn := [("roads_from", 2, []), ("left_behind", 2, [])], mt := [("Board", "through", 3, [])], cn := [], fld := [], free := [] }
def c_steps_on : CS := (.cons (.unp (.tup (.cons (.var 4) (.cons (.var 5) (.cons (.var 6) .nil)))) (.var 2)) (.cons (.asg 3 (.lstM .nil)) (.cons (.for_ (.tup (.cons (.var 7) (.cons (.var 8) .nil))) (.call 0 (.cons (.var 0) (.cons (.var 4) .nil))) (.cons (.unp (.tup (.cons (.var 9) (.cons (.var 10) .nil))) (.meth 0 (.var 1) (.cons (.var 5) (.cons (.var 8) .nil)))) (.cons (.exp (.bm .append (.var 3) (.cons (.tup (.cons (.var 9) (.cons (.tup (.cons (.var 7) (.cons (.var 10) (.cons (.call 1 (.cons (.var 6) (.cons (.var 7) .nil))) .nil)))) .nil))) .nil))) .nil))) (.cons (.ret (.var 3)) .nil))))
noncomputable def m_steps_on : MF := runD false 11 3 (denS tb_steps_on { fn := [m_roads_from, m_left_behind], mt := [m_Board_through], cn := [] } c_steps_on)
def N_trust_on : List Str := ["facts", "gate", "day", "found"]
def tb_trust_on : Tab := { glo := [], fn := [("in_force", 4, [])], mt := [], cn := [], fld := [], free := [] }
def c_trust_on : CS := (.cons (.asg 3 (.call 0 (.cons (.var 0) (.cons (.str "trust") (.cons (.var 1) (.cons (.var 2) .nil)))))) (.cons (.ret (.ite (.cmp .is_ (.var 3) .non) (.int 0) (.var 3))) .nil))
noncomputable def m_trust_on : MF := runD false 4 3 (denS tb_trust_on { fn := [m_in_force], mt := [], cn := [] } c_trust_on)
end DM

set_option Elab.async false
set_option linter.all false
set_option maxRecDepth 100000
set_option maxHeartbeats 4000000
/-! DS: reasoning about mirrors: what must hold ahead, so that they end well. -/
namespace DM
open PySem PySem.Spec PyProof.Rows DL
open Classical

def _root_.DL.R.wp {α : Type} (r : R α) (Q : α → Sto → Prop) (E : Exn → Sto → Prop) : Prop := match r with
  | .ok a st => Q a st
  | .exc x st => E x st
  | .bad => False
structure Ks where
  nx : Ev → Sto → Prop
  rt : Wd → Sto → Prop
  bk : Ev → Sto → Prop
  ct : Ev → Sto → Prop
  ex : Exn → Ev → Sto → Prop
def _root_.DL.RS.wp (r : RS) (K : Ks) : Prop := match r with
  | .nx ρ st => K.nx ρ st
  | .rt w st => K.rt w st
  | .bk ρ st => K.bk ρ st
  | .ct ρ st => K.ct ρ st
  | .ex x ρ st => K.ex x ρ st
  | .bad => False
section
variable {α β : Type} {Q : α → Sto → Prop} {E : Exn → Sto → Prop} {K : Ks} {ρ : Ev} {st : Sto}
theorem wp_ok (a : α) : (R.ok a st).wp Q E = Q a st := rfl
theorem wp_exc (x : Exn) : (R.exc x st : R α).wp Q E = E x st := rfl
theorem wp_bad : (R.bad : R α).wp Q E = False := rfl
theorem wp_bind {r : R β} {f : β → Sto → R α} : (r.bind f).wp Q E = r.wp (fun a st => (f a st).wp Q E) E := by cases r <;> rfl
theorem wp_toS {r : R α} {f : α → Sto → RS} : (r.toS ρ f).wp K = r.wp (fun a st => (f a st).wp K) (fun x st => K.ex x ρ st) := by cases r <;> rfl
theorem wp_nx : (RS.nx ρ st).wp K = K.nx ρ st := rfl
theorem wp_rt (w : Wd) : (RS.rt w st).wp K = K.rt w st := rfl
theorem wp_bk : (RS.bk ρ st).wp K = K.bk ρ st := rfl
theorem wp_ct : (RS.ct ρ st).wp K = K.ct ρ st := rfl
theorem wp_sbad : RS.bad.wp K = False := rfl
theorem _root_.DL.R.wp.mono {r : R α} {Q' : α → Sto → Prop} {E' : Exn → Sto → Prop} (h : r.wp Q E) (hq : ∀ a st, Q a st → Q' a st) (he : ∀ x st, E x st → E' x st) : r.wp Q' E' := by
  cases r with
  | ok a st => exact hq a st h
  | exc x st => exact he x st h
  | bad => exact h
theorem wp_if {c : Prop} [Decidable c] {a b : R α} : (if c then a else b).wp Q E = if c then a.wp Q E else b.wp Q E := by split <;> rfl
theorem wp_sif {c : Prop} [Decidable c] {a b : RS} : (if c then a else b).wp K = if c then a.wp K else b.wp K := by split <;> rfl
/-! statements -/
theorem wp_nil : (sNil ρ st).wp K = K.nx ρ st := rfl
theorem wp_seq {a b : SM} : (sSeq a b ρ st).wp K = (a ρ st).wp { K with nx := fun ρ1 st1 => (b ρ1 st1).wp K } := by
  unfold sSeq
  cases a ρ st <;> rfl
theorem wp_ret {a : EM} : (sRet a ρ st).wp K = (a ρ st).wp (fun w st1 => K.rt w st1) (fun x st => K.ex x ρ st) := by unfold sRet; rw [wp_toS]; rfl
theorem wp_exp {a : EM} : (sExp a ρ st).wp K = (a ρ st).wp (fun _ st1 => K.nx ρ st1) (fun x st => K.ex x ρ st) := by unfold sExp; rw [wp_toS]; rfl
theorem wp_sIf {c : BM} {a b : SM} : (sIf c a b ρ st).wp K = (c ρ st).wp (fun k st1 => if k = true then (a ρ st1).wp K else (b ρ st1).wp K) (fun x st => K.ex x ρ st) := by
  unfold sIf; rw [wp_toS]
  congr; funext k st1; cases k <;> rfl
theorem wp_asg {a : EM} {g : GM} : (sAsg a g ρ st).wp K = (a ρ st).wp (fun w st1 => (g w ρ st1).wp K.nx fun _ _ => False) (fun x st => K.ex x ρ st) := by
  unfold sAsg; rw [wp_toS]
  congr; funext w st1
  cases g w ρ st1 <;> rfl
theorem wp_gNam {i : Nat} {w : Wd} {Q : Ev → Sto → Prop} : (gNam i w ρ st).wp Q E = Q (ρ.set i (some w)) st := rfl
theorem wp_put {e o i : EM} : (sPutN e o i ρ st).wp K = (e ρ st).wp (fun w st1 => (o ρ st1).wp (fun x st2 => (i ρ st2).wp (fun y st3 => (stPut x y w st3).wp (fun _ st4 => K.nx ρ st4) fun _ _ => False) fun _ _ => False) fun _ _ => False) (fun x st => K.ex x ρ st) := by
  unfold sPutN; rw [wp_toS]
  congr; funext w st1
  cases o ρ st1 with
  | ok x st2 =>
    show RS.wp (match i ρ st2 with | .ok y st3 => _ | _ => _) K = (i ρ st2).wp _ _
    cases i ρ st2 with
    | ok y st3 =>
      show RS.wp (match stPut x y w st3 with | .ok _ st4 => _ | _ => _) K = (stPut x y w st3).wp _ _
      cases stPut x y w st3 <;> rfl
    | _ => rfl
  | _ => rfl
/-! expressions -/
theorem wp_eBin {f : OF} {a b : EM} {Q : Wd → Sto → Prop} : (eBin f a b ρ st).wp Q E = (a ρ st).wp (fun x st1 => (b ρ st1).wp (fun y st2 => (f x y st2).wp Q E) E) E := by
  unfold eBin; rw [wp_bind]; congr; funext x st1; rw [wp_bind]
theorem wp_tCmp {f : OF} {a b : EM} {Q : Bool → Sto → Prop} : (tCmp f a b ρ st).wp Q E = (a ρ st).wp (fun x st1 => (b ρ st1).wp (fun y st2 => (f x y st2).wp (fun w st3 => (asB w st3).wp Q E) E) E) E := by
  unfold tCmp; rw [wp_bind]; congr; funext x st1; rw [wp_bind]; congr; funext y st2; rw [wp_bind]
theorem wp_eApp {l : LM} {f : List Wd → Sto → R Wd} {Q : Wd → Sto → Prop} : (eApp l f ρ st).wp Q E = (l ρ st).wp (fun ws st1 => (f ws st1).wp Q E) E := by unfold eApp; rw [wp_bind]
theorem wp_lNil {Q : List Wd → Sto → Prop} : (lNil ρ st).wp Q E = Q [] st := rfl
theorem wp_lCons {a : EM} {r : LM} {Q : List Wd → Sto → Prop} : (lCons a r ρ st).wp Q E = (a ρ st).wp (fun w st1 => (r ρ st1).wp (fun ws st2 => Q (w :: ws) st2) E) E := by
  unfold lCons; rw [wp_bind]; congr; funext x st1; rw [wp_bind]; rfl
theorem wp_eT {t : T} {Q : Wd → Sto → Prop} : (eT t ρ st).wp Q E = Q (.v t) st := rfl
theorem wp_eVar {i : Nat} {Q : Wd → Sto → Prop} : (eVar i ρ st).wp Q E = (match ρ[i]? with | some (some w) => Q w st | _ => False) := by
  unfold eVar
  split <;> simp_all [wp_ok, wp_bad]
theorem wp_eNeg {a : EM} {Q : Wd → Sto → Prop} : (eNeg a ρ st).wp Q E = (a ρ st).wp (fun w st1 => match w with | .v (.int i) => Q (.v (.int (-i))) st1 | _ => False) E := by
  unfold eNeg; rw [wp_bind]; congr; funext w st1; split <;> simp_all [wp_ok, wp_bad]
theorem wp_eAnd {a b : EM} {Q : Wd → Sto → Prop} : (eAnd a b ρ st).wp Q E = (a ρ st).wp (fun w st1 => (asB w st1).wp (fun c st2 => if c = true then (b ρ st2).wp Q E else Q (.v (.bl false)) st2) E) E := by
  unfold eAnd; rw [wp_bind]; congr; funext w st1; rw [wp_bind]; congr; funext c st2; cases c <;> rfl
theorem wp_eOr {a b : EM} {Q : Wd → Sto → Prop} : (eOr a b ρ st).wp Q E = (a ρ st).wp (fun w st1 => (asB w st1).wp (fun c st2 => if c = true then Q (.v (.bl true)) st2 else (b ρ st2).wp Q E) E) E := by
  unfold eOr; rw [wp_bind]; congr; funext w st1; rw [wp_bind]; congr; funext c st2; cases c <;> rfl
theorem wp_eNot {a : EM} {Q : Wd → Sto → Prop} : (eNot a ρ st).wp Q E = (a ρ st).wp (fun w st1 => (asB w st1).wp (fun c st2 => Q (.v (.bl (!c))) st2) E) E := by
  unfold eNot; rw [wp_bind]; congr; funext w st1; rw [wp_bind]; rfl
theorem wp_tOf {a : EM} {Q : Bool → Sto → Prop} : (tOf a ρ st).wp Q E = (a ρ st).wp (fun w st1 => (asB w st1).wp Q E) E := by unfold tOf; rw [wp_bind]
theorem wp_tAnd {a b : BM} {Q : Bool → Sto → Prop} : (tAnd a b ρ st).wp Q E = (a ρ st).wp (fun c st1 => if c = true then (b ρ st1).wp Q E else Q false st1) E := by
  unfold tAnd; rw [wp_bind]; congr; funext c st2; cases c <;> rfl
theorem wp_tOr {a b : BM} {Q : Bool → Sto → Prop} : (tOr a b ρ st).wp Q E = (a ρ st).wp (fun c st1 => if c = true then Q true st1 else (b ρ st1).wp Q E) E := by
  unfold tOr; rw [wp_bind]; congr; funext c st2; cases c <;> rfl
theorem wp_tNot {a : BM} {Q : Bool → Sto → Prop} : (tNot a ρ st).wp Q E = (a ρ st).wp (fun c st1 => Q (!c) st1) E := by unfold tNot; rw [wp_bind]; rfl
theorem wp_eIte {c : BM} {a b : EM} {Q : Wd → Sto → Prop} : (eIte c a b ρ st).wp Q E = (c ρ st).wp (fun k st1 => if k = true then (a ρ st1).wp Q E else (b ρ st1).wp Q E) E := by
  unfold eIte; rw [wp_bind]; congr; funext k st1; cases k <;> rfl
theorem wp_eSlc {a : EM} {l h : PM} {Q : Wd → Sto → Prop} : (eSlc a l h ρ st).wp Q E = (a ρ st).wp (fun x st1 => (l ρ st1).wp (fun i st2 => (h ρ st2).wp (fun j st3 => (bSlc x i j st3).wp Q E) E) E) E := by
  unfold eSlc; rw [wp_bind]; congr; funext x st1; rw [wp_bind]; congr; funext i st2; rw [wp_bind]
theorem wp_pNone {Q : Option Int → Sto → Prop} : (pNone ρ st).wp Q E = Q none st := rfl
theorem wp_pSome {a : EM} {Q : Option Int → Sto → Prop} : (pSome a ρ st).wp Q E = (a ρ st).wp (fun w st1 => match w with | .v (.int i) => Q (some i) st1 | _ => False) E := by
  unfold pSome; rw [wp_bind]; congr; funext w st1; split <;> simp_all [wp_ok, wp_bad]
theorem wp_bYes {Q : Bool → Sto → Prop} : (bYes ρ st).wp Q E = Q true st := rfl
theorem wp_asB {b : Bool} {Q : Bool → Sto → Prop} : (asB (.v (.bl b)) st).wp Q E = Q b st := rfl
/-! leaving a def -/
def Close (st0 : Sto) (Q : Wd → Sto → Prop) (w : Wd) (st1 : Sto) : Prop := Trunc st0 st1 ∧ ∃ w', frzW st0.length st1 w = some w' ∧ Q w' (st1.take st0.length)
theorem wp_close {r : R Wd} {Q : Wd → Sto → Prop} (h : r.wp (Close st Q) fun x st1 => Trunc st st1 ∧ E x (st1.take st.length)) : (closeR st r).wp Q E := by
  cases r with
  | bad => exact h
  | exc x st1 =>
    have h : Trunc st st1 ∧ E x (st1.take st.length) := h
    unfold closeR
    dsimp only
    rw [if_pos h.1]
    exact h.2
  | ok w st1 =>
    obtain ⟨h1, w', h2, h3⟩ := (show Close st Q w st1 from h)
    unfold closeR
    dsimp only
    rw [if_pos h1, h2]
    exact h3
theorem wp_fin {r : RS} {Q : Wd → Sto → Prop} (h : r.wp ⟨fun _ st1 => Q (.v .non) st1, Q, fun _ _ => False, fun _ _ => False, fun x _ st1 => E x st1⟩) : r.fin.wp Q E := by
  cases r <;> exact h
theorem wp_run {nN np : Nat} {b : SM} {ws : List Wd} {Q : Wd → Sto → Prop} (hl : ws.length = np)
    (h : (b (ws.map some ++ List.replicate (nN - np) none) st).wp ⟨fun _ st1 => Close st Q (.v .non) st1, Close st Q, fun _ _ => False, fun _ _ => False, fun x _ st1 => Trunc st st1 ∧ E x (st1.take st.length)⟩) : (runD false nN np b ws st).wp Q E := by
  unfold runD
  rw [if_pos hl]
  exact wp_close (wp_fin h)
theorem wp_runK {nN np : Nat} {b : SM} {ws : List Wd} {Q : Wd → Sto → Prop} (hl : ws.length = np)
    (h : (b (ws.map some ++ List.replicate (nN - np) none) st).wp ⟨fun _ st1 => Q (.v .non) st1, Q, fun _ _ => False, fun _ _ => False, fun x _ st1 => E x st1⟩) : (runD true nN np b ws st).wp Q E := by
  unfold runD
  rw [if_pos hl]
  exact wp_fin h
/-! loops -/
theorem wp_forL {g : GM} {b : SM} {chk : Sto → Prop} (I : List Wd → Ev → Sto → Prop) (h0 : ∀ ρ st, I [] ρ st → chk st ∧ K.nx ρ st)
    (hs : ∀ w ws ρ st, I (w :: ws) ρ st → chk st ∧ (g w ρ st).wp (fun ρ1 st1 => (b ρ1 st1).wp { K with nx := I ws, ct := I ws, bk := K.nx }) fun _ _ => False) : ∀ ws ρ st, I ws ρ st → (forL g b chk ws ρ st).wp K
  | [], ρ, st, h => by
    unfold forL
    rw [if_pos (h0 ρ st h).1]
    exact (h0 ρ st h).2
  | w :: ws, ρ, st, h => by
    obtain ⟨h1, h2⟩ := hs w ws ρ st h
    unfold forL
    rw [if_pos h1]
    cases e : g w ρ st with
    | bad => rw [e] at h2; exact h2
    | exc x s => rw [e] at h2; exact h2.elim
    | ok ρ1 st1 =>
      rw [e] at h2
      have h2 : (b ρ1 st1).wp { K with nx := I ws, ct := I ws, bk := K.nx } := h2
      dsimp only
      cases e2 : b ρ1 st1 with
      | nx ρ2 st2 => rw [e2] at h2; exact wp_forL I h0 hs ws ρ2 st2 h2
      | ct ρ2 st2 => rw [e2] at h2; exact wp_forL I h0 hs ws ρ2 st2 h2
      | bk ρ2 st2 => rw [e2] at h2; exact h2
      | rt w2 st2 => rw [e2] at h2; exact h2
      | ex x ρ2 st2 => rw [e2] at h2; exact h2
      | bad => rw [e2] at h2; exact h2
theorem wp_sFor {i : IM} {g : GM} {b : SM} : (sFor i g b ρ st).wp K = (i ρ st).wp (fun xc st1 => (forL g b xc.2 xc.1 ρ st1).wp K) (fun x st => K.ex x ρ st) := by unfold sFor; rw [wp_toS]
theorem wp_cmpL {g : GM} {tt : BM} {te : EM} {chk : Sto → Prop} {Q : List Wd → Sto → Prop} (I : List Wd → List Wd → Sto → Prop) (h0 : ∀ acc st, I [] acc st → chk st ∧ Q acc st)
    (hs : ∀ w ws acc st, I (w :: ws) acc st → chk st ∧ (g w ρ st).wp (fun ρ1 st1 => (tt ρ1 st1).wp (fun c st2 => if c = true then (te ρ1 st2).wp (fun y st3 => I ws (acc ++ [y]) st3) (fun _ _ => False) else I ws acc st2) fun _ _ => False) fun _ _ => False) :
    ∀ ws acc st, I ws acc st → (cmpL g tt te chk ρ ws acc st).wp Q E
  | [], acc, st, h => by
    unfold cmpL
    rw [if_pos (h0 acc st h).1]
    exact (h0 acc st h).2
  | w :: ws, acc, st, h => by
    obtain ⟨h1, h2⟩ := hs w ws acc st h
    unfold cmpL
    rw [if_pos h1]
    cases e : g w ρ st with
    | bad => rw [e] at h2; exact h2
    | exc x s => rw [e] at h2; exact h2.elim
    | ok ρ1 st1 =>
      rw [e] at h2
      have h2 : (tt ρ1 st1).wp _ _ := h2
      dsimp only
      cases e2 : tt ρ1 st1 with
      | bad => rw [e2] at h2; exact h2
      | exc x s => rw [e2] at h2; exact h2.elim
      | ok c st2 =>
        rw [e2] at h2
        cases c with
        | false => exact wp_cmpL I h0 hs ws acc st2 (by simpa [wp_ok] using h2)
        | true =>
          have h2 : (te ρ1 st2).wp (fun y st3 => I ws (acc ++ [y]) st3) fun _ _ => False := by simpa [wp_ok] using h2
          dsimp only
          cases e3 : te ρ1 st2 with
          | bad => rw [e3] at h2; exact h2
          | exc x s => rw [e3] at h2; exact h2.elim
          | ok y st3 => rw [e3] at h2; exact wp_cmpL I h0 hs ws (acc ++ [y]) st3 h2
theorem wp_eCmp {i : IM} {g : GM} {tt : BM} {te : EM} {own : List Nat} {fin : List Wd → Sto → R Wd} {Q : Wd → Sto → Prop} : (eCmp i g tt te own fin ρ st).wp Q E = (i ρ st).wp (fun xc st1 => (cmpL g tt te xc.2 (wipeE ρ own) xc.1 [] st1).wp (fun acc st2 => (fin acc st2).wp Q E) E) E := by
  unfold eCmp; rw [wp_bind]; congr; funext xc st1; rw [wp_bind]
end

/-! operators -/
section
variable {Q : Wd → Sto → Prop} {E : Exn → Sto → Prop} {st : Sto} {i j : Int}
theorem wp_bInt {C : Int → Int → Bool} {g : Int → Int → T} : (bInt C g (.v (.int i)) (.v (.int j)) st).wp Q E = (C i j = true ∧ Q (.v (g i j)) st) := by
  show (if C i j = true then R.ok (Wd.v (g i j)) st else .bad).wp Q E = _
  rw [wp_if]; by_cases h : C i j = true <;> simp [h, wp_ok, wp_bad]
theorem wp_addI : (bAdd (.v (.int i)) (.v (.int j)) st).wp Q E = Q (.v (.int (i + j))) st := rfl
theorem wp_addT {a b : List T} : (bAdd (.v (.tup a)) (.v (.tup b)) st).wp Q E = (a.length + b.length ≤ LINE ∧ Q (.v (.tup (a ++ b))) st) := by
  show (if a.length + b.length ≤ LINE then R.ok (Wd.v (.tup (a ++ b))) st else .bad).wp Q E = _
  rw [wp_if]; by_cases h : a.length + b.length ≤ LINE <;> simp [h, wp_ok, wp_bad]
theorem wp_addL {a b : List T} : (bAdd (.v (.lst a)) (.v (.lst b)) st).wp Q E = (a.length + b.length ≤ LINE ∧ Q (.v (.lst (a ++ b))) st) := by
  have e : bAdd (.v (.lst a)) (.v (.lst b)) st = if a.length + b.length ≤ LINE then R.ok (Wd.v (.lst (a ++ b))) st else .bad := by
    unfold bAdd; simp
  rw [e, wp_if]; by_cases h : a.length + b.length ≤ LINE <;> simp [h, wp_ok, wp_bad]
theorem wp_eqI {n : Bool} : (bEqN n (.v (.int i)) (.v (.int j)) st).wp Q E = Q (.v (.bl (if n then !decide (i = j) else decide (i = j)))) st := by
  have e : bEqN n (.v (.int i)) (.v (.int j)) st = .ok (.v (.bl (if n then !PyData.eqv (.int i) (.int j) else PyData.eqv (.int i) (.int j)))) st := rfl
  rw [e, wp_ok]
  have : PyData.eqv (.int i) (.int j) = decide (i = j) := by simp [PyData.eqv]; rfl
  rw [this]
theorem wp_eqS {n : Bool} {a b : Str} : (bEqN n (.v (.str a)) (.v (.str b)) st).wp Q E = ((PyData.strOk a = true ∧ PyData.strOk b = true) ∧ Q (.v (.bl (if n then !decide (a = b) else decide (a = b)))) st) := by
  have e : bEqN n (.v (.str a)) (.v (.str b)) st = if PyData.strOk a = true ∧ PyData.strOk b = true then .ok (.v (.bl (if n then !decide (a = b) else decide (a = b)))) st else .bad := by
    have : PyData.eqv (.str a) (.str b) = decide (a = b) := by simp [PyData.eqv]; rfl
    simp [bEqN, pyW, T.py, SeqAt.shaped, PyData.canLay0, PyData.depth, this]
  rw [e, wp_if]
  by_cases h : PyData.strOk a = true ∧ PyData.strOk b = true <;> simp [h, wp_ok, wp_bad]
theorem wp_eqB {n a b : Bool} : (bEqN n (.v (.bl a)) (.v (.bl b)) st).wp Q E = Q (.v (.bl (if n then !(a == b) else (a == b)))) st := by
  have e : bEqN n (.v (.bl a)) (.v (.bl b)) st = .ok (.v (.bl (if n then !PyData.eqv (.bool a) (.bool b) else PyData.eqv (.bool a) (.bool b)))) st := rfl
  rw [e, wp_ok]
  have : PyData.eqv (.bool a) (.bool b) = (a == b) := by simp [PyData.eqv]
  rw [this]
theorem ixN_nat {n k : Nat} (h : k < n) : L2.ixN n (k : Int) = some k := by unfold L2.ixN; simp [h]
/-- an entry of a tuple or a list, at a place that is known -/
theorem wp_idx {w : Wd} {ws : List Wd} {x : Wd} {k : Nat} (hs : ∀ z, w ≠ .v (.str z)) (h : items st w = some ws) (hk : ws[k]? = some x) : (bIdx w (.v (.int (k : Int))) st).wp Q E = Q x st := by
  have e : bIdx w (.v (.int (k : Int))) st = .ok x st := by
    unfold bIdx
    dsimp only
    split
    · exact absurd rfl (hs _)
    · have e2 : L2.atI ws (k : Int) = some x := by
        unfold L2.atI
        rw [ixN_nat (List.getElem?_eq_some_iff.mp hk).1]
        exact hk
      rw [h]
      dsimp only
      rw [e2]
  rw [e]; rfl
theorem wp_idxT {ts : List T} {k : Nat} {t : T} (hk : ts[k]? = some t) : (bIdx (.v (.tup ts)) (.v (.int (k : Int))) st).wp Q E = Q (.v t) st := wp_idx (by intro z h; cases h) (items_tup st ts) (by simp [hk])
theorem wp_idxL {ts : List T} {k : Nat} {t : T} (hk : ts[k]? = some t) : (bIdx (.v (.lst ts)) (.v (.int (k : Int))) st).wp Q E = Q (.v t) st := wp_idx (by intro z h; cases h) (items_lst st ts) (by simp [hk])
theorem wp_idxR {n : Nat} {ws : List Wd} {k : Nat} {x : Wd} (hn : st[n]? = some (.lst ws)) (hk : ws[k]? = some x) : (bIdx (.ref n) (.v (.int (k : Int))) st).wp Q E = Q x st :=
  wp_idx (by intro z h; cases h) (by simp [items, itemsL, hn]) hk
end
/-! ### the bag of drawn numbers -/
structure Bag where
  cells : List Int
  i : Nat
  a : Int
  s : Int
def Bag.ob (B : Bag) : Ob := .lst [.v (.lst (B.cells.map .int)), .v (.int B.i), .v (.int B.a), .v (.int B.s)]
theorem Bag.closed (B : Bag) (k : Nat) : closedO k B.ob = true := rfl
theorem trunc_bag {B B' : Bag} {rest new : Sto} : Trunc (B.ob :: rest) (B'.ob :: rest ++ new) := by
  refine ⟨by simp, fun i o hi h => ?_⟩
  cases i with
  | zero => simp at h; subst h; exact .inr (B'.closed _)
  | succ i =>
    left
    simp only [List.length_cons] at hi
    have hi' : i < rest.length := by omega
    simpa [List.getElem?_append_left, hi'] using h

section
variable {Q : Wd → Sto → Prop} {E : Exn → Sto → Prop} {st rest : Sto} {B : Bag}
theorem bidx_lit {w : Wd} {ws : List Wd} {n : Nat} (hs : ∀ z, w ≠ .v (.str z)) (h : items st w = some ws) (hd : dLook st w (.v (.int (n : Int))) = none) : (bIdx w (.v (.int (n : Int))) st).wp Q E = match ws[n]? with | some x => Q x st | none => False := by
  cases hk : ws[n]? with
  | some x => exact wp_idx hs h hk
  | none =>
    have e : bIdx w (.v (.int (n : Int))) st = .bad := by
      unfold bIdx
      dsimp only
      split
      · exact absurd rfl (hs _)
      · have e2 : L2.atI ws (n : Int) = none := by
          unfold L2.atI L2.ixN
          have := List.getElem?_eq_none_iff.mp hk
          rw [if_pos (by omega), if_neg (by omega)]; rfl
        rw [h]
        dsimp only
        rw [e2]
    rw [e]; rfl
theorem wp_idxTl {ts : List T} {n : Nat} : (bIdx (.v (.tup ts)) (.v (.int (OfNat.ofNat n))) st).wp Q E = match ts[n]? with | some t => Q (.v t) st | none => False := by
  have z := bidx_lit (Q := Q) (E := E) (st := st) (w := .v (.tup ts)) (ws := ts.map Wd.v) (n := n) (by intro z h; cases h) (items_tup st ts) rfl
  rw [List.getElem?_map] at z
  cases e : ts[n]? with
  | none => rw [e] at z; exact z
  | some t => rw [e] at z; exact z
theorem wp_idxLl {ts : List T} {n : Nat} : (bIdx (.v (.lst ts)) (.v (.int (OfNat.ofNat n))) st).wp Q E = match ts[n]? with | some t => Q (.v t) st | none => False := by
  have z := bidx_lit (Q := Q) (E := E) (st := st) (w := .v (.lst ts)) (ws := ts.map Wd.v) (n := n) (by intro z h; cases h) (items_lst st ts) rfl
  rw [List.getElem?_map] at z
  cases e : ts[n]? with
  | none => rw [e] at z; exact z
  | some t => rw [e] at z; exact z
theorem bag_items : items (B.ob :: rest) (.ref 0) = some [.v (.lst (B.cells.map .int)), .v (.int B.i), .v (.int B.a), .v (.int B.s)] := rfl
theorem bag_0 : (bIdx (.ref 0) (.v (.int 0)) (B.ob :: rest)).wp Q E = Q (.v (.lst (B.cells.map .int))) (B.ob :: rest) := bidx_lit (n := 0) (by intro z h; cases h) bag_items rfl
theorem bag_1 : (bIdx (.ref 0) (.v (.int 1)) (B.ob :: rest)).wp Q E = Q (.v (.int B.i)) (B.ob :: rest) := bidx_lit (n := 1) (by intro z h; cases h) bag_items rfl
theorem bag_2 : (bIdx (.ref 0) (.v (.int 2)) (B.ob :: rest)).wp Q E = Q (.v (.int B.a)) (B.ob :: rest) := bidx_lit (n := 2) (by intro z h; cases h) bag_items rfl
theorem bag_3 : (bIdx (.ref 0) (.v (.int 3)) (B.ob :: rest)).wp Q E = Q (.v (.int B.s)) (B.ob :: rest) := bidx_lit (n := 3) (by intro z h; cases h) bag_items rfl
theorem bagp_1 {Q : Unit → Sto → Prop} : (stPut (.ref 0) (.v (.int 1)) (.v (.int ((B.i : Int) + 1))) (B.ob :: rest)).wp Q E = Q () ((⟨B.cells, B.i + 1, B.a, B.s⟩ : Bag).ob :: rest) := rfl
theorem bagp_2 {Q : Unit → Sto → Prop} {x : Int} : (stPut (.ref 0) (.v (.int 2)) (.v (.int x)) (B.ob :: rest)).wp Q E = Q () ((⟨B.cells, B.i, x, B.s⟩ : Bag).ob :: rest) := rfl
theorem bagp_3 {Q : Unit → Sto → Prop} {x : Int} : (stPut (.ref 0) (.v (.int 3)) (.v (.int x)) (B.ob :: rest)).wp Q E = Q () ((⟨B.cells, B.i, B.a, x⟩ : Bag).ob :: rest) := rfl
theorem mk_tup {ws : List Wd} : (mkTup ws st).wp Q E = match allT ws with | some ts => (if ts.length ≤ 1000 then Q (.v (.tup ts)) st else False) | none => False := by
  unfold mkTup
  split
  · rename_i ts e
    simp [e, wp_if, wp_ok, wp_bad]
  · rename_i e
    simp [e, wp_bad]
theorem mk_lst {ws : List Wd} : (mkLst ws st).wp Q E = match allT ws with | some ts => (if ts.length ≤ 1000 then Q (.v (.lst ts)) st else False) | none => False := by
  unfold mkLst
  split
  · rename_i ts e
    simp [e, wp_if, wp_ok, wp_bad]
  · rename_i e
    simp [e, wp_bad]
theorem wp_len {ts : List T} : (fLen [.v (.lst ts)] st).wp Q E = Q (.v (.int ts.length)) st := by
  have e : fLen [.v (.lst ts)] st = .ok (.v (.int ts.length)) st := by simp [fLen]
  rw [e]; rfl
theorem _root_.DL.RS.wp.mono {r : RS} {K K' : Ks} (h : r.wp K) (h1 : ∀ ρ st, K.nx ρ st → K'.nx ρ st) (h2 : ∀ w st, K.rt w st → K'.rt w st) (h3 : ∀ ρ st, K.bk ρ st → K'.bk ρ st) (h4 : ∀ ρ st, K.ct ρ st → K'.ct ρ st) (h5 : ∀ x ρ st, K.ex x ρ st → K'.ex x ρ st) : r.wp K' := by
  cases r with
  | nx ρ st => exact h1 _ _ h
  | rt w st => exact h2 _ _ h
  | bk ρ st => exact h3 _ _ h
  | ct ρ st => exact h4 _ _ h
  | ex x ρ st => exact h5 _ _ _ h
  | bad => exact h
/-- a block cut at a statement: what holds between -/
theorem wp_mid {a b : SM} {ρ : Ev} {K : Ks} (R : Ev → Sto → Prop) (ha : (a ρ st).wp { K with nx := R }) (hb : ∀ ρ1 st1, R ρ1 st1 → (b ρ1 st1).wp K) : (sSeq a b ρ st).wp K := by
  rw [wp_seq]
  exact ha.mono hb (fun _ _ h => h) (fun _ _ h => h) (fun _ _ h => h) fun _ _ _ h => h
end
theorem toNat_inj {a b : Char} (h : a.toNat = b.toNat) : a = b := Char.ext (UInt32.toNat_inj.mp h)
theorem map_toNat_inj : ∀ {a b : List Char}, a.map Char.toNat = b.map Char.toNat → a = b
  | [], [], _ => rfl
  | [], _ :: _, h => by cases h
  | _ :: _, [], h => by cases h
  | x :: a, y :: b, h => by
    simp only [List.map_cons, List.cons.injEq] at h
    rw [toNat_inj h.1, map_toNat_inj h.2]
theorem ofS_inj (a b : String) : (Str.ofString a = Str.ofString b) = (a = b) := by
  apply propext
  constructor
  · intro h
    rw [Str.ofString_eq_toList, Str.ofString_eq_toList] at h
    have h2 : a.toList.map Char.toNat = b.toList.map Char.toNat := by simpa using h
    exact String.toList_inj.mp (map_toNat_inj h2)
  · rintro rfl; rfl
theorem strOk_lit (s : String) : PyData.strOk (Str.ofString s) = true := by
  rw [Str.ofString_eq_toList]
  simp only [PyData.strOk, List.all_toArray, List.all_map, List.all_eq_true]
  intro c _
  have := c.valid
  have h : c.toNat < 0x110000 := by
    rcases this with h | h
    · exact Nat.lt_trans h (by decide)
    · exact h.2
  simpa using h

theorem cutT_from {α : Type} {ts : List α} {n : Nat} : cutT ts (some (OfNat.ofNat n : Int)) none = ts.drop n := by
  have e : HT.sIx ts.length 0 (some ((n : Nat) : Int)) = min n ts.length := HT.sIx_nat _ _ _
  show (ts.drop (HT.sIx ts.length 0 (some ((n : Nat) : Int)))).take (HT.sIx ts.length ts.length none - HT.sIx ts.length 0 (some ((n : Nat) : Int))) = _
  rw [e, HT.sIx_none]
  rcases Nat.le_total n ts.length with h | h
  · rw [Nat.min_eq_left h, List.take_of_length_le (by simp)]
  · rw [Nat.min_eq_right h, List.drop_of_length_le h]; simp
theorem cutT_to {α : Type} {ts : List α} {n : Nat} : cutT ts none (some (OfNat.ofNat n : Int)) = ts.take n := by
  have e : HT.sIx ts.length ts.length (some ((n : Nat) : Int)) = min n ts.length := HT.sIx_nat _ _ _
  show (ts.drop (HT.sIx ts.length 0 none)).take (HT.sIx ts.length ts.length (some ((n : Nat) : Int)) - HT.sIx ts.length 0 none) = _
  rw [e, HT.sIx_none]
  simp
section
variable {Q : Wd → Sto → Prop} {E : Exn → Sto → Prop} {st : Sto}
theorem wp_slcT {ts : List T} {lo hi : Option Int} : (bSlc (.v (.tup ts)) lo hi st).wp Q E = Q (.v (.tup (cutT ts lo hi))) st := rfl
theorem wp_slcL {ts : List T} {lo hi : Option Int} : (bSlc (.v (.lst ts)) lo hi st).wp Q E = Q (.v (.lst (cutT ts lo hi))) st := by
  have e : bSlc (.v (.lst ts)) lo hi st = .ok (.v (.lst (cutT ts lo hi))) st := by simp [bSlc]
  rw [e]; rfl
theorem fls_ints : ∀ ns : List Int, fls (ns.map .int) = some (ns.map L2.V.int)
  | [] => rfl
  | n :: r => by simp only [List.map_cons, fls, fl, fls_ints r]
theorem wp_inI {n : Bool} {x : Int} {ns : List Int} {w : Wd} (h : items st w = some ((ns.map T.int).map Wd.v)) (hd : dLook st w (.v (.int x)) = none) (hs : ∀ z, w ≠ .v (.str z)) : (bInN n (.v (.int x)) w st).wp Q E = Q (.v (.bl (if n then !decide (x ∈ ns) else decide (x ∈ ns)))) st := by
  have e : L2.inV (.int x) (ns.map L2.V.int) = decide (x ∈ ns) := by
    unfold L2.inV
    rw [List.any_map]
    rw [Bool.eq_iff_iff]
    simp only [List.any_eq_true, Function.comp, decide_eq_true_eq]
    constructor
    · rintro ⟨y, h1, h2⟩
      have h2 : (y == x) = true := h2
      rw [beq_iff_eq] at h2
      exact h2 ▸ h1
    · exact fun h => ⟨x, h, (beq_iff_eq.mpr rfl : (x == x) = true)⟩
  unfold bInN
  rw [hd]
  simp only [h, allT_map, fl, fls_ints, e]
  rfl
theorem wp_in2 {n : Bool} {x a b : Str} : (bInN n (.v (.str x)) (.v (.lst [.str a, .str b])) st).wp Q E = Q (.v (.bl (if n then !(decide (x = a) || decide (x = b)) else (decide (x = a) || decide (x = b))))) st := by
  have e : L2.inV (.str x) [.str a, .str b] = (decide (x = a) || decide (x = b)) := by
    show ((a == x) || ((b == x) || false)) = _
    rw [Bool.eq_iff_iff]
    simp only [Bool.or_eq_true, beq_iff_eq, decide_eq_true_eq, Bool.or_false]
    exact ⟨fun h => h.imp Eq.symm Eq.symm, fun h => h.imp Eq.symm Eq.symm⟩
  have e2 : bInN n (.v (.str x)) (.v (.lst [.str a, .str b])) st = .ok (.v (.bl (if n then !L2.inV (.str x) [.str a, .str b] else L2.inV (.str x) [.str a, .str b]))) st := by
    unfold bInN
    simp [dLook, items, fl, fls]
  rw [e2, e]; rfl
/-- x in a list | a tuple of ints -/
theorem wp_inIT {n : Bool} {x : Int} {ns : List Int} : (bInN n (.v (.int x)) (.v (.tup (ns.map .int))) st).wp Q E = Q (.v (.bl (if n then !decide (x ∈ ns) else decide (x ∈ ns)))) st := wp_inI (items_tup _ _) rfl (by intro z h; cases h)
theorem wp_inIL {n : Bool} {x : Int} {ns : List Int} : (bInN n (.v (.int x)) (.v (.lst (ns.map .int))) st).wp Q E = Q (.v (.bl (if n then !decide (x ∈ ns) else decide (x ∈ ns)))) st := wp_inI (items_lst _ _) rfl (by intro z h; cases h)
/-- something put behind our last list -/
theorem wp_app {o : Ob} {rest : Sto} {l : List Wd} {w : Wd} : (gAppend (.ref (rest.length + 1)) [w] (o :: (rest ++ [.lst l]))).wp Q E = (l.length < LINE ∧ Q (.v .non) (o :: (rest ++ [.lst (l ++ [w])]))) := by
  have e : gAppend (.ref (rest.length + 1)) [w] (o :: (rest ++ [.lst l])) = if l.length < LINE then .ok (.v .non) (o :: (rest ++ [.lst (l ++ [w])])) else .bad := by
    have e0 : (o :: (rest ++ [Ob.lst l]))[rest.length + 1]? = some (.lst l) := by simp
    have e1 : (o :: (rest ++ [Ob.lst l])).set (rest.length + 1) (.lst (l ++ [w])) = o :: (rest ++ [.lst (l ++ [w])]) := by simp
    unfold gAppend
    dsimp only
    rw [e0]
    dsimp only
    rw [e1]
  rw [e, wp_if]
  by_cases h : l.length < LINE <;> simp [h, wp_ok, wp_bad]
theorem wp_eBm {T : TM} {f : MD} {mo : EM} {ml : LM} {ρ : Ev} : (eBm T f mo ml ρ st).wp Q E = (mo ρ st).wp (fun w st1 => if isW T st1 w = true then (ml ρ st1).wp (fun ws st2 => (f w ws st2).wp Q E) E else False) E := by
  unfold eBm; rw [wp_bind]; congr; funext w st1
  by_cases h : isW T st1 w = true
  · rw [if_pos h, if_pos h, wp_bind]
  · rw [if_neg h, if_neg h]; rfl
theorem isW_last {o : Ob} {rest : Sto} {l : List Wd} : isW .list (o :: (rest ++ [.lst l])) (.ref (rest.length + 1)) = true := by simp [isW]
theorem wp_lstM {ws : List Wd} {o : Ob} {rest : Sto} : (mkLstM ws (o :: rest)).wp Q E = if ws.length ≤ 1000 then Q (.ref (rest.length + 1)) (o :: (rest ++ [.lst ws])) else False := by
  unfold mkLstM; rw [wp_if]; rfl
end
section
variable {Q : Wd → Sto → Prop} {E : Exn → Sto → Prop} {st : Sto} {ts : List T}
theorem ixT0 : (bIdx (.v (.tup ts)) (.v (.int 0)) st).wp Q E = match ts[0]? with | some t => Q (.v t) st | none => False := wp_idxTl (n := 0)
theorem ixL0 : (bIdx (.v (.lst ts)) (.v (.int 0)) st).wp Q E = match ts[0]? with | some t => Q (.v t) st | none => False := wp_idxLl (n := 0)
theorem ixT1 : (bIdx (.v (.tup ts)) (.v (.int 1)) st).wp Q E = match ts[1]? with | some t => Q (.v t) st | none => False := wp_idxTl (n := 1)
theorem ixL1 : (bIdx (.v (.lst ts)) (.v (.int 1)) st).wp Q E = match ts[1]? with | some t => Q (.v t) st | none => False := wp_idxLl (n := 1)
theorem ixT2 : (bIdx (.v (.tup ts)) (.v (.int 2)) st).wp Q E = match ts[2]? with | some t => Q (.v t) st | none => False := wp_idxTl (n := 2)
theorem ixL2 : (bIdx (.v (.lst ts)) (.v (.int 2)) st).wp Q E = match ts[2]? with | some t => Q (.v t) st | none => False := wp_idxLl (n := 2)
theorem ixT3 : (bIdx (.v (.tup ts)) (.v (.int 3)) st).wp Q E = match ts[3]? with | some t => Q (.v t) st | none => False := wp_idxTl (n := 3)
theorem ixL3 : (bIdx (.v (.lst ts)) (.v (.int 3)) st).wp Q E = match ts[3]? with | some t => Q (.v t) st | none => False := wp_idxLl (n := 3)
theorem ixT4 : (bIdx (.v (.tup ts)) (.v (.int 4)) st).wp Q E = match ts[4]? with | some t => Q (.v t) st | none => False := wp_idxTl (n := 4)
theorem ixL4 : (bIdx (.v (.lst ts)) (.v (.int 4)) st).wp Q E = match ts[4]? with | some t => Q (.v t) st | none => False := wp_idxLl (n := 4)
theorem ixT5 : (bIdx (.v (.tup ts)) (.v (.int 5)) st).wp Q E = match ts[5]? with | some t => Q (.v t) st | none => False := wp_idxTl (n := 5)
theorem ixL5 : (bIdx (.v (.lst ts)) (.v (.int 5)) st).wp Q E = match ts[5]? with | some t => Q (.v t) st | none => False := wp_idxLl (n := 5)
theorem ixT6 : (bIdx (.v (.tup ts)) (.v (.int 6)) st).wp Q E = match ts[6]? with | some t => Q (.v t) st | none => False := wp_idxTl (n := 6)
theorem ixL6 : (bIdx (.v (.lst ts)) (.v (.int 6)) st).wp Q E = match ts[6]? with | some t => Q (.v t) st | none => False := wp_idxLl (n := 6)
theorem ixT7 : (bIdx (.v (.tup ts)) (.v (.int 7)) st).wp Q E = match ts[7]? with | some t => Q (.v t) st | none => False := wp_idxTl (n := 7)
theorem ixL7 : (bIdx (.v (.lst ts)) (.v (.int 7)) st).wp Q E = match ts[7]? with | some t => Q (.v t) st | none => False := wp_idxLl (n := 7)
theorem cutF1 {α : Type} {xs : List α} : cutT xs (some (1 : Int)) none = xs.drop 1 := cutT_from (n := 1)
theorem cutU1 {α : Type} {xs : List α} : cutT xs none (some (1 : Int)) = xs.take 1 := cutT_to (n := 1)
theorem cutF2 {α : Type} {xs : List α} : cutT xs (some (2 : Int)) none = xs.drop 2 := cutT_from (n := 2)
theorem cutU2 {α : Type} {xs : List α} : cutT xs none (some (2 : Int)) = xs.take 2 := cutT_to (n := 2)
theorem cutF3 {α : Type} {xs : List α} : cutT xs (some (3 : Int)) none = xs.drop 3 := cutT_from (n := 3)
theorem cutU3 {α : Type} {xs : List α} : cutT xs none (some (3 : Int)) = xs.take 3 := cutT_to (n := 3)
theorem cutF4 {α : Type} {xs : List α} : cutT xs (some (4 : Int)) none = xs.drop 4 := cutT_from (n := 4)
theorem cutU4 {α : Type} {xs : List α} : cutT xs none (some (4 : Int)) = xs.take 4 := cutT_to (n := 4)
theorem cutF5 {α : Type} {xs : List α} : cutT xs (some (5 : Int)) none = xs.drop 5 := cutT_from (n := 5)
theorem cutU5 {α : Type} {xs : List α} : cutT xs none (some (5 : Int)) = xs.take 5 := cutT_to (n := 5)
theorem cutF6 {α : Type} {xs : List α} : cutT xs (some (6 : Int)) none = xs.drop 6 := cutT_from (n := 6)
theorem cutU6 {α : Type} {xs : List α} : cutT xs none (some (6 : Int)) = xs.take 6 := cutT_to (n := 6)
end
section
variable {Q : Ev → Sto → Prop} {E : Exn → Sto → Prop} {st : Sto} {ρ : Ev}
theorem wp_gTp {n : Nat} {g : List Wd → Ev → Sto → R Ev} {ts : List T} : (gTp n g (.v (.tup ts)) ρ st).wp Q E = if ts.length = n then (g (ts.map Wd.v) ρ st).wp Q E else False := by
  show (if ts.length = n then g (ts.map Wd.v) ρ st else .bad).wp Q E = _
  rw [wp_if]; rfl
theorem wp_gsCons {g : GM} {r : List Wd → Ev → Sto → R Ev} {w : Wd} {ws : List Wd} : (gsCons g r (w :: ws) ρ st).wp Q E = (g w ρ st).wp (fun ρ1 st1 => (r ws ρ1 st1).wp Q E) E := by
  show ((g w ρ st).bind fun ρ1 st1 => r ws ρ1 st1).wp Q E = _
  rw [wp_bind]
theorem wp_gsNil : (gsNil [] ρ st).wp Q E = Q ρ st := rfl
theorem wp_isN {x : Wd} {n : Bool} {Q : Wd → Sto → Prop} : (bIsN n x (.v .non) st).wp Q E = Q (.v (.bl (match x with | .v .non => !n | _ => n))) st := rfl
end
theorem wp_eChn {f g : OF} {a b c : EM} {ρ : Ev} {st : Sto} {Q : Wd → Sto → Prop} {E : Exn → Sto → Prop} : (eChn f g a b c ρ st).wp Q E = (a ρ st).wp (fun x st1 => (b ρ st1).wp (fun y st2 => (f x y st2).wp (fun z st3 => (asB z st3).wp (fun k st4 => if k = true then (c ρ st4).wp (fun u st5 => (g y u st5).wp Q E) E else Q (.v (.bl false)) st4) E) E) E) E := by
  unfold eChn; rw [wp_bind]; congr; funext x st1; rw [wp_bind]; congr; funext y st2; rw [wp_bind]; congr; funext z st3; rw [wp_bind]; congr; funext k st4
  cases k
  · rfl
  · show ((c ρ st4).bind fun u st5 => g y u st5).wp Q E = (c ρ st4).wp (fun u st5 => (g y u st5).wp Q E) E
    rw [wp_bind]
end DM

set_option Elab.async false
set_option linter.all false
set_option maxRecDepth 100000
set_option maxHeartbeats 4000000
/-! DT: what the laws' own helpers do. -/
namespace DM
open PySem PySem.Spec PyProof.Rows DL
open Classical

theorem log_small {n : Nat} (h : n < 2 ^ 64) : n.log2 < 9000 := by
  by_cases h0 : n = 0
  · subst h0; decide
  · have : n.log2 < 64 := (Nat.log2_lt h0).mpr h
    omega
theorem divOk_small {x j : Int} (h0 : 0 < j) (h : j < 2 ^ 64) : divOk x j = true := by
  unfold divOk
  have : j.natAbs.log2 < 9000 := log_small (by omega)
  simp [h0, this]
theorem mulOk_r {x j : Int} (h0 : -(2 ^ 64) < j) (h : j < 2 ^ 64) : mulOk x j = true := by
  unfold mulOk
  rw [decide_eq_true h0, decide_eq_true h]; simp
theorem mulOk_l {x j : Int} (h0 : -(2 ^ 64) < x) (h : x < 2 ^ 64) : mulOk x j = true := by
  unfold mulOk
  rw [decide_eq_true h0, decide_eq_true h]; simp
theorem pull_wp {B : Bag} {rest : Sto} {n : Int} {Q : Wd → Sto → Prop} {E : Exn → Sto → Prop} (hn : 0 < n) (hs : n.natAbs.log2 < 9000) (hQ : ∀ (r : Int) (B' : Bag), 0 ≤ r → r < n → Q (.v (.int r)) (B'.ob :: rest)) :
    (m__law_pull [.ref 0, .v (.int n)] (B.ob :: rest)).wp Q E := by
  unfold m__law_pull
  refine wp_run rfl ?_
  have fin : ∀ (B' : Bag) (r : Int), 0 ≤ r → r < n → B'.cells = B.cells → Close (B.ob :: rest) Q (.v (.int r)) (B'.ob :: rest) := fun B' r h0 h1 h2 => by
    refine ⟨by simpa using trunc_bag (new := []), _, rfl, ?_⟩
    rw [List.take_of_length_le (by simp)]
    exact hQ r B' h0 h1
  have hmod : ∀ x : Int, 0 ≤ x % n ∧ x % n < n := fun x => ⟨Int.emod_nonneg _ (by omega), Int.emod_lt_of_pos _ hn⟩
  unfold c__law_pull
  simp only [denS]
  refine wp_mid (R := fun ρ1 st1 => ∃ (B' : Bag) (c : Option Wd), B'.cells = B.cells ∧ ρ1 = [some (.ref 0), some (.v (.int n)), none, c, none] ∧ st1 = B'.ob :: rest) ?_ fun ρ1 st1 ⟨B1, c, hc, e1, e2⟩ => ?_
  · have same : ∀ (B' : Bag) (c : Option Wd), B'.cells = B.cells → ∃ (B2 : Bag) (c2 : Option Wd), B2.cells = B.cells ∧ [some (Wd.ref 0), some (Wd.v (T.int n)), none, c, none] = [some (Wd.ref 0), some (Wd.v (T.int n)), none, c2, none] ∧ B'.ob :: rest = B2.ob :: rest := fun B' c h => ⟨B', c, h, rfl, rfl⟩
    simp (maxSteps := 2000000) only [denS, den, Den.of, CE.cnt, CE.isNil, CO.f, BO.f, BI.den, wp_seq, wp_sIf, wp_tAnd, wp_tOr, wp_tNot, wp_tOf, wp_tCmp, wp_eBin, wp_eAnd, wp_eOr, wp_eNot, wp_eNeg, wp_eIte, wp_eSlc, wp_pNone, wp_pSome, wp_bYes, wp_asB, wp_eVar, wp_eT, wp_put, wp_asg, wp_gNam, wp_nil, wp_ret, wp_exp, wp_eApp, wp_lCons, wp_lNil, wp_ok, wp_bad, wp_nx, wp_rt, wp_bk, wp_ct, List.map_cons, List.map_nil, List.cons_append, List.nil_append, List.append_nil, List.replicate_succ, List.replicate_zero, Nat.reduceSub, List.getElem?_cons_zero, List.getElem?_cons_succ, List.set_cons_zero, List.set_cons_succ, Nat.reduceAdd, Nat.reduceLeDiff, allT_v, allT_nil, List.length_cons, List.length_nil, List.length_append, List.length_map, Nat.succ_eq_add_one, ite_true, ite_false, if_true, if_false, reduceIte, Bool.false_eq_true, decide_eq_true_eq, Bool.not_eq_true, Bool.not_eq_false, true_and, and_true, wp_bInt, wp_addI, wp_addT, wp_addL, wp_eqI, wp_eqB, wp_eqS, ixT0, ixL0, ixT1, ixL1, ixT2, ixL2, ixT3, ixL3, ixT4, ixL4, ixT5, ixL5, ixT6, ixL6, ixT7, ixL7, cutF1, cutU1, cutF2, cutU2, cutF3, cutU3, cutF4, cutU4, cutF5, cutU5, cutF6, cutU6, bag_0, bag_1, bag_2, bag_3, bagp_1, bagp_2, bagp_3, wp_slcT, wp_slcL, List.drop_succ_cons, List.drop_zero, List.take_succ_cons, List.take_zero, List.drop_nil, wp_in2, wp_inIT, wp_inIL, wp_app, wp_eBm, isW_last, wp_lstM, BMt.f, BMt.T, ofS_inj, strOk_lit, String.reduceEq, decide_false, decide_true, Bool.not_true, Bool.not_false, Bool.or_false, Bool.false_or, Bool.or_true, Bool.true_or, and_self, wp_eChn, wp_gTp, wp_gsCons, wp_gsNil, wp_isN, wipeE, List.getD_cons_zero, List.getD_cons_succ, Option.map_some, mk_tup, mk_lst, wp_len]
    split
    · refine ⟨rfl, ?_⟩
      split
      · rename_i hi
        have hi : B.i < B.cells.length := by simpa using hi
        rw [wp_idxL (t := .int B.cells[B.i]) (by simp [hi])]
        simp (maxSteps := 2000000) only [denS, den, Den.of, CE.cnt, CE.isNil, CO.f, BO.f, BI.den, wp_seq, wp_sIf, wp_tAnd, wp_tOr, wp_tNot, wp_tOf, wp_tCmp, wp_eBin, wp_eAnd, wp_eOr, wp_eNot, wp_eNeg, wp_eIte, wp_eSlc, wp_pNone, wp_pSome, wp_bYes, wp_asB, wp_eVar, wp_eT, wp_put, wp_asg, wp_gNam, wp_nil, wp_ret, wp_exp, wp_eApp, wp_lCons, wp_lNil, wp_ok, wp_bad, wp_nx, wp_rt, wp_bk, wp_ct, List.map_cons, List.map_nil, List.cons_append, List.nil_append, List.append_nil, List.replicate_succ, List.replicate_zero, Nat.reduceSub, List.getElem?_cons_zero, List.getElem?_cons_succ, List.set_cons_zero, List.set_cons_succ, Nat.reduceAdd, Nat.reduceLeDiff, allT_v, allT_nil, List.length_cons, List.length_nil, List.length_append, List.length_map, Nat.succ_eq_add_one, ite_true, ite_false, if_true, if_false, reduceIte, Bool.false_eq_true, decide_eq_true_eq, Bool.not_eq_true, Bool.not_eq_false, true_and, and_true, wp_bInt, wp_addI, wp_addT, wp_addL, wp_eqI, wp_eqB, wp_eqS, ixT0, ixL0, ixT1, ixL1, ixT2, ixL2, ixT3, ixL3, ixT4, ixL4, ixT5, ixL5, ixT6, ixL6, ixT7, ixL7, cutF1, cutU1, cutF2, cutU2, cutF3, cutU3, cutF4, cutU4, cutF5, cutU5, cutF6, cutU6, bag_0, bag_1, bag_2, bag_3, bagp_1, bagp_2, bagp_3, wp_slcT, wp_slcL, List.drop_succ_cons, List.drop_zero, List.take_succ_cons, List.take_zero, List.drop_nil, wp_in2, wp_inIT, wp_inIL, wp_app, wp_eBm, isW_last, wp_lstM, BMt.f, BMt.T, ofS_inj, strOk_lit, String.reduceEq, decide_false, decide_true, Bool.not_true, Bool.not_false, Bool.or_false, Bool.false_or, Bool.or_true, Bool.true_or, and_self, wp_eChn, wp_gTp, wp_gsCons, wp_gsNil, wp_isN, wipeE, List.getD_cons_zero, List.getD_cons_succ, Option.map_some, mk_tup, mk_lst, wp_len]
        refine ⟨by decide, rfl, ?_⟩
        split
        · exact same ⟨B.cells, B.i + 1, B.cells[B.i], B.s⟩ _ rfl
        · exact ⟨mulOk_r (by decide) (by decide), by decide, mulOk_r (by decide) (by decide), by decide, same ⟨B.cells, B.i + 1, B.a, _⟩ _ rfl⟩
      · exact same B _ rfl
    · exact same B _ rfl
  · subst e1 e2
    simp (maxSteps := 2000000) only [denS, den, Den.of, CE.cnt, CE.isNil, CO.f, BO.f, BI.den, wp_seq, wp_sIf, wp_tAnd, wp_tOr, wp_tNot, wp_tOf, wp_tCmp, wp_eBin, wp_eAnd, wp_eOr, wp_eNot, wp_eNeg, wp_eIte, wp_eSlc, wp_pNone, wp_pSome, wp_bYes, wp_asB, wp_eVar, wp_eT, wp_put, wp_asg, wp_gNam, wp_nil, wp_ret, wp_exp, wp_eApp, wp_lCons, wp_lNil, wp_ok, wp_bad, wp_nx, wp_rt, wp_bk, wp_ct, List.map_cons, List.map_nil, List.cons_append, List.nil_append, List.append_nil, List.replicate_succ, List.replicate_zero, Nat.reduceSub, List.getElem?_cons_zero, List.getElem?_cons_succ, List.set_cons_zero, List.set_cons_succ, Nat.reduceAdd, Nat.reduceLeDiff, allT_v, allT_nil, List.length_cons, List.length_nil, List.length_append, List.length_map, Nat.succ_eq_add_one, ite_true, ite_false, if_true, if_false, reduceIte, Bool.false_eq_true, decide_eq_true_eq, Bool.not_eq_true, Bool.not_eq_false, true_and, and_true, wp_bInt, wp_addI, wp_addT, wp_addL, wp_eqI, wp_eqB, wp_eqS, ixT0, ixL0, ixT1, ixL1, ixT2, ixL2, ixT3, ixL3, ixT4, ixL4, ixT5, ixL5, ixT6, ixL6, ixT7, ixL7, cutF1, cutU1, cutF2, cutU2, cutF3, cutU3, cutF4, cutU4, cutF5, cutU5, cutF6, cutU6, bag_0, bag_1, bag_2, bag_3, bagp_1, bagp_2, bagp_3, wp_slcT, wp_slcL, List.drop_succ_cons, List.drop_zero, List.take_succ_cons, List.take_zero, List.drop_nil, wp_in2, wp_inIT, wp_inIL, wp_app, wp_eBm, isW_last, wp_lstM, BMt.f, BMt.T, ofS_inj, strOk_lit, String.reduceEq, decide_false, decide_true, Bool.not_true, Bool.not_false, Bool.or_false, Bool.false_or, Bool.or_true, Bool.true_or, and_self, wp_eChn, wp_gTp, wp_gsCons, wp_gsNil, wp_isN, wipeE, List.getD_cons_zero, List.getD_cons_succ, Option.map_some, mk_tup, mk_lst, wp_len]
    refine ⟨rfl, ?_⟩
    split
    · exact ⟨hn, by unfold divOk; simp [hn, hs], fin _ _ (hmod _).1 (hmod _).2 hc⟩
    · exact ⟨mulOk_r (by decide) (by decide), divOk_small (by decide) (by decide), mulOk_r (by decide) (by decide), by decide, divOk_small (by decide) (by decide), by decide, mulOk_r (by decide) (by decide), hn, fin _ _ (hmod _).1 (hmod _).2 hc⟩

theorem pull_lit {B : Bag} {rest : Sto} {n : Nat} {Q : Wd → Sto → Prop} {E : Exn → Sto → Prop} (hn : 0 < n) (hs : n < 2 ^ 64) (hQ : ∀ (r : Int) (B' : Bag), 0 ≤ r → r < (n : Int) → Q (.v (.int r)) (B'.ob :: rest)) :
    (m__law_pull [.ref 0, .v (.int (OfNat.ofNat n))] (B.ob :: rest)).wp Q E :=
  pull_wp (n := (n : Int)) (by omega) (by simpa using log_small hs) hQ
theorem close_v {B B' : Bag} {rest : Sto} {Q : Wd → Sto → Prop} {t : T} (h : Q (.v t) (B'.ob :: rest)) : Close (B.ob :: rest) Q (.v t) (B'.ob :: rest) := by
  refine ⟨by simpa using trunc_bag (new := []), _, rfl, ?_⟩
  rw [List.take_of_length_le (by simp)]
  exact h
theorem wp_intB {b : Bool} {st : Sto} {Q : Wd → Sto → Prop} {E : Exn → Sto → Prop} : (fInt [.v (.bl b)] st).wp Q E = Q (.v (.int (if b = true then 1 else 0))) st := rfl
theorem idxL_mem {ts : List T} {r : Int} {st : Sto} {Q : Wd → Sto → Prop} {E : Exn → Sto → Prop} (h0 : 0 ≤ r) (h1 : r < ts.length) (hQ : ∀ t ∈ ts, Q (.v t) st) : (bIdx (.v (.lst ts)) (.v (.int r)) st).wp Q E := by
  obtain ⟨k, rfl⟩ := Int.eq_ofNat_of_zero_le h0
  have hk : k < ts.length := by omega
  rw [wp_idxL (t := ts[k]) (by simp [hk])]
  exact hQ _ (List.getElem_mem hk)
theorem gate_wp {B : Bag} {rest : Sto} {Q : Wd → Sto → Prop} {E : Exn → Sto → Prop} (hQ : ∀ (r : Int) (B' : Bag), 0 ≤ r → r < 8 → Q (.v (.int r)) (B'.ob :: rest)) :
    (m__law_gate [.ref 0] (B.ob :: rest)).wp Q E := by
  unfold m__law_gate
  refine wp_run rfl ?_
  simp (maxSteps := 2000000) only [c__law_gate, tb__law_gate, denS, den, Den.of, CE.cnt, CE.isNil, CO.f, BO.f, BI.den, wp_seq, wp_sIf, wp_tAnd, wp_tOr, wp_tNot, wp_tOf, wp_tCmp, wp_eBin, wp_eAnd, wp_eOr, wp_eNot, wp_eNeg, wp_eIte, wp_eSlc, wp_pNone, wp_pSome, wp_bYes, wp_asB, wp_eVar, wp_eT, wp_put, wp_asg, wp_gNam, wp_nil, wp_ret, wp_exp, wp_eApp, wp_lCons, wp_lNil, wp_ok, wp_bad, wp_nx, wp_rt, wp_bk, wp_ct, List.map_cons, List.map_nil, List.cons_append, List.nil_append, List.append_nil, List.replicate_succ, List.replicate_zero, Nat.reduceSub, List.getElem?_cons_zero, List.getElem?_cons_succ, List.set_cons_zero, List.set_cons_succ, Nat.reduceAdd, Nat.reduceLeDiff, allT_v, allT_nil, List.length_cons, List.length_nil, List.length_append, List.length_map, Nat.succ_eq_add_one, ite_true, ite_false, if_true, if_false, reduceIte, Bool.false_eq_true, decide_eq_true_eq, Bool.not_eq_true, Bool.not_eq_false, true_and, and_true, wp_bInt, wp_addI, wp_addT, wp_addL, wp_eqI, wp_eqB, wp_eqS, ixT0, ixL0, ixT1, ixL1, ixT2, ixL2, ixT3, ixL3, ixT4, ixL4, ixT5, ixL5, ixT6, ixL6, ixT7, ixL7, cutF1, cutU1, cutF2, cutU2, cutF3, cutU3, cutF4, cutU4, cutF5, cutU5, cutF6, cutU6, bag_0, bag_1, bag_2, bag_3, bagp_1, bagp_2, bagp_3, wp_slcT, wp_slcL, List.drop_succ_cons, List.drop_zero, List.take_succ_cons, List.take_zero, List.drop_nil, wp_in2, wp_inIT, wp_inIL, wp_app, wp_eBm, isW_last, wp_lstM, BMt.f, BMt.T, ofS_inj, strOk_lit, String.reduceEq, decide_false, decide_true, Bool.not_true, Bool.not_false, Bool.or_false, Bool.false_or, Bool.or_true, Bool.true_or, and_self, wp_eChn, wp_gTp, wp_gsCons, wp_gsNil, wp_isN, wipeE, List.getD_cons_zero, List.getD_cons_succ, Option.map_some, mk_tup, mk_lst, wp_len]
  refine pull_lit (n := 4) (by decide) (by decide) fun r B1 h0 h1 => ?_
  simp (maxSteps := 2000000) only [wp_intB, denS, den, Den.of, CE.cnt, CE.isNil, CO.f, BO.f, BI.den, wp_seq, wp_sIf, wp_tAnd, wp_tOr, wp_tNot, wp_tOf, wp_tCmp, wp_eBin, wp_eAnd, wp_eOr, wp_eNot, wp_eNeg, wp_eIte, wp_eSlc, wp_pNone, wp_pSome, wp_bYes, wp_asB, wp_eVar, wp_eT, wp_put, wp_asg, wp_gNam, wp_nil, wp_ret, wp_exp, wp_eApp, wp_lCons, wp_lNil, wp_ok, wp_bad, wp_nx, wp_rt, wp_bk, wp_ct, List.map_cons, List.map_nil, List.cons_append, List.nil_append, List.append_nil, List.replicate_succ, List.replicate_zero, Nat.reduceSub, List.getElem?_cons_zero, List.getElem?_cons_succ, List.set_cons_zero, List.set_cons_succ, Nat.reduceAdd, Nat.reduceLeDiff, allT_v, allT_nil, List.length_cons, List.length_nil, List.length_append, List.length_map, Nat.succ_eq_add_one, ite_true, ite_false, if_true, if_false, reduceIte, Bool.false_eq_true, decide_eq_true_eq, Bool.not_eq_true, Bool.not_eq_false, true_and, and_true, wp_bInt, wp_addI, wp_addT, wp_addL, wp_eqI, wp_eqB, wp_eqS, ixT0, ixL0, ixT1, ixL1, ixT2, ixL2, ixT3, ixL3, ixT4, ixL4, ixT5, ixL5, ixT6, ixL6, ixT7, ixL7, cutF1, cutU1, cutF2, cutU2, cutF3, cutU3, cutF4, cutU4, cutF5, cutU5, cutF6, cutU6, bag_0, bag_1, bag_2, bag_3, bagp_1, bagp_2, bagp_3, wp_slcT, wp_slcL, List.drop_succ_cons, List.drop_zero, List.take_succ_cons, List.take_zero, List.drop_nil, wp_in2, wp_inIT, wp_inIL, wp_app, wp_eBm, isW_last, wp_lstM, BMt.f, BMt.T, ofS_inj, strOk_lit, String.reduceEq, decide_false, decide_true, Bool.not_true, Bool.not_false, Bool.or_false, Bool.false_or, Bool.or_true, Bool.true_or, and_self, wp_eChn, wp_gTp, wp_gsCons, wp_gsNil, wp_isN, wipeE, List.getD_cons_zero, List.getD_cons_succ, Option.map_some, mk_tup, mk_lst, wp_len]
  by_cases hr : r = 0
  · simp (maxSteps := 2000000) only [hr, denS, den, Den.of, CE.cnt, CE.isNil, CO.f, BO.f, BI.den, wp_seq, wp_sIf, wp_tAnd, wp_tOr, wp_tNot, wp_tOf, wp_tCmp, wp_eBin, wp_eAnd, wp_eOr, wp_eNot, wp_eNeg, wp_eIte, wp_eSlc, wp_pNone, wp_pSome, wp_bYes, wp_asB, wp_eVar, wp_eT, wp_put, wp_asg, wp_gNam, wp_nil, wp_ret, wp_exp, wp_eApp, wp_lCons, wp_lNil, wp_ok, wp_bad, wp_nx, wp_rt, wp_bk, wp_ct, List.map_cons, List.map_nil, List.cons_append, List.nil_append, List.append_nil, List.replicate_succ, List.replicate_zero, Nat.reduceSub, List.getElem?_cons_zero, List.getElem?_cons_succ, List.set_cons_zero, List.set_cons_succ, Nat.reduceAdd, Nat.reduceLeDiff, allT_v, allT_nil, List.length_cons, List.length_nil, List.length_append, List.length_map, Nat.succ_eq_add_one, ite_true, ite_false, if_true, if_false, reduceIte, Bool.false_eq_true, decide_eq_true_eq, Bool.not_eq_true, Bool.not_eq_false, true_and, and_true, wp_bInt, wp_addI, wp_addT, wp_addL, wp_eqI, wp_eqB, wp_eqS, ixT0, ixL0, ixT1, ixL1, ixT2, ixL2, ixT3, ixL3, ixT4, ixL4, ixT5, ixL5, ixT6, ixL6, ixT7, ixL7, cutF1, cutU1, cutF2, cutU2, cutF3, cutU3, cutF4, cutU4, cutF5, cutU5, cutF6, cutU6, bag_0, bag_1, bag_2, bag_3, bagp_1, bagp_2, bagp_3, wp_slcT, wp_slcL, List.drop_succ_cons, List.drop_zero, List.take_succ_cons, List.take_zero, List.drop_nil, wp_in2, wp_inIT, wp_inIL, wp_app, wp_eBm, isW_last, wp_lstM, BMt.f, BMt.T, ofS_inj, strOk_lit, String.reduceEq, decide_false, decide_true, Bool.not_true, Bool.not_false, Bool.or_false, Bool.false_or, Bool.or_true, Bool.true_or, and_self, wp_eChn, wp_gTp, wp_gsCons, wp_gsNil, wp_isN, wipeE, List.getD_cons_zero, List.getD_cons_succ, Option.map_some, mk_tup, mk_lst, wp_len]
    exact pull_lit (n := 8) (by decide) (by decide) fun r B2 h0 h1 => close_v (hQ _ _ h0 (by omega))
  · simp (maxSteps := 2000000) only [hr, denS, den, Den.of, CE.cnt, CE.isNil, CO.f, BO.f, BI.den, wp_seq, wp_sIf, wp_tAnd, wp_tOr, wp_tNot, wp_tOf, wp_tCmp, wp_eBin, wp_eAnd, wp_eOr, wp_eNot, wp_eNeg, wp_eIte, wp_eSlc, wp_pNone, wp_pSome, wp_bYes, wp_asB, wp_eVar, wp_eT, wp_put, wp_asg, wp_gNam, wp_nil, wp_ret, wp_exp, wp_eApp, wp_lCons, wp_lNil, wp_ok, wp_bad, wp_nx, wp_rt, wp_bk, wp_ct, List.map_cons, List.map_nil, List.cons_append, List.nil_append, List.append_nil, List.replicate_succ, List.replicate_zero, Nat.reduceSub, List.getElem?_cons_zero, List.getElem?_cons_succ, List.set_cons_zero, List.set_cons_succ, Nat.reduceAdd, Nat.reduceLeDiff, allT_v, allT_nil, List.length_cons, List.length_nil, List.length_append, List.length_map, Nat.succ_eq_add_one, ite_true, ite_false, if_true, if_false, reduceIte, Bool.false_eq_true, decide_eq_true_eq, Bool.not_eq_true, Bool.not_eq_false, true_and, and_true, wp_bInt, wp_addI, wp_addT, wp_addL, wp_eqI, wp_eqB, wp_eqS, ixT0, ixL0, ixT1, ixL1, ixT2, ixL2, ixT3, ixL3, ixT4, ixL4, ixT5, ixL5, ixT6, ixL6, ixT7, ixL7, cutF1, cutU1, cutF2, cutU2, cutF3, cutU3, cutF4, cutU4, cutF5, cutU5, cutF6, cutU6, bag_0, bag_1, bag_2, bag_3, bagp_1, bagp_2, bagp_3, wp_slcT, wp_slcL, List.drop_succ_cons, List.drop_zero, List.take_succ_cons, List.take_zero, List.drop_nil, wp_in2, wp_inIT, wp_inIL, wp_app, wp_eBm, isW_last, wp_lstM, BMt.f, BMt.T, ofS_inj, strOk_lit, String.reduceEq, decide_false, decide_true, Bool.not_true, Bool.not_false, Bool.or_false, Bool.false_or, Bool.or_true, Bool.true_or, and_self, wp_eChn, wp_gTp, wp_gsCons, wp_gsNil, wp_isN, wipeE, List.getD_cons_zero, List.getD_cons_succ, Option.map_some, mk_tup, mk_lst, wp_len]
    exact pull_lit (n := 4) (by decide) (by decide) fun r B2 h0 h1 => close_v (hQ _ _ h0 (by omega))
theorem day_wp {B : Bag} {rest : Sto} {Q : Wd → Sto → Prop} {E : Exn → Sto → Prop} (hQ : ∀ (r : Int) (B' : Bag), 0 ≤ r → r ≤ 999 → Q (.v (.int r)) (B'.ob :: rest)) :
    (m__law_day [.ref 0] (B.ob :: rest)).wp Q E := by
  unfold m__law_day
  refine wp_run rfl ?_
  simp (maxSteps := 2000000) only [c__law_day, tb__law_day, denS, den, Den.of, CE.cnt, CE.isNil, CO.f, BO.f, BI.den, wp_seq, wp_sIf, wp_tAnd, wp_tOr, wp_tNot, wp_tOf, wp_tCmp, wp_eBin, wp_eAnd, wp_eOr, wp_eNot, wp_eNeg, wp_eIte, wp_eSlc, wp_pNone, wp_pSome, wp_bYes, wp_asB, wp_eVar, wp_eT, wp_put, wp_asg, wp_gNam, wp_nil, wp_ret, wp_exp, wp_eApp, wp_lCons, wp_lNil, wp_ok, wp_bad, wp_nx, wp_rt, wp_bk, wp_ct, List.map_cons, List.map_nil, List.cons_append, List.nil_append, List.append_nil, List.replicate_succ, List.replicate_zero, Nat.reduceSub, List.getElem?_cons_zero, List.getElem?_cons_succ, List.set_cons_zero, List.set_cons_succ, Nat.reduceAdd, Nat.reduceLeDiff, allT_v, allT_nil, List.length_cons, List.length_nil, List.length_append, List.length_map, Nat.succ_eq_add_one, ite_true, ite_false, if_true, if_false, reduceIte, Bool.false_eq_true, decide_eq_true_eq, Bool.not_eq_true, Bool.not_eq_false, true_and, and_true, wp_bInt, wp_addI, wp_addT, wp_addL, wp_eqI, wp_eqB, wp_eqS, ixT0, ixL0, ixT1, ixL1, ixT2, ixL2, ixT3, ixL3, ixT4, ixL4, ixT5, ixL5, ixT6, ixL6, ixT7, ixL7, cutF1, cutU1, cutF2, cutU2, cutF3, cutU3, cutF4, cutU4, cutF5, cutU5, cutF6, cutU6, bag_0, bag_1, bag_2, bag_3, bagp_1, bagp_2, bagp_3, wp_slcT, wp_slcL, List.drop_succ_cons, List.drop_zero, List.take_succ_cons, List.take_zero, List.drop_nil, wp_in2, wp_inIT, wp_inIL, wp_app, wp_eBm, isW_last, wp_lstM, BMt.f, BMt.T, ofS_inj, strOk_lit, String.reduceEq, decide_false, decide_true, Bool.not_true, Bool.not_false, Bool.or_false, Bool.false_or, Bool.or_true, Bool.true_or, and_self, wp_eChn, wp_gTp, wp_gsCons, wp_gsNil, wp_isN, wipeE, List.getD_cons_zero, List.getD_cons_succ, Option.map_some, mk_tup, mk_lst, wp_len]
  refine pull_lit (n := 4) (by decide) (by decide) fun r B1 h0 h1 => ?_
  refine idxL_mem h0 (by simpa using h1) fun t ht => ?_
  have hs : ∃ s : Int, t = .int s ∧ 0 ≤ s ∧ s ≤ 999 := by
    simp only [List.mem_cons, List.not_mem_nil, or_false] at ht
    rcases ht with rfl | rfl | rfl | rfl <;> exact ⟨_, rfl, by decide, by decide⟩
  obtain ⟨s, rfl, s0, s1⟩ := hs
  refine pull_lit (n := 9) (by decide) (by decide) fun r1 B2 a0 a1 => ?_
  refine pull_lit (n := 3) (by decide) (by decide) fun r2 B3 b0 b1 => ?_
  simp (maxSteps := 2000000) only [denS, den, Den.of, CE.cnt, CE.isNil, CO.f, BO.f, BI.den, wp_seq, wp_sIf, wp_tAnd, wp_tOr, wp_tNot, wp_tOf, wp_tCmp, wp_eBin, wp_eAnd, wp_eOr, wp_eNot, wp_eNeg, wp_eIte, wp_eSlc, wp_pNone, wp_pSome, wp_bYes, wp_asB, wp_eVar, wp_eT, wp_put, wp_asg, wp_gNam, wp_nil, wp_ret, wp_exp, wp_eApp, wp_lCons, wp_lNil, wp_ok, wp_bad, wp_nx, wp_rt, wp_bk, wp_ct, List.map_cons, List.map_nil, List.cons_append, List.nil_append, List.append_nil, List.replicate_succ, List.replicate_zero, Nat.reduceSub, List.getElem?_cons_zero, List.getElem?_cons_succ, List.set_cons_zero, List.set_cons_succ, Nat.reduceAdd, Nat.reduceLeDiff, allT_v, allT_nil, List.length_cons, List.length_nil, List.length_append, List.length_map, Nat.succ_eq_add_one, ite_true, ite_false, if_true, if_false, reduceIte, Bool.false_eq_true, decide_eq_true_eq, Bool.not_eq_true, Bool.not_eq_false, true_and, and_true, wp_bInt, wp_addI, wp_addT, wp_addL, wp_eqI, wp_eqB, wp_eqS, ixT0, ixL0, ixT1, ixL1, ixT2, ixL2, ixT3, ixL3, ixT4, ixL4, ixT5, ixL5, ixT6, ixL6, ixT7, ixL7, cutF1, cutU1, cutF2, cutU2, cutF3, cutU3, cutF4, cutU4, cutF5, cutU5, cutF6, cutU6, bag_0, bag_1, bag_2, bag_3, bagp_1, bagp_2, bagp_3, wp_slcT, wp_slcL, List.drop_succ_cons, List.drop_zero, List.take_succ_cons, List.take_zero, List.drop_nil, wp_in2, wp_inIT, wp_inIL, wp_app, wp_eBm, isW_last, wp_lstM, BMt.f, BMt.T, ofS_inj, strOk_lit, String.reduceEq, decide_false, decide_true, Bool.not_true, Bool.not_false, Bool.or_false, Bool.false_or, Bool.or_true, Bool.true_or, and_self, wp_eChn, wp_gTp, wp_gsCons, wp_gsNil, wp_isN, wipeE, List.getD_cons_zero, List.getD_cons_succ, Option.map_some, mk_tup, mk_lst, wp_len]
  refine pull_lit (n := 1000) (by decide) (by decide) fun r3 B4 c0 c1 => ?_
  simp (maxSteps := 2000000) only [denS, den, Den.of, CE.cnt, CE.isNil, CO.f, BO.f, BI.den, wp_seq, wp_sIf, wp_tAnd, wp_tOr, wp_tNot, wp_tOf, wp_tCmp, wp_eBin, wp_eAnd, wp_eOr, wp_eNot, wp_eNeg, wp_eIte, wp_eSlc, wp_pNone, wp_pSome, wp_bYes, wp_asB, wp_eVar, wp_eT, wp_put, wp_asg, wp_gNam, wp_nil, wp_ret, wp_exp, wp_eApp, wp_lCons, wp_lNil, wp_ok, wp_bad, wp_nx, wp_rt, wp_bk, wp_ct, List.map_cons, List.map_nil, List.cons_append, List.nil_append, List.append_nil, List.replicate_succ, List.replicate_zero, Nat.reduceSub, List.getElem?_cons_zero, List.getElem?_cons_succ, List.set_cons_zero, List.set_cons_succ, Nat.reduceAdd, Nat.reduceLeDiff, allT_v, allT_nil, List.length_cons, List.length_nil, List.length_append, List.length_map, Nat.succ_eq_add_one, ite_true, ite_false, if_true, if_false, reduceIte, Bool.false_eq_true, decide_eq_true_eq, Bool.not_eq_true, Bool.not_eq_false, true_and, and_true, wp_bInt, wp_addI, wp_addT, wp_addL, wp_eqI, wp_eqB, wp_eqS, ixT0, ixL0, ixT1, ixL1, ixT2, ixL2, ixT3, ixL3, ixT4, ixL4, ixT5, ixL5, ixT6, ixL6, ixT7, ixL7, cutF1, cutU1, cutF2, cutU2, cutF3, cutU3, cutF4, cutU4, cutF5, cutU5, cutF6, cutU6, bag_0, bag_1, bag_2, bag_3, bagp_1, bagp_2, bagp_3, wp_slcT, wp_slcL, List.drop_succ_cons, List.drop_zero, List.take_succ_cons, List.take_zero, List.drop_nil, wp_in2, wp_inIT, wp_inIL, wp_app, wp_eBm, isW_last, wp_lstM, BMt.f, BMt.T, ofS_inj, strOk_lit, String.reduceEq, decide_false, decide_true, Bool.not_true, Bool.not_false, Bool.or_false, Bool.false_or, Bool.or_true, Bool.true_or, and_self, wp_eChn, wp_gTp, wp_gsCons, wp_gsNil, wp_isN, wipeE, List.getD_cons_zero, List.getD_cons_succ, Option.map_some, mk_tup, mk_lst, wp_len]
  refine pull_lit (n := 4) (by decide) (by decide) fun r4 B5 d0 d1 => ?_
  refine idxL_mem d0 (by simpa using d1) fun t ht => ?_
  simp only [List.mem_cons, List.not_mem_nil, or_false] at ht
  rcases ht with rfl | rfl | rfl | rfl
  · exact close_v (hQ _ _ a0 (by omega))
  · exact close_v (hQ _ _ s0 s1)
  · exact close_v (hQ _ _ (by omega) (by omega))
  · exact close_v (hQ _ _ c0 (by omega))

theorem wp_rng1 {j : Int} {st : Sto} {Q : List Wd × (Sto → Prop) → Sto → Prop} {E : Exn → Sto → Prop} (h : j ≤ 1000000 ∧ -1000000 ≤ j) (hQ : Q (rngL 0 j, fun _ => True) st) : (wRng1 [.v (.int j)] st).wp Q E := by
  show (if j ≤ 1000000 ∧ -1000000 ≤ j then R.ok (rngL 0 j, fun _ => True) st else .bad : R (List Wd × (Sto → Prop))).wp Q E
  rw [if_pos h]
  exact hQ
theorem frzL_ts {ts : List T} {st : Sto} {Q : Wd → Sto → Prop} {E : Exn → Sto → Prop} : (frzL (ts.map .v) st).wp Q E = Q (.v (.lst ts)) st := by
  unfold frzL; rw [allT_map]; rfl
theorem tupleL {ts : List T} {st : Sto} {Q : Wd → Sto → Prop} {E : Exn → Sto → Prop} : (fTuple [.v (.lst ts)] st).wp Q E = Q (.v (.tup ts)) st := by
  have e : fTuple [.v (.lst ts)] st = .ok (.v (.tup ts)) st := by simp [fTuple]
  rw [e]; rfl
structure Fc where
  w : Str
  a : Int
  b : Int
  r : List T
def Fc.t (f : Fc) : T := .tup (.str f.w :: .int f.a :: .int f.b :: f.r)
inductive FOk : Fc → Prop
  | pass {d m g c h : Int} : 0 ≤ d → d ≤ 999 → 0 ≤ m → m ≤ 1439 → 0 ≤ g → g < 8 → 0 ≤ c → c < 10 → 1 ≤ h → h ≤ 8 → FOk ⟨"pass", d, m, [.int g, .int c, .int h]⟩
  | toll {g d h : Int} : 0 ≤ g → g < 8 → 0 ≤ d → d ≤ 999 → 0 ≤ h → h < 49 → FOk ⟨"toll", g, d, [.int h]⟩
  | board {g d : Int} {gs : List Int} : 0 ≤ g → g < 8 → 0 ≤ d → d ≤ 999 → gs.length ≤ 8 → (∀ x ∈ gs, 0 ≤ x ∧ x < 8) → FOk ⟨"board", g, d, [.tup (gs.map .int)]⟩
  | trust {g d t : Int} : 0 ≤ g → g < 8 → 0 ≤ d → d ≤ 999 → 0 ≤ t → t < 4 → FOk ⟨"trust", g, d, [.int t]⟩
  | folk {c a b : Int} : 0 ≤ c → c < 10 → 0 ≤ a → a ≤ 999 → 0 ≤ b → b ≤ 999 → FOk ⟨"folk", c, a, [.int b]⟩
  | bargain {g c a b : Int} : 0 ≤ g → g < 8 → 0 ≤ c → c < 10 → 0 ≤ a → a ≤ 999 → 0 ≤ b → b ≤ 999 → FOk ⟨"bargain", g, c, [.int a, .int b]⟩
  | lost {n m : Int} : 1 ≤ n → 0 ≤ m → m ≤ 1439 → FOk ⟨"lost", n, m, []⟩
  | paid {c d k : Int} : 0 ≤ c → c < 10 → 0 ≤ d → d ≤ 999 → 0 ≤ k → k ≤ 100000 → FOk ⟨"paid", c, d, [.int k]⟩
theorem idxT_if {p : Prop} [Decidable p] {x y : Int} {st : Sto} {Q : Wd → Sto → Prop} {E : Exn → Sto → Prop} (h : ∀ z, (z = x ∨ z = y) → Q (.v (.int z)) st) : (bIdx (.v (.tup [.int x, .int y])) (.v (.int (if p then 1 else 0))) st).wp Q E := by
  by_cases hp : p
  · simp (maxSteps := 2000000) only [hp, denS, den, Den.of, CE.cnt, CE.isNil, CO.f, BO.f, BI.den, wp_seq, wp_sIf, wp_tAnd, wp_tOr, wp_tNot, wp_tOf, wp_tCmp, wp_eBin, wp_eAnd, wp_eOr, wp_eNot, wp_eNeg, wp_eIte, wp_eSlc, wp_pNone, wp_pSome, wp_bYes, wp_asB, wp_eVar, wp_eT, wp_put, wp_asg, wp_gNam, wp_nil, wp_ret, wp_exp, wp_eApp, wp_lCons, wp_lNil, wp_ok, wp_bad, wp_nx, wp_rt, wp_bk, wp_ct, List.map_cons, List.map_nil, List.cons_append, List.nil_append, List.append_nil, List.replicate_succ, List.replicate_zero, Nat.reduceSub, List.getElem?_cons_zero, List.getElem?_cons_succ, List.set_cons_zero, List.set_cons_succ, Nat.reduceAdd, Nat.reduceLeDiff, allT_v, allT_nil, List.length_cons, List.length_nil, List.length_append, List.length_map, Nat.succ_eq_add_one, ite_true, ite_false, if_true, if_false, reduceIte, Bool.false_eq_true, decide_eq_true_eq, Bool.not_eq_true, Bool.not_eq_false, true_and, and_true, wp_bInt, wp_addI, wp_addT, wp_addL, wp_eqI, wp_eqB, wp_eqS, ixT0, ixL0, ixT1, ixL1, ixT2, ixL2, ixT3, ixL3, ixT4, ixL4, ixT5, ixL5, ixT6, ixL6, ixT7, ixL7, cutF1, cutU1, cutF2, cutU2, cutF3, cutU3, cutF4, cutU4, cutF5, cutU5, cutF6, cutU6, bag_0, bag_1, bag_2, bag_3, bagp_1, bagp_2, bagp_3, wp_slcT, wp_slcL, List.drop_succ_cons, List.drop_zero, List.take_succ_cons, List.take_zero, List.drop_nil, wp_in2, wp_inIT, wp_inIL, wp_app, wp_eBm, isW_last, wp_lstM, BMt.f, BMt.T, ofS_inj, strOk_lit, String.reduceEq, decide_false, decide_true, Bool.not_true, Bool.not_false, Bool.or_false, Bool.false_or, Bool.or_true, Bool.true_or, and_self, wp_eChn, wp_gTp, wp_gsCons, wp_gsNil, wp_isN, wipeE, List.getD_cons_zero, List.getD_cons_succ, Option.map_some, mk_tup, mk_lst, wp_len]
    exact h y (.inr rfl)
  · simp (maxSteps := 2000000) only [hp, denS, den, Den.of, CE.cnt, CE.isNil, CO.f, BO.f, BI.den, wp_seq, wp_sIf, wp_tAnd, wp_tOr, wp_tNot, wp_tOf, wp_tCmp, wp_eBin, wp_eAnd, wp_eOr, wp_eNot, wp_eNeg, wp_eIte, wp_eSlc, wp_pNone, wp_pSome, wp_bYes, wp_asB, wp_eVar, wp_eT, wp_put, wp_asg, wp_gNam, wp_nil, wp_ret, wp_exp, wp_eApp, wp_lCons, wp_lNil, wp_ok, wp_bad, wp_nx, wp_rt, wp_bk, wp_ct, List.map_cons, List.map_nil, List.cons_append, List.nil_append, List.append_nil, List.replicate_succ, List.replicate_zero, Nat.reduceSub, List.getElem?_cons_zero, List.getElem?_cons_succ, List.set_cons_zero, List.set_cons_succ, Nat.reduceAdd, Nat.reduceLeDiff, allT_v, allT_nil, List.length_cons, List.length_nil, List.length_append, List.length_map, Nat.succ_eq_add_one, ite_true, ite_false, if_true, if_false, reduceIte, Bool.false_eq_true, decide_eq_true_eq, Bool.not_eq_true, Bool.not_eq_false, true_and, and_true, wp_bInt, wp_addI, wp_addT, wp_addL, wp_eqI, wp_eqB, wp_eqS, ixT0, ixL0, ixT1, ixL1, ixT2, ixL2, ixT3, ixL3, ixT4, ixL4, ixT5, ixL5, ixT6, ixL6, ixT7, ixL7, cutF1, cutU1, cutF2, cutU2, cutF3, cutU3, cutF4, cutU4, cutF5, cutU5, cutF6, cutU6, bag_0, bag_1, bag_2, bag_3, bagp_1, bagp_2, bagp_3, wp_slcT, wp_slcL, List.drop_succ_cons, List.drop_zero, List.take_succ_cons, List.take_zero, List.drop_nil, wp_in2, wp_inIT, wp_inIL, wp_app, wp_eBm, isW_last, wp_lstM, BMt.f, BMt.T, ofS_inj, strOk_lit, String.reduceEq, decide_false, decide_true, Bool.not_true, Bool.not_false, Bool.or_false, Bool.false_or, Bool.or_true, Bool.true_or, and_self, wp_eChn, wp_gTp, wp_gsCons, wp_gsNil, wp_isN, wipeE, List.getD_cons_zero, List.getD_cons_succ, Option.map_some, mk_tup, mk_lst, wp_len]
    exact h x (.inl rfl)
theorem board_wp {B : Bag} {rest : Sto} {Q : Wd → Sto → Prop} {E : Exn → Sto → Prop} (hQ : ∀ (f : Fc) (B' : Bag), FOk f → f.w = "board" → Q (.v f.t) (B'.ob :: rest)) :
    (m__law_board [.ref 0] (B.ob :: rest)).wp Q E := by
  unfold m__law_board
  refine wp_run rfl ?_
  simp (maxSteps := 2000000) only [c__law_board, tb__law_board, wp_eCmp, iOf, wp_bind, denS, den, Den.of, CE.cnt, CE.isNil, CO.f, BO.f, BI.den, wp_seq, wp_sIf, wp_tAnd, wp_tOr, wp_tNot, wp_tOf, wp_tCmp, wp_eBin, wp_eAnd, wp_eOr, wp_eNot, wp_eNeg, wp_eIte, wp_eSlc, wp_pNone, wp_pSome, wp_bYes, wp_asB, wp_eVar, wp_eT, wp_put, wp_asg, wp_gNam, wp_nil, wp_ret, wp_exp, wp_eApp, wp_lCons, wp_lNil, wp_ok, wp_bad, wp_nx, wp_rt, wp_bk, wp_ct, List.map_cons, List.map_nil, List.cons_append, List.nil_append, List.append_nil, List.replicate_succ, List.replicate_zero, Nat.reduceSub, List.getElem?_cons_zero, List.getElem?_cons_succ, List.set_cons_zero, List.set_cons_succ, Nat.reduceAdd, Nat.reduceLeDiff, allT_v, allT_nil, List.length_cons, List.length_nil, List.length_append, List.length_map, Nat.succ_eq_add_one, ite_true, ite_false, if_true, if_false, reduceIte, Bool.false_eq_true, decide_eq_true_eq, Bool.not_eq_true, Bool.not_eq_false, true_and, and_true, wp_bInt, wp_addI, wp_addT, wp_addL, wp_eqI, wp_eqB, wp_eqS, ixT0, ixL0, ixT1, ixL1, ixT2, ixL2, ixT3, ixL3, ixT4, ixL4, ixT5, ixL5, ixT6, ixL6, ixT7, ixL7, cutF1, cutU1, cutF2, cutU2, cutF3, cutU3, cutF4, cutU4, cutF5, cutU5, cutF6, cutU6, bag_0, bag_1, bag_2, bag_3, bagp_1, bagp_2, bagp_3, wp_slcT, wp_slcL, List.drop_succ_cons, List.drop_zero, List.take_succ_cons, List.take_zero, List.drop_nil, wp_in2, wp_inIT, wp_inIL, wp_app, wp_eBm, isW_last, wp_lstM, BMt.f, BMt.T, ofS_inj, strOk_lit, String.reduceEq, decide_false, decide_true, Bool.not_true, Bool.not_false, Bool.or_false, Bool.false_or, Bool.or_true, Bool.true_or, and_self, wp_eChn, wp_gTp, wp_gsCons, wp_gsNil, wp_isN, wipeE, List.getD_cons_zero, List.getD_cons_succ, Option.map_some, mk_tup, mk_lst, wp_len]
  refine wp_rng1 (by decide) ?_
  refine wp_cmpL (I := fun ws acc st => ∃ (B1 : Bag) (gs : List Int) (k : Nat), st = B1.ob :: rest ∧ acc = (gs.map T.int).map Wd.v ∧ ws = (List.range' k (8 - k)).map (fun i : Nat => Wd.v (.int (i : Int))) ∧ k ≤ 8 ∧ gs.length ≤ k ∧ ∀ x ∈ gs, 0 ≤ x ∧ x < 8) ?_ ?_ _ _ _ ⟨B, [], 0, rfl, rfl, rfl, by omega, by simp, by simp⟩
  · rintro acc st ⟨B1, gs, k, rfl, rfl, _, hk, hl, hg⟩
    refine ⟨trivial, ?_⟩
    simp (maxSteps := 2000000) only [frzL_ts, tupleL, denS, den, Den.of, CE.cnt, CE.isNil, CO.f, BO.f, BI.den, wp_seq, wp_sIf, wp_tAnd, wp_tOr, wp_tNot, wp_tOf, wp_tCmp, wp_eBin, wp_eAnd, wp_eOr, wp_eNot, wp_eNeg, wp_eIte, wp_eSlc, wp_pNone, wp_pSome, wp_bYes, wp_asB, wp_eVar, wp_eT, wp_put, wp_asg, wp_gNam, wp_nil, wp_ret, wp_exp, wp_eApp, wp_lCons, wp_lNil, wp_ok, wp_bad, wp_nx, wp_rt, wp_bk, wp_ct, List.map_cons, List.map_nil, List.cons_append, List.nil_append, List.append_nil, List.replicate_succ, List.replicate_zero, Nat.reduceSub, List.getElem?_cons_zero, List.getElem?_cons_succ, List.set_cons_zero, List.set_cons_succ, Nat.reduceAdd, Nat.reduceLeDiff, allT_v, allT_nil, List.length_cons, List.length_nil, List.length_append, List.length_map, Nat.succ_eq_add_one, ite_true, ite_false, if_true, if_false, reduceIte, Bool.false_eq_true, decide_eq_true_eq, Bool.not_eq_true, Bool.not_eq_false, true_and, and_true, wp_bInt, wp_addI, wp_addT, wp_addL, wp_eqI, wp_eqB, wp_eqS, ixT0, ixL0, ixT1, ixL1, ixT2, ixL2, ixT3, ixL3, ixT4, ixL4, ixT5, ixL5, ixT6, ixL6, ixT7, ixL7, cutF1, cutU1, cutF2, cutU2, cutF3, cutU3, cutF4, cutU4, cutF5, cutU5, cutF6, cutU6, bag_0, bag_1, bag_2, bag_3, bagp_1, bagp_2, bagp_3, wp_slcT, wp_slcL, List.drop_succ_cons, List.drop_zero, List.take_succ_cons, List.take_zero, List.drop_nil, wp_in2, wp_inIT, wp_inIL, wp_app, wp_eBm, isW_last, wp_lstM, BMt.f, BMt.T, ofS_inj, strOk_lit, String.reduceEq, decide_false, decide_true, Bool.not_true, Bool.not_false, Bool.or_false, Bool.false_or, Bool.or_true, Bool.true_or, and_self, wp_eChn, wp_gTp, wp_gsCons, wp_gsNil, wp_isN, wipeE, List.getD_cons_zero, List.getD_cons_succ, Option.map_some, mk_tup, mk_lst, wp_len]
    refine gate_wp fun g B2 g0 g1 => ?_
    refine day_wp fun d B3 d0 d1 => ?_
    simp (maxSteps := 2000000) only [denS, den, Den.of, CE.cnt, CE.isNil, CO.f, BO.f, BI.den, wp_seq, wp_sIf, wp_tAnd, wp_tOr, wp_tNot, wp_tOf, wp_tCmp, wp_eBin, wp_eAnd, wp_eOr, wp_eNot, wp_eNeg, wp_eIte, wp_eSlc, wp_pNone, wp_pSome, wp_bYes, wp_asB, wp_eVar, wp_eT, wp_put, wp_asg, wp_gNam, wp_nil, wp_ret, wp_exp, wp_eApp, wp_lCons, wp_lNil, wp_ok, wp_bad, wp_nx, wp_rt, wp_bk, wp_ct, List.map_cons, List.map_nil, List.cons_append, List.nil_append, List.append_nil, List.replicate_succ, List.replicate_zero, Nat.reduceSub, List.getElem?_cons_zero, List.getElem?_cons_succ, List.set_cons_zero, List.set_cons_succ, Nat.reduceAdd, Nat.reduceLeDiff, allT_v, allT_nil, List.length_cons, List.length_nil, List.length_append, List.length_map, Nat.succ_eq_add_one, ite_true, ite_false, if_true, if_false, reduceIte, Bool.false_eq_true, decide_eq_true_eq, Bool.not_eq_true, Bool.not_eq_false, true_and, and_true, wp_bInt, wp_addI, wp_addT, wp_addL, wp_eqI, wp_eqB, wp_eqS, ixT0, ixL0, ixT1, ixL1, ixT2, ixL2, ixT3, ixL3, ixT4, ixL4, ixT5, ixL5, ixT6, ixL6, ixT7, ixL7, cutF1, cutU1, cutF2, cutU2, cutF3, cutU3, cutF4, cutU4, cutF5, cutU5, cutF6, cutU6, bag_0, bag_1, bag_2, bag_3, bagp_1, bagp_2, bagp_3, wp_slcT, wp_slcL, List.drop_succ_cons, List.drop_zero, List.take_succ_cons, List.take_zero, List.drop_nil, wp_in2, wp_inIT, wp_inIL, wp_app, wp_eBm, isW_last, wp_lstM, BMt.f, BMt.T, ofS_inj, strOk_lit, String.reduceEq, decide_false, decide_true, Bool.not_true, Bool.not_false, Bool.or_false, Bool.false_or, Bool.or_true, Bool.true_or, and_self, wp_eChn, wp_gTp, wp_gsCons, wp_gsNil, wp_isN, wipeE, List.getD_cons_zero, List.getD_cons_succ, Option.map_some, mk_tup, mk_lst, wp_len]
    exact close_v (hQ ⟨"board", g, d, [.tup (gs.map .int)]⟩ B3 (.board g0 g1 d0 d1 (by omega) hg) rfl)
  · rintro w ws acc st ⟨B1, gs, k, rfl, rfl, e, hk, hl, hg⟩
    refine ⟨trivial, ?_⟩
    have hk8 : k < 8 := by
      rcases Nat.lt_or_ge k 8 with h | h
      · exact h
      · have : 8 - k = 0 := by omega
        rw [this] at e; cases e
    have hj : 8 - k = (7 - k) + 1 := by omega
    rw [hj, List.range'_succ, List.map_cons] at e
    injection e with e1 e2
    subst e1
    have e3 : 8 - (k + 1) = 7 - k := by omega
    simp (maxSteps := 2000000) only [wipeE, denS, den, Den.of, CE.cnt, CE.isNil, CO.f, BO.f, BI.den, wp_seq, wp_sIf, wp_tAnd, wp_tOr, wp_tNot, wp_tOf, wp_tCmp, wp_eBin, wp_eAnd, wp_eOr, wp_eNot, wp_eNeg, wp_eIte, wp_eSlc, wp_pNone, wp_pSome, wp_bYes, wp_asB, wp_eVar, wp_eT, wp_put, wp_asg, wp_gNam, wp_nil, wp_ret, wp_exp, wp_eApp, wp_lCons, wp_lNil, wp_ok, wp_bad, wp_nx, wp_rt, wp_bk, wp_ct, List.map_cons, List.map_nil, List.cons_append, List.nil_append, List.append_nil, List.replicate_succ, List.replicate_zero, Nat.reduceSub, List.getElem?_cons_zero, List.getElem?_cons_succ, List.set_cons_zero, List.set_cons_succ, Nat.reduceAdd, Nat.reduceLeDiff, allT_v, allT_nil, List.length_cons, List.length_nil, List.length_append, List.length_map, Nat.succ_eq_add_one, ite_true, ite_false, if_true, if_false, reduceIte, Bool.false_eq_true, decide_eq_true_eq, Bool.not_eq_true, Bool.not_eq_false, true_and, and_true, wp_bInt, wp_addI, wp_addT, wp_addL, wp_eqI, wp_eqB, wp_eqS, ixT0, ixL0, ixT1, ixL1, ixT2, ixL2, ixT3, ixL3, ixT4, ixL4, ixT5, ixL5, ixT6, ixL6, ixT7, ixL7, cutF1, cutU1, cutF2, cutU2, cutF3, cutU3, cutF4, cutU4, cutF5, cutU5, cutF6, cutU6, bag_0, bag_1, bag_2, bag_3, bagp_1, bagp_2, bagp_3, wp_slcT, wp_slcL, List.drop_succ_cons, List.drop_zero, List.take_succ_cons, List.take_zero, List.drop_nil, wp_in2, wp_inIT, wp_inIL, wp_app, wp_eBm, isW_last, wp_lstM, BMt.f, BMt.T, ofS_inj, strOk_lit, String.reduceEq, decide_false, decide_true, Bool.not_true, Bool.not_false, Bool.or_false, Bool.false_or, Bool.or_true, Bool.true_or, and_self, wp_eChn, wp_gTp, wp_gsCons, wp_gsNil, wp_isN, wipeE, List.getD_cons_zero, List.getD_cons_succ, Option.map_some, mk_tup, mk_lst, wp_len]
    refine pull_lit (n := 3) (by decide) (by decide) fun r B2 a0 a1 => ?_
    simp (maxSteps := 2000000) only [denS, den, Den.of, CE.cnt, CE.isNil, CO.f, BO.f, BI.den, wp_seq, wp_sIf, wp_tAnd, wp_tOr, wp_tNot, wp_tOf, wp_tCmp, wp_eBin, wp_eAnd, wp_eOr, wp_eNot, wp_eNeg, wp_eIte, wp_eSlc, wp_pNone, wp_pSome, wp_bYes, wp_asB, wp_eVar, wp_eT, wp_put, wp_asg, wp_gNam, wp_nil, wp_ret, wp_exp, wp_eApp, wp_lCons, wp_lNil, wp_ok, wp_bad, wp_nx, wp_rt, wp_bk, wp_ct, List.map_cons, List.map_nil, List.cons_append, List.nil_append, List.append_nil, List.replicate_succ, List.replicate_zero, Nat.reduceSub, List.getElem?_cons_zero, List.getElem?_cons_succ, List.set_cons_zero, List.set_cons_succ, Nat.reduceAdd, Nat.reduceLeDiff, allT_v, allT_nil, List.length_cons, List.length_nil, List.length_append, List.length_map, Nat.succ_eq_add_one, ite_true, ite_false, if_true, if_false, reduceIte, Bool.false_eq_true, decide_eq_true_eq, Bool.not_eq_true, Bool.not_eq_false, true_and, and_true, wp_bInt, wp_addI, wp_addT, wp_addL, wp_eqI, wp_eqB, wp_eqS, ixT0, ixL0, ixT1, ixL1, ixT2, ixL2, ixT3, ixL3, ixT4, ixL4, ixT5, ixL5, ixT6, ixL6, ixT7, ixL7, cutF1, cutU1, cutF2, cutU2, cutF3, cutU3, cutF4, cutU4, cutF5, cutU5, cutF6, cutU6, bag_0, bag_1, bag_2, bag_3, bagp_1, bagp_2, bagp_3, wp_slcT, wp_slcL, List.drop_succ_cons, List.drop_zero, List.take_succ_cons, List.take_zero, List.drop_nil, wp_in2, wp_inIT, wp_inIL, wp_app, wp_eBm, isW_last, wp_lstM, BMt.f, BMt.T, ofS_inj, strOk_lit, String.reduceEq, decide_false, decide_true, Bool.not_true, Bool.not_false, Bool.or_false, Bool.false_or, Bool.or_true, Bool.true_or, and_self, wp_eChn, wp_gTp, wp_gsCons, wp_gsNil, wp_isN, wipeE, List.getD_cons_zero, List.getD_cons_succ, Option.map_some, mk_tup, mk_lst, wp_len]
    split
    · refine ⟨B2, gs ++ [(k : Int)], k + 1, rfl, by simp, by rw [e3]; exact e2, by omega, by simp; omega, fun x hx => ?_⟩
      rcases List.mem_append.mp hx with h | h
      · exact hg x h
      · have := List.mem_singleton.mp h
        subst this
        omega
    · exact ⟨B2, gs, k + 1, rfl, rfl, by rw [e3]; exact e2, by omega, by omega, hg⟩
theorem passing_wp {B : Bag} {rest : Sto} {Q : Wd → Sto → Prop} {E : Exn → Sto → Prop} (hQ : ∀ (f : Fc) (B' : Bag), FOk f → f.w = "pass" → Q (.v f.t) (B'.ob :: rest)) :
    (m__law_passing [.ref 0] (B.ob :: rest)).wp Q E := by
  unfold m__law_passing
  refine wp_run rfl ?_
  simp (maxSteps := 2000000) only [c__law_passing, tb__law_passing, denS, den, Den.of, CE.cnt, CE.isNil, CO.f, BO.f, BI.den, wp_seq, wp_sIf, wp_tAnd, wp_tOr, wp_tNot, wp_tOf, wp_tCmp, wp_eBin, wp_eAnd, wp_eOr, wp_eNot, wp_eNeg, wp_eIte, wp_eSlc, wp_pNone, wp_pSome, wp_bYes, wp_asB, wp_eVar, wp_eT, wp_put, wp_asg, wp_gNam, wp_nil, wp_ret, wp_exp, wp_eApp, wp_lCons, wp_lNil, wp_ok, wp_bad, wp_nx, wp_rt, wp_bk, wp_ct, List.map_cons, List.map_nil, List.cons_append, List.nil_append, List.append_nil, List.replicate_succ, List.replicate_zero, Nat.reduceSub, List.getElem?_cons_zero, List.getElem?_cons_succ, List.set_cons_zero, List.set_cons_succ, Nat.reduceAdd, Nat.reduceLeDiff, allT_v, allT_nil, List.length_cons, List.length_nil, List.length_append, List.length_map, Nat.succ_eq_add_one, ite_true, ite_false, if_true, if_false, reduceIte, Bool.false_eq_true, decide_eq_true_eq, Bool.not_eq_true, Bool.not_eq_false, true_and, and_true, wp_bInt, wp_addI, wp_addT, wp_addL, wp_eqI, wp_eqB, wp_eqS, ixT0, ixL0, ixT1, ixL1, ixT2, ixL2, ixT3, ixL3, ixT4, ixL4, ixT5, ixL5, ixT6, ixL6, ixT7, ixL7, cutF1, cutU1, cutF2, cutU2, cutF3, cutU3, cutF4, cutU4, cutF5, cutU5, cutF6, cutU6, bag_0, bag_1, bag_2, bag_3, bagp_1, bagp_2, bagp_3, wp_slcT, wp_slcL, List.drop_succ_cons, List.drop_zero, List.take_succ_cons, List.take_zero, List.drop_nil, wp_in2, wp_inIT, wp_inIL, wp_app, wp_eBm, isW_last, wp_lstM, BMt.f, BMt.T, ofS_inj, strOk_lit, String.reduceEq, decide_false, decide_true, Bool.not_true, Bool.not_false, Bool.or_false, Bool.false_or, Bool.or_true, Bool.true_or, and_self, wp_eChn, wp_gTp, wp_gsCons, wp_gsNil, wp_isN, wipeE, List.getD_cons_zero, List.getD_cons_succ, Option.map_some, mk_tup, mk_lst, wp_len]
  refine pull_lit (n := 6) (by decide) (by decide) fun r0 B1 a0 a1 => ?_
  refine pull_lit (n := 1440) (by decide) (by decide) fun r1 B2 b0 b1 => ?_
  simp (maxSteps := 2000000) only [denS, den, Den.of, CE.cnt, CE.isNil, CO.f, BO.f, BI.den, wp_seq, wp_sIf, wp_tAnd, wp_tOr, wp_tNot, wp_tOf, wp_tCmp, wp_eBin, wp_eAnd, wp_eOr, wp_eNot, wp_eNeg, wp_eIte, wp_eSlc, wp_pNone, wp_pSome, wp_bYes, wp_asB, wp_eVar, wp_eT, wp_put, wp_asg, wp_gNam, wp_nil, wp_ret, wp_exp, wp_eApp, wp_lCons, wp_lNil, wp_ok, wp_bad, wp_nx, wp_rt, wp_bk, wp_ct, List.map_cons, List.map_nil, List.cons_append, List.nil_append, List.append_nil, List.replicate_succ, List.replicate_zero, Nat.reduceSub, List.getElem?_cons_zero, List.getElem?_cons_succ, List.set_cons_zero, List.set_cons_succ, Nat.reduceAdd, Nat.reduceLeDiff, allT_v, allT_nil, List.length_cons, List.length_nil, List.length_append, List.length_map, Nat.succ_eq_add_one, ite_true, ite_false, if_true, if_false, reduceIte, Bool.false_eq_true, decide_eq_true_eq, Bool.not_eq_true, Bool.not_eq_false, true_and, and_true, wp_bInt, wp_addI, wp_addT, wp_addL, wp_eqI, wp_eqB, wp_eqS, ixT0, ixL0, ixT1, ixL1, ixT2, ixL2, ixT3, ixL3, ixT4, ixL4, ixT5, ixL5, ixT6, ixL6, ixT7, ixL7, cutF1, cutU1, cutF2, cutU2, cutF3, cutU3, cutF4, cutU4, cutF5, cutU5, cutF6, cutU6, bag_0, bag_1, bag_2, bag_3, bagp_1, bagp_2, bagp_3, wp_slcT, wp_slcL, List.drop_succ_cons, List.drop_zero, List.take_succ_cons, List.take_zero, List.drop_nil, wp_in2, wp_inIT, wp_inIL, wp_app, wp_eBm, isW_last, wp_lstM, BMt.f, BMt.T, ofS_inj, strOk_lit, String.reduceEq, decide_false, decide_true, Bool.not_true, Bool.not_false, Bool.or_false, Bool.false_or, Bool.or_true, Bool.true_or, and_self, wp_eChn, wp_gTp, wp_gsCons, wp_gsNil, wp_isN, wipeE, List.getD_cons_zero, List.getD_cons_succ, Option.map_some, mk_tup, mk_lst, wp_len]
  refine pull_lit (n := 3) (by decide) (by decide) fun r2 B3 c0 c1 => ?_
  refine idxL_mem c0 (by simpa using c1) fun t ht => ?_
  have hs : ∃ m : Int, t = .int m ∧ 0 ≤ m ∧ m ≤ 1439 := by
    simp only [List.mem_cons, List.not_mem_nil, or_false] at ht
    rcases ht with rfl | rfl | rfl
    · exact ⟨_, rfl, a0, by omega⟩
    · exact ⟨_, rfl, b0, by omega⟩
    · exact ⟨_, rfl, by decide, by decide⟩
  obtain ⟨m, rfl, m0, m1⟩ := hs
  refine pull_lit (n := 4) (by decide) (by decide) fun r3 B4 d0 d1 => ?_
  simp (maxSteps := 2000000) only [wp_intB, denS, den, Den.of, CE.cnt, CE.isNil, CO.f, BO.f, BI.den, wp_seq, wp_sIf, wp_tAnd, wp_tOr, wp_tNot, wp_tOf, wp_tCmp, wp_eBin, wp_eAnd, wp_eOr, wp_eNot, wp_eNeg, wp_eIte, wp_eSlc, wp_pNone, wp_pSome, wp_bYes, wp_asB, wp_eVar, wp_eT, wp_put, wp_asg, wp_gNam, wp_nil, wp_ret, wp_exp, wp_eApp, wp_lCons, wp_lNil, wp_ok, wp_bad, wp_nx, wp_rt, wp_bk, wp_ct, List.map_cons, List.map_nil, List.cons_append, List.nil_append, List.append_nil, List.replicate_succ, List.replicate_zero, Nat.reduceSub, List.getElem?_cons_zero, List.getElem?_cons_succ, List.set_cons_zero, List.set_cons_succ, Nat.reduceAdd, Nat.reduceLeDiff, allT_v, allT_nil, List.length_cons, List.length_nil, List.length_append, List.length_map, Nat.succ_eq_add_one, ite_true, ite_false, if_true, if_false, reduceIte, Bool.false_eq_true, decide_eq_true_eq, Bool.not_eq_true, Bool.not_eq_false, true_and, and_true, wp_bInt, wp_addI, wp_addT, wp_addL, wp_eqI, wp_eqB, wp_eqS, ixT0, ixL0, ixT1, ixL1, ixT2, ixL2, ixT3, ixL3, ixT4, ixL4, ixT5, ixL5, ixT6, ixL6, ixT7, ixL7, cutF1, cutU1, cutF2, cutU2, cutF3, cutU3, cutF4, cutU4, cutF5, cutU5, cutF6, cutU6, bag_0, bag_1, bag_2, bag_3, bagp_1, bagp_2, bagp_3, wp_slcT, wp_slcL, List.drop_succ_cons, List.drop_zero, List.take_succ_cons, List.take_zero, List.drop_nil, wp_in2, wp_inIT, wp_inIL, wp_app, wp_eBm, isW_last, wp_lstM, BMt.f, BMt.T, ofS_inj, strOk_lit, String.reduceEq, decide_false, decide_true, Bool.not_true, Bool.not_false, Bool.or_false, Bool.false_or, Bool.or_true, Bool.true_or, and_self, wp_eChn, wp_gTp, wp_gsCons, wp_gsNil, wp_isN, wipeE, List.getD_cons_zero, List.getD_cons_succ, Option.map_some, mk_tup, mk_lst, wp_len]
  refine idxT_if fun z hz => ?_
  have hz : 0 < z ∧ z ≤ 10 := by rcases hz with rfl | rfl <;> decide
  refine pull_wp hz.1 (log_small (by omega)) fun c B5 e0 e1 => ?_
  refine day_wp fun d B6 e2 e3 => ?_
  refine gate_wp fun g B7 f0 f1 => ?_
  refine pull_lit (n := 8) (by decide) (by decide) fun h B8 g0 g1 => ?_
  simp (maxSteps := 2000000) only [denS, den, Den.of, CE.cnt, CE.isNil, CO.f, BO.f, BI.den, wp_seq, wp_sIf, wp_tAnd, wp_tOr, wp_tNot, wp_tOf, wp_tCmp, wp_eBin, wp_eAnd, wp_eOr, wp_eNot, wp_eNeg, wp_eIte, wp_eSlc, wp_pNone, wp_pSome, wp_bYes, wp_asB, wp_eVar, wp_eT, wp_put, wp_asg, wp_gNam, wp_nil, wp_ret, wp_exp, wp_eApp, wp_lCons, wp_lNil, wp_ok, wp_bad, wp_nx, wp_rt, wp_bk, wp_ct, List.map_cons, List.map_nil, List.cons_append, List.nil_append, List.append_nil, List.replicate_succ, List.replicate_zero, Nat.reduceSub, List.getElem?_cons_zero, List.getElem?_cons_succ, List.set_cons_zero, List.set_cons_succ, Nat.reduceAdd, Nat.reduceLeDiff, allT_v, allT_nil, List.length_cons, List.length_nil, List.length_append, List.length_map, Nat.succ_eq_add_one, ite_true, ite_false, if_true, if_false, reduceIte, Bool.false_eq_true, decide_eq_true_eq, Bool.not_eq_true, Bool.not_eq_false, true_and, and_true, wp_bInt, wp_addI, wp_addT, wp_addL, wp_eqI, wp_eqB, wp_eqS, ixT0, ixL0, ixT1, ixL1, ixT2, ixL2, ixT3, ixL3, ixT4, ixL4, ixT5, ixL5, ixT6, ixL6, ixT7, ixL7, cutF1, cutU1, cutF2, cutU2, cutF3, cutU3, cutF4, cutU4, cutF5, cutU5, cutF6, cutU6, bag_0, bag_1, bag_2, bag_3, bagp_1, bagp_2, bagp_3, wp_slcT, wp_slcL, List.drop_succ_cons, List.drop_zero, List.take_succ_cons, List.take_zero, List.drop_nil, wp_in2, wp_inIT, wp_inIL, wp_app, wp_eBm, isW_last, wp_lstM, BMt.f, BMt.T, ofS_inj, strOk_lit, String.reduceEq, decide_false, decide_true, Bool.not_true, Bool.not_false, Bool.or_false, Bool.false_or, Bool.or_true, Bool.true_or, and_self, wp_eChn, wp_gTp, wp_gsCons, wp_gsNil, wp_isN, wipeE, List.getD_cons_zero, List.getD_cons_succ, Option.map_some, mk_tup, mk_lst, wp_len]
  exact close_v (hQ ⟨"pass", d, m, [.int g, .int c, .int (1 + h)]⟩ B8 (.pass e2 e3 m0 m1 f0 f1 e0 (by omega) (by omega) (by omega)) rfl)
theorem stretch_wp {B : Bag} {rest : Sto} {Q : Wd → Sto → Prop} {E : Exn → Sto → Prop} (hQ : ∀ (a b : Int) (B' : Bag), 0 ≤ a → a ≤ 999 → 0 ≤ b → b ≤ 999 → Q (.v (.tup [.int a, .int b])) (B'.ob :: rest)) :
    (m__law_stretch [.ref 0] (B.ob :: rest)).wp Q E := by
  unfold m__law_stretch
  refine wp_run rfl ?_
  simp (maxSteps := 2000000) only [c__law_stretch, tb__law_stretch, denS, den, Den.of, CE.cnt, CE.isNil, CO.f, BO.f, BI.den, wp_seq, wp_sIf, wp_tAnd, wp_tOr, wp_tNot, wp_tOf, wp_tCmp, wp_eBin, wp_eAnd, wp_eOr, wp_eNot, wp_eNeg, wp_eIte, wp_eSlc, wp_pNone, wp_pSome, wp_bYes, wp_asB, wp_eVar, wp_eT, wp_put, wp_asg, wp_gNam, wp_nil, wp_ret, wp_exp, wp_eApp, wp_lCons, wp_lNil, wp_ok, wp_bad, wp_nx, wp_rt, wp_bk, wp_ct, List.map_cons, List.map_nil, List.cons_append, List.nil_append, List.append_nil, List.replicate_succ, List.replicate_zero, Nat.reduceSub, List.getElem?_cons_zero, List.getElem?_cons_succ, List.set_cons_zero, List.set_cons_succ, Nat.reduceAdd, Nat.reduceLeDiff, allT_v, allT_nil, List.length_cons, List.length_nil, List.length_append, List.length_map, Nat.succ_eq_add_one, ite_true, ite_false, if_true, if_false, reduceIte, Bool.false_eq_true, decide_eq_true_eq, Bool.not_eq_true, Bool.not_eq_false, true_and, and_true, wp_bInt, wp_addI, wp_addT, wp_addL, wp_eqI, wp_eqB, wp_eqS, ixT0, ixL0, ixT1, ixL1, ixT2, ixL2, ixT3, ixL3, ixT4, ixL4, ixT5, ixL5, ixT6, ixL6, ixT7, ixL7, cutF1, cutU1, cutF2, cutU2, cutF3, cutU3, cutF4, cutU4, cutF5, cutU5, cutF6, cutU6, bag_0, bag_1, bag_2, bag_3, bagp_1, bagp_2, bagp_3, wp_slcT, wp_slcL, List.drop_succ_cons, List.drop_zero, List.take_succ_cons, List.take_zero, List.drop_nil, wp_in2, wp_inIT, wp_inIL, wp_app, wp_eBm, isW_last, wp_lstM, BMt.f, BMt.T, ofS_inj, strOk_lit, String.reduceEq, decide_false, decide_true, Bool.not_true, Bool.not_false, Bool.or_false, Bool.false_or, Bool.or_true, Bool.true_or, and_self, wp_eChn, wp_gTp, wp_gsCons, wp_gsNil, wp_isN, wipeE, List.getD_cons_zero, List.getD_cons_succ, Option.map_some, mk_tup, mk_lst, wp_len]
  refine day_wp fun d B1 a0 a1 => ?_
  refine pull_lit (n := 3) (by decide) (by decide) fun r B2 b0 b1 => ?_
  simp (maxSteps := 2000000) only [denS, den, Den.of, CE.cnt, CE.isNil, CO.f, BO.f, BI.den, wp_seq, wp_sIf, wp_tAnd, wp_tOr, wp_tNot, wp_tOf, wp_tCmp, wp_eBin, wp_eAnd, wp_eOr, wp_eNot, wp_eNeg, wp_eIte, wp_eSlc, wp_pNone, wp_pSome, wp_bYes, wp_asB, wp_eVar, wp_eT, wp_put, wp_asg, wp_gNam, wp_nil, wp_ret, wp_exp, wp_eApp, wp_lCons, wp_lNil, wp_ok, wp_bad, wp_nx, wp_rt, wp_bk, wp_ct, List.map_cons, List.map_nil, List.cons_append, List.nil_append, List.append_nil, List.replicate_succ, List.replicate_zero, Nat.reduceSub, List.getElem?_cons_zero, List.getElem?_cons_succ, List.set_cons_zero, List.set_cons_succ, Nat.reduceAdd, Nat.reduceLeDiff, allT_v, allT_nil, List.length_cons, List.length_nil, List.length_append, List.length_map, Nat.succ_eq_add_one, ite_true, ite_false, if_true, if_false, reduceIte, Bool.false_eq_true, decide_eq_true_eq, Bool.not_eq_true, Bool.not_eq_false, true_and, and_true, wp_bInt, wp_addI, wp_addT, wp_addL, wp_eqI, wp_eqB, wp_eqS, ixT0, ixL0, ixT1, ixL1, ixT2, ixL2, ixT3, ixL3, ixT4, ixL4, ixT5, ixL5, ixT6, ixL6, ixT7, ixL7, cutF1, cutU1, cutF2, cutU2, cutF3, cutU3, cutF4, cutU4, cutF5, cutU5, cutF6, cutU6, bag_0, bag_1, bag_2, bag_3, bagp_1, bagp_2, bagp_3, wp_slcT, wp_slcL, List.drop_succ_cons, List.drop_zero, List.take_succ_cons, List.take_zero, List.drop_nil, wp_in2, wp_inIT, wp_inIL, wp_app, wp_eBm, isW_last, wp_lstM, BMt.f, BMt.T, ofS_inj, strOk_lit, String.reduceEq, decide_false, decide_true, Bool.not_true, Bool.not_false, Bool.or_false, Bool.false_or, Bool.or_true, Bool.true_or, and_self, wp_eChn, wp_gTp, wp_gsCons, wp_gsNil, wp_isN, wipeE, List.getD_cons_zero, List.getD_cons_succ, Option.map_some, mk_tup, mk_lst, wp_len]
  refine day_wp fun d2 B3 c0 c1 => ?_
  simp (maxSteps := 2000000) only [denS, den, Den.of, CE.cnt, CE.isNil, CO.f, BO.f, BI.den, wp_seq, wp_sIf, wp_tAnd, wp_tOr, wp_tNot, wp_tOf, wp_tCmp, wp_eBin, wp_eAnd, wp_eOr, wp_eNot, wp_eNeg, wp_eIte, wp_eSlc, wp_pNone, wp_pSome, wp_bYes, wp_asB, wp_eVar, wp_eT, wp_put, wp_asg, wp_gNam, wp_nil, wp_ret, wp_exp, wp_eApp, wp_lCons, wp_lNil, wp_ok, wp_bad, wp_nx, wp_rt, wp_bk, wp_ct, List.map_cons, List.map_nil, List.cons_append, List.nil_append, List.append_nil, List.replicate_succ, List.replicate_zero, Nat.reduceSub, List.getElem?_cons_zero, List.getElem?_cons_succ, List.set_cons_zero, List.set_cons_succ, Nat.reduceAdd, Nat.reduceLeDiff, allT_v, allT_nil, List.length_cons, List.length_nil, List.length_append, List.length_map, Nat.succ_eq_add_one, ite_true, ite_false, if_true, if_false, reduceIte, Bool.false_eq_true, decide_eq_true_eq, Bool.not_eq_true, Bool.not_eq_false, true_and, and_true, wp_bInt, wp_addI, wp_addT, wp_addL, wp_eqI, wp_eqB, wp_eqS, ixT0, ixL0, ixT1, ixL1, ixT2, ixL2, ixT3, ixL3, ixT4, ixL4, ixT5, ixL5, ixT6, ixL6, ixT7, ixL7, cutF1, cutU1, cutF2, cutU2, cutF3, cutU3, cutF4, cutU4, cutF5, cutU5, cutF6, cutU6, bag_0, bag_1, bag_2, bag_3, bagp_1, bagp_2, bagp_3, wp_slcT, wp_slcL, List.drop_succ_cons, List.drop_zero, List.take_succ_cons, List.take_zero, List.drop_nil, wp_in2, wp_inIT, wp_inIL, wp_app, wp_eBm, isW_last, wp_lstM, BMt.f, BMt.T, ofS_inj, strOk_lit, String.reduceEq, decide_false, decide_true, Bool.not_true, Bool.not_false, Bool.or_false, Bool.false_or, Bool.or_true, Bool.true_or, and_self, wp_eChn, wp_gTp, wp_gsCons, wp_gsNil, wp_isN, wipeE, List.getD_cons_zero, List.getD_cons_succ, Option.map_some, mk_tup, mk_lst, wp_len]
  refine pull_lit (n := 4) (by decide) (by decide) fun r B4 d0 d1 => ?_
  refine idxL_mem d0 (by simpa using d1) fun t ht => ?_
  have hs : ∃ m : Int, t = .int m := by
    simp only [List.mem_cons, List.not_mem_nil, or_false] at ht
    rcases ht with rfl | rfl | rfl | rfl <;> exact ⟨_, rfl⟩
  obtain ⟨m, rfl⟩ := hs
  simp (maxSteps := 2000000) only [denS, den, Den.of, CE.cnt, CE.isNil, CO.f, BO.f, BI.den, wp_seq, wp_sIf, wp_tAnd, wp_tOr, wp_tNot, wp_tOf, wp_tCmp, wp_eBin, wp_eAnd, wp_eOr, wp_eNot, wp_eNeg, wp_eIte, wp_eSlc, wp_pNone, wp_pSome, wp_bYes, wp_asB, wp_eVar, wp_eT, wp_put, wp_asg, wp_gNam, wp_nil, wp_ret, wp_exp, wp_eApp, wp_lCons, wp_lNil, wp_ok, wp_bad, wp_nx, wp_rt, wp_bk, wp_ct, List.map_cons, List.map_nil, List.cons_append, List.nil_append, List.append_nil, List.replicate_succ, List.replicate_zero, Nat.reduceSub, List.getElem?_cons_zero, List.getElem?_cons_succ, List.set_cons_zero, List.set_cons_succ, Nat.reduceAdd, Nat.reduceLeDiff, allT_v, allT_nil, List.length_cons, List.length_nil, List.length_append, List.length_map, Nat.succ_eq_add_one, ite_true, ite_false, if_true, if_false, reduceIte, Bool.false_eq_true, decide_eq_true_eq, Bool.not_eq_true, Bool.not_eq_false, true_and, and_true, wp_bInt, wp_addI, wp_addT, wp_addL, wp_eqI, wp_eqB, wp_eqS, ixT0, ixL0, ixT1, ixL1, ixT2, ixL2, ixT3, ixL3, ixT4, ixL4, ixT5, ixL5, ixT6, ixL6, ixT7, ixL7, cutF1, cutU1, cutF2, cutU2, cutF3, cutU3, cutF4, cutU4, cutF5, cutU5, cutF6, cutU6, bag_0, bag_1, bag_2, bag_3, bagp_1, bagp_2, bagp_3, wp_slcT, wp_slcL, List.drop_succ_cons, List.drop_zero, List.take_succ_cons, List.take_zero, List.drop_nil, wp_in2, wp_inIT, wp_inIL, wp_app, wp_eBm, isW_last, wp_lstM, BMt.f, BMt.T, ofS_inj, strOk_lit, String.reduceEq, decide_false, decide_true, Bool.not_true, Bool.not_false, Bool.or_false, Bool.false_or, Bool.or_true, Bool.true_or, and_self, wp_eChn, wp_gTp, wp_gsCons, wp_gsNil, wp_isN, wipeE, List.getD_cons_zero, List.getD_cons_succ, Option.map_some, mk_tup, mk_lst, wp_len]
  exact ⟨by decide, close_v (hQ _ _ _ a0 a1 (Int.emod_nonneg _ (by decide)) (by have := Int.emod_lt_of_pos m (show (0:Int) < 1000 by decide); omega))⟩
theorem fact_wp {B : Bag} {rest : Sto} {n : Int} {Q : Wd → Sto → Prop} {E : Exn → Sto → Prop} (hn : 0 ≤ n) (hn2 : n < 1000) (hQ : ∀ (f : Fc) (B' : Bag), FOk f → Q (.v f.t) (B'.ob :: rest)) :
    (m__law_fact [.ref 0, .v (.int n)] (B.ob :: rest)).wp Q E := by
  unfold m__law_fact
  refine wp_run rfl ?_
  simp (maxSteps := 2000000) only [c__law_fact, tb__law_fact, denS, den, Den.of, CE.cnt, CE.isNil, CO.f, BO.f, BI.den, wp_seq, wp_sIf, wp_tAnd, wp_tOr, wp_tNot, wp_tOf, wp_tCmp, wp_eBin, wp_eAnd, wp_eOr, wp_eNot, wp_eNeg, wp_eIte, wp_eSlc, wp_pNone, wp_pSome, wp_bYes, wp_asB, wp_eVar, wp_eT, wp_put, wp_asg, wp_gNam, wp_nil, wp_ret, wp_exp, wp_eApp, wp_lCons, wp_lNil, wp_ok, wp_bad, wp_nx, wp_rt, wp_bk, wp_ct, List.map_cons, List.map_nil, List.cons_append, List.nil_append, List.append_nil, List.replicate_succ, List.replicate_zero, Nat.reduceSub, List.getElem?_cons_zero, List.getElem?_cons_succ, List.set_cons_zero, List.set_cons_succ, Nat.reduceAdd, Nat.reduceLeDiff, allT_v, allT_nil, List.length_cons, List.length_nil, List.length_append, List.length_map, Nat.succ_eq_add_one, ite_true, ite_false, if_true, if_false, reduceIte, Bool.false_eq_true, decide_eq_true_eq, Bool.not_eq_true, Bool.not_eq_false, true_and, and_true, wp_bInt, wp_addI, wp_addT, wp_addL, wp_eqI, wp_eqB, wp_eqS, ixT0, ixL0, ixT1, ixL1, ixT2, ixL2, ixT3, ixL3, ixT4, ixL4, ixT5, ixL5, ixT6, ixL6, ixT7, ixL7, cutF1, cutU1, cutF2, cutU2, cutF3, cutU3, cutF4, cutU4, cutF5, cutU5, cutF6, cutU6, bag_0, bag_1, bag_2, bag_3, bagp_1, bagp_2, bagp_3, wp_slcT, wp_slcL, List.drop_succ_cons, List.drop_zero, List.take_succ_cons, List.take_zero, List.drop_nil, wp_in2, wp_inIT, wp_inIL, wp_app, wp_eBm, isW_last, wp_lstM, BMt.f, BMt.T, ofS_inj, strOk_lit, String.reduceEq, decide_false, decide_true, Bool.not_true, Bool.not_false, Bool.or_false, Bool.false_or, Bool.or_true, Bool.true_or, and_self, wp_eChn, wp_gTp, wp_gsCons, wp_gsNil, wp_isN, wipeE, List.getD_cons_zero, List.getD_cons_succ, Option.map_some, mk_tup, mk_lst, wp_len]
  refine pull_lit (n := 16) (by decide) (by decide) fun r B1 a0 a1 => ?_
  simp (maxSteps := 2000000) only [denS, den, Den.of, CE.cnt, CE.isNil, CO.f, BO.f, BI.den, wp_seq, wp_sIf, wp_tAnd, wp_tOr, wp_tNot, wp_tOf, wp_tCmp, wp_eBin, wp_eAnd, wp_eOr, wp_eNot, wp_eNeg, wp_eIte, wp_eSlc, wp_pNone, wp_pSome, wp_bYes, wp_asB, wp_eVar, wp_eT, wp_put, wp_asg, wp_gNam, wp_nil, wp_ret, wp_exp, wp_eApp, wp_lCons, wp_lNil, wp_ok, wp_bad, wp_nx, wp_rt, wp_bk, wp_ct, List.map_cons, List.map_nil, List.cons_append, List.nil_append, List.append_nil, List.replicate_succ, List.replicate_zero, Nat.reduceSub, List.getElem?_cons_zero, List.getElem?_cons_succ, List.set_cons_zero, List.set_cons_succ, Nat.reduceAdd, Nat.reduceLeDiff, allT_v, allT_nil, List.length_cons, List.length_nil, List.length_append, List.length_map, Nat.succ_eq_add_one, ite_true, ite_false, if_true, if_false, reduceIte, Bool.false_eq_true, decide_eq_true_eq, Bool.not_eq_true, Bool.not_eq_false, true_and, and_true, wp_bInt, wp_addI, wp_addT, wp_addL, wp_eqI, wp_eqB, wp_eqS, ixT0, ixL0, ixT1, ixL1, ixT2, ixL2, ixT3, ixL3, ixT4, ixL4, ixT5, ixL5, ixT6, ixL6, ixT7, ixL7, cutF1, cutU1, cutF2, cutU2, cutF3, cutU3, cutF4, cutU4, cutF5, cutU5, cutF6, cutU6, bag_0, bag_1, bag_2, bag_3, bagp_1, bagp_2, bagp_3, wp_slcT, wp_slcL, List.drop_succ_cons, List.drop_zero, List.take_succ_cons, List.take_zero, List.drop_nil, wp_in2, wp_inIT, wp_inIL, wp_app, wp_eBm, isW_last, wp_lstM, BMt.f, BMt.T, ofS_inj, strOk_lit, String.reduceEq, decide_false, decide_true, Bool.not_true, Bool.not_false, Bool.or_false, Bool.false_or, Bool.or_true, Bool.true_or, and_self, wp_eChn, wp_gTp, wp_gsCons, wp_gsNil, wp_isN, wipeE, List.getD_cons_zero, List.getD_cons_succ, Option.map_some, mk_tup, mk_lst, wp_len]
  refine ⟨rfl, ?_⟩
  by_cases h7 : r < 7
  · rw [if_pos h7]
    exact passing_wp fun f B2 hf _ => close_v (hQ f B2 hf)
  rw [if_neg h7]
  refine ⟨rfl, ?_⟩
  by_cases h9 : r < 9
  · rw [if_pos h9]
    refine gate_wp fun g B2 b0 b1 => ?_
    refine day_wp fun d B3 c0 c1 => ?_
    refine pull_lit (n := 49) (by decide) (by decide) fun h B4 d0 d1 => ?_
    simp (maxSteps := 2000000) only [denS, den, Den.of, CE.cnt, CE.isNil, CO.f, BO.f, BI.den, wp_seq, wp_sIf, wp_tAnd, wp_tOr, wp_tNot, wp_tOf, wp_tCmp, wp_eBin, wp_eAnd, wp_eOr, wp_eNot, wp_eNeg, wp_eIte, wp_eSlc, wp_pNone, wp_pSome, wp_bYes, wp_asB, wp_eVar, wp_eT, wp_put, wp_asg, wp_gNam, wp_nil, wp_ret, wp_exp, wp_eApp, wp_lCons, wp_lNil, wp_ok, wp_bad, wp_nx, wp_rt, wp_bk, wp_ct, List.map_cons, List.map_nil, List.cons_append, List.nil_append, List.append_nil, List.replicate_succ, List.replicate_zero, Nat.reduceSub, List.getElem?_cons_zero, List.getElem?_cons_succ, List.set_cons_zero, List.set_cons_succ, Nat.reduceAdd, Nat.reduceLeDiff, allT_v, allT_nil, List.length_cons, List.length_nil, List.length_append, List.length_map, Nat.succ_eq_add_one, ite_true, ite_false, if_true, if_false, reduceIte, Bool.false_eq_true, decide_eq_true_eq, Bool.not_eq_true, Bool.not_eq_false, true_and, and_true, wp_bInt, wp_addI, wp_addT, wp_addL, wp_eqI, wp_eqB, wp_eqS, ixT0, ixL0, ixT1, ixL1, ixT2, ixL2, ixT3, ixL3, ixT4, ixL4, ixT5, ixL5, ixT6, ixL6, ixT7, ixL7, cutF1, cutU1, cutF2, cutU2, cutF3, cutU3, cutF4, cutU4, cutF5, cutU5, cutF6, cutU6, bag_0, bag_1, bag_2, bag_3, bagp_1, bagp_2, bagp_3, wp_slcT, wp_slcL, List.drop_succ_cons, List.drop_zero, List.take_succ_cons, List.take_zero, List.drop_nil, wp_in2, wp_inIT, wp_inIL, wp_app, wp_eBm, isW_last, wp_lstM, BMt.f, BMt.T, ofS_inj, strOk_lit, String.reduceEq, decide_false, decide_true, Bool.not_true, Bool.not_false, Bool.or_false, Bool.false_or, Bool.or_true, Bool.true_or, and_self, wp_eChn, wp_gTp, wp_gsCons, wp_gsNil, wp_isN, wipeE, List.getD_cons_zero, List.getD_cons_succ, Option.map_some, mk_tup, mk_lst, wp_len]
    exact close_v (hQ ⟨"toll", g, d, [.int h]⟩ B4 (.toll b0 b1 c0 c1 d0 (by omega)))
  rw [if_neg h9]
  refine ⟨rfl, ?_⟩
  by_cases h11 : r < 11
  · rw [if_pos h11]
    exact board_wp fun f B2 hf _ => close_v (hQ f B2 hf)
  rw [if_neg h11]
  refine ⟨rfl, ?_⟩
  by_cases h12 : r < 12
  · rw [if_pos h12]
    refine gate_wp fun g B2 b0 b1 => ?_
    refine day_wp fun d B3 c0 c1 => ?_
    refine pull_lit (n := 4) (by decide) (by decide) fun h B4 d0 d1 => ?_
    simp (maxSteps := 2000000) only [denS, den, Den.of, CE.cnt, CE.isNil, CO.f, BO.f, BI.den, wp_seq, wp_sIf, wp_tAnd, wp_tOr, wp_tNot, wp_tOf, wp_tCmp, wp_eBin, wp_eAnd, wp_eOr, wp_eNot, wp_eNeg, wp_eIte, wp_eSlc, wp_pNone, wp_pSome, wp_bYes, wp_asB, wp_eVar, wp_eT, wp_put, wp_asg, wp_gNam, wp_nil, wp_ret, wp_exp, wp_eApp, wp_lCons, wp_lNil, wp_ok, wp_bad, wp_nx, wp_rt, wp_bk, wp_ct, List.map_cons, List.map_nil, List.cons_append, List.nil_append, List.append_nil, List.replicate_succ, List.replicate_zero, Nat.reduceSub, List.getElem?_cons_zero, List.getElem?_cons_succ, List.set_cons_zero, List.set_cons_succ, Nat.reduceAdd, Nat.reduceLeDiff, allT_v, allT_nil, List.length_cons, List.length_nil, List.length_append, List.length_map, Nat.succ_eq_add_one, ite_true, ite_false, if_true, if_false, reduceIte, Bool.false_eq_true, decide_eq_true_eq, Bool.not_eq_true, Bool.not_eq_false, true_and, and_true, wp_bInt, wp_addI, wp_addT, wp_addL, wp_eqI, wp_eqB, wp_eqS, ixT0, ixL0, ixT1, ixL1, ixT2, ixL2, ixT3, ixL3, ixT4, ixL4, ixT5, ixL5, ixT6, ixL6, ixT7, ixL7, cutF1, cutU1, cutF2, cutU2, cutF3, cutU3, cutF4, cutU4, cutF5, cutU5, cutF6, cutU6, bag_0, bag_1, bag_2, bag_3, bagp_1, bagp_2, bagp_3, wp_slcT, wp_slcL, List.drop_succ_cons, List.drop_zero, List.take_succ_cons, List.take_zero, List.drop_nil, wp_in2, wp_inIT, wp_inIL, wp_app, wp_eBm, isW_last, wp_lstM, BMt.f, BMt.T, ofS_inj, strOk_lit, String.reduceEq, decide_false, decide_true, Bool.not_true, Bool.not_false, Bool.or_false, Bool.false_or, Bool.or_true, Bool.true_or, and_self, wp_eChn, wp_gTp, wp_gsCons, wp_gsNil, wp_isN, wipeE, List.getD_cons_zero, List.getD_cons_succ, Option.map_some, mk_tup, mk_lst, wp_len]
    exact close_v (hQ ⟨"trust", g, d, [.int h]⟩ B4 (.trust b0 b1 c0 c1 d0 (by omega)))
  rw [if_neg h12]
  refine ⟨rfl, ?_⟩
  by_cases h13 : r < 13
  · rw [if_pos h13]
    refine pull_lit (n := 10) (by decide) (by decide) fun c B2 b0 b1 => ?_
    simp (maxSteps := 2000000) only [denS, den, Den.of, CE.cnt, CE.isNil, CO.f, BO.f, BI.den, wp_seq, wp_sIf, wp_tAnd, wp_tOr, wp_tNot, wp_tOf, wp_tCmp, wp_eBin, wp_eAnd, wp_eOr, wp_eNot, wp_eNeg, wp_eIte, wp_eSlc, wp_pNone, wp_pSome, wp_bYes, wp_asB, wp_eVar, wp_eT, wp_put, wp_asg, wp_gNam, wp_nil, wp_ret, wp_exp, wp_eApp, wp_lCons, wp_lNil, wp_ok, wp_bad, wp_nx, wp_rt, wp_bk, wp_ct, List.map_cons, List.map_nil, List.cons_append, List.nil_append, List.append_nil, List.replicate_succ, List.replicate_zero, Nat.reduceSub, List.getElem?_cons_zero, List.getElem?_cons_succ, List.set_cons_zero, List.set_cons_succ, Nat.reduceAdd, Nat.reduceLeDiff, allT_v, allT_nil, List.length_cons, List.length_nil, List.length_append, List.length_map, Nat.succ_eq_add_one, ite_true, ite_false, if_true, if_false, reduceIte, Bool.false_eq_true, decide_eq_true_eq, Bool.not_eq_true, Bool.not_eq_false, true_and, and_true, wp_bInt, wp_addI, wp_addT, wp_addL, wp_eqI, wp_eqB, wp_eqS, ixT0, ixL0, ixT1, ixL1, ixT2, ixL2, ixT3, ixL3, ixT4, ixL4, ixT5, ixL5, ixT6, ixL6, ixT7, ixL7, cutF1, cutU1, cutF2, cutU2, cutF3, cutU3, cutF4, cutU4, cutF5, cutU5, cutF6, cutU6, bag_0, bag_1, bag_2, bag_3, bagp_1, bagp_2, bagp_3, wp_slcT, wp_slcL, List.drop_succ_cons, List.drop_zero, List.take_succ_cons, List.take_zero, List.drop_nil, wp_in2, wp_inIT, wp_inIL, wp_app, wp_eBm, isW_last, wp_lstM, BMt.f, BMt.T, ofS_inj, strOk_lit, String.reduceEq, decide_false, decide_true, Bool.not_true, Bool.not_false, Bool.or_false, Bool.false_or, Bool.or_true, Bool.true_or, and_self, wp_eChn, wp_gTp, wp_gsCons, wp_gsNil, wp_isN, wipeE, List.getD_cons_zero, List.getD_cons_succ, Option.map_some, mk_tup, mk_lst, wp_len]
    refine stretch_wp fun x y B3 c0 c1 d0 d1 => ?_
    simp (maxSteps := 2000000) only [denS, den, Den.of, CE.cnt, CE.isNil, CO.f, BO.f, BI.den, wp_seq, wp_sIf, wp_tAnd, wp_tOr, wp_tNot, wp_tOf, wp_tCmp, wp_eBin, wp_eAnd, wp_eOr, wp_eNot, wp_eNeg, wp_eIte, wp_eSlc, wp_pNone, wp_pSome, wp_bYes, wp_asB, wp_eVar, wp_eT, wp_put, wp_asg, wp_gNam, wp_nil, wp_ret, wp_exp, wp_eApp, wp_lCons, wp_lNil, wp_ok, wp_bad, wp_nx, wp_rt, wp_bk, wp_ct, List.map_cons, List.map_nil, List.cons_append, List.nil_append, List.append_nil, List.replicate_succ, List.replicate_zero, Nat.reduceSub, List.getElem?_cons_zero, List.getElem?_cons_succ, List.set_cons_zero, List.set_cons_succ, Nat.reduceAdd, Nat.reduceLeDiff, allT_v, allT_nil, List.length_cons, List.length_nil, List.length_append, List.length_map, Nat.succ_eq_add_one, ite_true, ite_false, if_true, if_false, reduceIte, Bool.false_eq_true, decide_eq_true_eq, Bool.not_eq_true, Bool.not_eq_false, true_and, and_true, wp_bInt, wp_addI, wp_addT, wp_addL, wp_eqI, wp_eqB, wp_eqS, ixT0, ixL0, ixT1, ixL1, ixT2, ixL2, ixT3, ixL3, ixT4, ixL4, ixT5, ixL5, ixT6, ixL6, ixT7, ixL7, cutF1, cutU1, cutF2, cutU2, cutF3, cutU3, cutF4, cutU4, cutF5, cutU5, cutF6, cutU6, bag_0, bag_1, bag_2, bag_3, bagp_1, bagp_2, bagp_3, wp_slcT, wp_slcL, List.drop_succ_cons, List.drop_zero, List.take_succ_cons, List.take_zero, List.drop_nil, wp_in2, wp_inIT, wp_inIL, wp_app, wp_eBm, isW_last, wp_lstM, BMt.f, BMt.T, ofS_inj, strOk_lit, String.reduceEq, decide_false, decide_true, Bool.not_true, Bool.not_false, Bool.or_false, Bool.false_or, Bool.or_true, Bool.true_or, and_self, wp_eChn, wp_gTp, wp_gsCons, wp_gsNil, wp_isN, wipeE, List.getD_cons_zero, List.getD_cons_succ, Option.map_some, mk_tup, mk_lst, wp_len]
    exact ⟨small1000L (by decide), close_v (hQ ⟨"folk", c, x, [.int y]⟩ B3 (.folk b0 (by omega) c0 c1 d0 d1))⟩
  rw [if_neg h13]
  refine ⟨rfl, ?_⟩
  by_cases h14 : r < 14
  · rw [if_pos h14]
    refine gate_wp fun g B2 b0 b1 => ?_
    refine pull_lit (n := 3) (by decide) (by decide) fun c B3 c0 c1 => ?_
    simp (maxSteps := 2000000) only [denS, den, Den.of, CE.cnt, CE.isNil, CO.f, BO.f, BI.den, wp_seq, wp_sIf, wp_tAnd, wp_tOr, wp_tNot, wp_tOf, wp_tCmp, wp_eBin, wp_eAnd, wp_eOr, wp_eNot, wp_eNeg, wp_eIte, wp_eSlc, wp_pNone, wp_pSome, wp_bYes, wp_asB, wp_eVar, wp_eT, wp_put, wp_asg, wp_gNam, wp_nil, wp_ret, wp_exp, wp_eApp, wp_lCons, wp_lNil, wp_ok, wp_bad, wp_nx, wp_rt, wp_bk, wp_ct, List.map_cons, List.map_nil, List.cons_append, List.nil_append, List.append_nil, List.replicate_succ, List.replicate_zero, Nat.reduceSub, List.getElem?_cons_zero, List.getElem?_cons_succ, List.set_cons_zero, List.set_cons_succ, Nat.reduceAdd, Nat.reduceLeDiff, allT_v, allT_nil, List.length_cons, List.length_nil, List.length_append, List.length_map, Nat.succ_eq_add_one, ite_true, ite_false, if_true, if_false, reduceIte, Bool.false_eq_true, decide_eq_true_eq, Bool.not_eq_true, Bool.not_eq_false, true_and, and_true, wp_bInt, wp_addI, wp_addT, wp_addL, wp_eqI, wp_eqB, wp_eqS, ixT0, ixL0, ixT1, ixL1, ixT2, ixL2, ixT3, ixL3, ixT4, ixL4, ixT5, ixL5, ixT6, ixL6, ixT7, ixL7, cutF1, cutU1, cutF2, cutU2, cutF3, cutU3, cutF4, cutU4, cutF5, cutU5, cutF6, cutU6, bag_0, bag_1, bag_2, bag_3, bagp_1, bagp_2, bagp_3, wp_slcT, wp_slcL, List.drop_succ_cons, List.drop_zero, List.take_succ_cons, List.take_zero, List.drop_nil, wp_in2, wp_inIT, wp_inIL, wp_app, wp_eBm, isW_last, wp_lstM, BMt.f, BMt.T, ofS_inj, strOk_lit, String.reduceEq, decide_false, decide_true, Bool.not_true, Bool.not_false, Bool.or_false, Bool.false_or, Bool.or_true, Bool.true_or, and_self, wp_eChn, wp_gTp, wp_gsCons, wp_gsNil, wp_isN, wipeE, List.getD_cons_zero, List.getD_cons_succ, Option.map_some, mk_tup, mk_lst, wp_len]
    refine stretch_wp fun x y B4 d0 d1 e0 e1 => ?_
    simp (maxSteps := 2000000) only [denS, den, Den.of, CE.cnt, CE.isNil, CO.f, BO.f, BI.den, wp_seq, wp_sIf, wp_tAnd, wp_tOr, wp_tNot, wp_tOf, wp_tCmp, wp_eBin, wp_eAnd, wp_eOr, wp_eNot, wp_eNeg, wp_eIte, wp_eSlc, wp_pNone, wp_pSome, wp_bYes, wp_asB, wp_eVar, wp_eT, wp_put, wp_asg, wp_gNam, wp_nil, wp_ret, wp_exp, wp_eApp, wp_lCons, wp_lNil, wp_ok, wp_bad, wp_nx, wp_rt, wp_bk, wp_ct, List.map_cons, List.map_nil, List.cons_append, List.nil_append, List.append_nil, List.replicate_succ, List.replicate_zero, Nat.reduceSub, List.getElem?_cons_zero, List.getElem?_cons_succ, List.set_cons_zero, List.set_cons_succ, Nat.reduceAdd, Nat.reduceLeDiff, allT_v, allT_nil, List.length_cons, List.length_nil, List.length_append, List.length_map, Nat.succ_eq_add_one, ite_true, ite_false, if_true, if_false, reduceIte, Bool.false_eq_true, decide_eq_true_eq, Bool.not_eq_true, Bool.not_eq_false, true_and, and_true, wp_bInt, wp_addI, wp_addT, wp_addL, wp_eqI, wp_eqB, wp_eqS, ixT0, ixL0, ixT1, ixL1, ixT2, ixL2, ixT3, ixL3, ixT4, ixL4, ixT5, ixL5, ixT6, ixL6, ixT7, ixL7, cutF1, cutU1, cutF2, cutU2, cutF3, cutU3, cutF4, cutU4, cutF5, cutU5, cutF6, cutU6, bag_0, bag_1, bag_2, bag_3, bagp_1, bagp_2, bagp_3, wp_slcT, wp_slcL, List.drop_succ_cons, List.drop_zero, List.take_succ_cons, List.take_zero, List.drop_nil, wp_in2, wp_inIT, wp_inIL, wp_app, wp_eBm, isW_last, wp_lstM, BMt.f, BMt.T, ofS_inj, strOk_lit, String.reduceEq, decide_false, decide_true, Bool.not_true, Bool.not_false, Bool.or_false, Bool.false_or, Bool.or_true, Bool.true_or, and_self, wp_eChn, wp_gTp, wp_gsCons, wp_gsNil, wp_isN, wipeE, List.getD_cons_zero, List.getD_cons_succ, Option.map_some, mk_tup, mk_lst, wp_len]
    exact ⟨small1000L (by decide), close_v (hQ ⟨"bargain", g, c, [.int x, .int y]⟩ B4 (.bargain b0 b1 c0 (by omega) d0 d1 e0 e1))⟩
  rw [if_neg h14]
  refine ⟨rfl, ?_⟩
  by_cases h15 : r < 15
  · rw [if_pos h15]
    refine pull_wp (by omega) (log_small (by omega)) fun k B2 b0 b1 => ?_
    simp (maxSteps := 2000000) only [denS, den, Den.of, CE.cnt, CE.isNil, CO.f, BO.f, BI.den, wp_seq, wp_sIf, wp_tAnd, wp_tOr, wp_tNot, wp_tOf, wp_tCmp, wp_eBin, wp_eAnd, wp_eOr, wp_eNot, wp_eNeg, wp_eIte, wp_eSlc, wp_pNone, wp_pSome, wp_bYes, wp_asB, wp_eVar, wp_eT, wp_put, wp_asg, wp_gNam, wp_nil, wp_ret, wp_exp, wp_eApp, wp_lCons, wp_lNil, wp_ok, wp_bad, wp_nx, wp_rt, wp_bk, wp_ct, List.map_cons, List.map_nil, List.cons_append, List.nil_append, List.append_nil, List.replicate_succ, List.replicate_zero, Nat.reduceSub, List.getElem?_cons_zero, List.getElem?_cons_succ, List.set_cons_zero, List.set_cons_succ, Nat.reduceAdd, Nat.reduceLeDiff, allT_v, allT_nil, List.length_cons, List.length_nil, List.length_append, List.length_map, Nat.succ_eq_add_one, ite_true, ite_false, if_true, if_false, reduceIte, Bool.false_eq_true, decide_eq_true_eq, Bool.not_eq_true, Bool.not_eq_false, true_and, and_true, wp_bInt, wp_addI, wp_addT, wp_addL, wp_eqI, wp_eqB, wp_eqS, ixT0, ixL0, ixT1, ixL1, ixT2, ixL2, ixT3, ixL3, ixT4, ixL4, ixT5, ixL5, ixT6, ixL6, ixT7, ixL7, cutF1, cutU1, cutF2, cutU2, cutF3, cutU3, cutF4, cutU4, cutF5, cutU5, cutF6, cutU6, bag_0, bag_1, bag_2, bag_3, bagp_1, bagp_2, bagp_3, wp_slcT, wp_slcL, List.drop_succ_cons, List.drop_zero, List.take_succ_cons, List.take_zero, List.drop_nil, wp_in2, wp_inIT, wp_inIL, wp_app, wp_eBm, isW_last, wp_lstM, BMt.f, BMt.T, ofS_inj, strOk_lit, String.reduceEq, decide_false, decide_true, Bool.not_true, Bool.not_false, Bool.or_false, Bool.false_or, Bool.or_true, Bool.true_or, and_self, wp_eChn, wp_gTp, wp_gsCons, wp_gsNil, wp_isN, wipeE, List.getD_cons_zero, List.getD_cons_succ, Option.map_some, mk_tup, mk_lst, wp_len]
    refine pull_lit (n := 1440) (by decide) (by decide) fun m B3 c0 c1 => ?_
    simp (maxSteps := 2000000) only [denS, den, Den.of, CE.cnt, CE.isNil, CO.f, BO.f, BI.den, wp_seq, wp_sIf, wp_tAnd, wp_tOr, wp_tNot, wp_tOf, wp_tCmp, wp_eBin, wp_eAnd, wp_eOr, wp_eNot, wp_eNeg, wp_eIte, wp_eSlc, wp_pNone, wp_pSome, wp_bYes, wp_asB, wp_eVar, wp_eT, wp_put, wp_asg, wp_gNam, wp_nil, wp_ret, wp_exp, wp_eApp, wp_lCons, wp_lNil, wp_ok, wp_bad, wp_nx, wp_rt, wp_bk, wp_ct, List.map_cons, List.map_nil, List.cons_append, List.nil_append, List.append_nil, List.replicate_succ, List.replicate_zero, Nat.reduceSub, List.getElem?_cons_zero, List.getElem?_cons_succ, List.set_cons_zero, List.set_cons_succ, Nat.reduceAdd, Nat.reduceLeDiff, allT_v, allT_nil, List.length_cons, List.length_nil, List.length_append, List.length_map, Nat.succ_eq_add_one, ite_true, ite_false, if_true, if_false, reduceIte, Bool.false_eq_true, decide_eq_true_eq, Bool.not_eq_true, Bool.not_eq_false, true_and, and_true, wp_bInt, wp_addI, wp_addT, wp_addL, wp_eqI, wp_eqB, wp_eqS, ixT0, ixL0, ixT1, ixL1, ixT2, ixL2, ixT3, ixL3, ixT4, ixL4, ixT5, ixL5, ixT6, ixL6, ixT7, ixL7, cutF1, cutU1, cutF2, cutU2, cutF3, cutU3, cutF4, cutU4, cutF5, cutU5, cutF6, cutU6, bag_0, bag_1, bag_2, bag_3, bagp_1, bagp_2, bagp_3, wp_slcT, wp_slcL, List.drop_succ_cons, List.drop_zero, List.take_succ_cons, List.take_zero, List.drop_nil, wp_in2, wp_inIT, wp_inIL, wp_app, wp_eBm, isW_last, wp_lstM, BMt.f, BMt.T, ofS_inj, strOk_lit, String.reduceEq, decide_false, decide_true, Bool.not_true, Bool.not_false, Bool.or_false, Bool.false_or, Bool.or_true, Bool.true_or, and_self, wp_eChn, wp_gTp, wp_gsCons, wp_gsNil, wp_isN, wipeE, List.getD_cons_zero, List.getD_cons_succ, Option.map_some, mk_tup, mk_lst, wp_len]
    refine pull_lit (n := 3) (by decide) (by decide) fun j B4 d0 d1 => ?_
    refine idxL_mem d0 (by simpa using d1) fun t ht => ?_
    have hs : ∃ m : Int, t = .int m ∧ 0 ≤ m ∧ m ≤ 1439 := by
      simp only [List.mem_cons, List.not_mem_nil, or_false] at ht
      rcases ht with rfl | rfl | rfl
      · exact ⟨_, rfl, by decide, by decide⟩
      · exact ⟨_, rfl, c0, by omega⟩
      · exact ⟨_, rfl, by decide, by decide⟩
    obtain ⟨m, rfl, m0, m1⟩ := hs
    simp (maxSteps := 2000000) only [denS, den, Den.of, CE.cnt, CE.isNil, CO.f, BO.f, BI.den, wp_seq, wp_sIf, wp_tAnd, wp_tOr, wp_tNot, wp_tOf, wp_tCmp, wp_eBin, wp_eAnd, wp_eOr, wp_eNot, wp_eNeg, wp_eIte, wp_eSlc, wp_pNone, wp_pSome, wp_bYes, wp_asB, wp_eVar, wp_eT, wp_put, wp_asg, wp_gNam, wp_nil, wp_ret, wp_exp, wp_eApp, wp_lCons, wp_lNil, wp_ok, wp_bad, wp_nx, wp_rt, wp_bk, wp_ct, List.map_cons, List.map_nil, List.cons_append, List.nil_append, List.append_nil, List.replicate_succ, List.replicate_zero, Nat.reduceSub, List.getElem?_cons_zero, List.getElem?_cons_succ, List.set_cons_zero, List.set_cons_succ, Nat.reduceAdd, Nat.reduceLeDiff, allT_v, allT_nil, List.length_cons, List.length_nil, List.length_append, List.length_map, Nat.succ_eq_add_one, ite_true, ite_false, if_true, if_false, reduceIte, Bool.false_eq_true, decide_eq_true_eq, Bool.not_eq_true, Bool.not_eq_false, true_and, and_true, wp_bInt, wp_addI, wp_addT, wp_addL, wp_eqI, wp_eqB, wp_eqS, ixT0, ixL0, ixT1, ixL1, ixT2, ixL2, ixT3, ixL3, ixT4, ixL4, ixT5, ixL5, ixT6, ixL6, ixT7, ixL7, cutF1, cutU1, cutF2, cutU2, cutF3, cutU3, cutF4, cutU4, cutF5, cutU5, cutF6, cutU6, bag_0, bag_1, bag_2, bag_3, bagp_1, bagp_2, bagp_3, wp_slcT, wp_slcL, List.drop_succ_cons, List.drop_zero, List.take_succ_cons, List.take_zero, List.drop_nil, wp_in2, wp_inIT, wp_inIL, wp_app, wp_eBm, isW_last, wp_lstM, BMt.f, BMt.T, ofS_inj, strOk_lit, String.reduceEq, decide_false, decide_true, Bool.not_true, Bool.not_false, Bool.or_false, Bool.false_or, Bool.or_true, Bool.true_or, and_self, wp_eChn, wp_gTp, wp_gsCons, wp_gsNil, wp_isN, wipeE, List.getD_cons_zero, List.getD_cons_succ, Option.map_some, mk_tup, mk_lst, wp_len]
    exact close_v (hQ ⟨"lost", 1 + k, m, []⟩ B4 (.lost (by omega) m0 m1))
  rw [if_neg h15]
  refine pull_lit (n := 500) (by decide) (by decide) fun k1 B2 b0 b1 => ?_
  refine pull_lit (n := 500) (by decide) (by decide) fun k2 B3 c0 c1 => ?_
  refine pull_lit (n := 2) (by decide) (by decide) fun k3 B4 d0 d1 => ?_
  simp (maxSteps := 2000000) only [denS, den, Den.of, CE.cnt, CE.isNil, CO.f, BO.f, BI.den, wp_seq, wp_sIf, wp_tAnd, wp_tOr, wp_tNot, wp_tOf, wp_tCmp, wp_eBin, wp_eAnd, wp_eOr, wp_eNot, wp_eNeg, wp_eIte, wp_eSlc, wp_pNone, wp_pSome, wp_bYes, wp_asB, wp_eVar, wp_eT, wp_put, wp_asg, wp_gNam, wp_nil, wp_ret, wp_exp, wp_eApp, wp_lCons, wp_lNil, wp_ok, wp_bad, wp_nx, wp_rt, wp_bk, wp_ct, List.map_cons, List.map_nil, List.cons_append, List.nil_append, List.append_nil, List.replicate_succ, List.replicate_zero, Nat.reduceSub, List.getElem?_cons_zero, List.getElem?_cons_succ, List.set_cons_zero, List.set_cons_succ, Nat.reduceAdd, Nat.reduceLeDiff, allT_v, allT_nil, List.length_cons, List.length_nil, List.length_append, List.length_map, Nat.succ_eq_add_one, ite_true, ite_false, if_true, if_false, reduceIte, Bool.false_eq_true, decide_eq_true_eq, Bool.not_eq_true, Bool.not_eq_false, true_and, and_true, wp_bInt, wp_addI, wp_addT, wp_addL, wp_eqI, wp_eqB, wp_eqS, ixT0, ixL0, ixT1, ixL1, ixT2, ixL2, ixT3, ixL3, ixT4, ixL4, ixT5, ixL5, ixT6, ixL6, ixT7, ixL7, cutF1, cutU1, cutF2, cutU2, cutF3, cutU3, cutF4, cutU4, cutF5, cutU5, cutF6, cutU6, bag_0, bag_1, bag_2, bag_3, bagp_1, bagp_2, bagp_3, wp_slcT, wp_slcL, List.drop_succ_cons, List.drop_zero, List.take_succ_cons, List.take_zero, List.drop_nil, wp_in2, wp_inIT, wp_inIL, wp_app, wp_eBm, isW_last, wp_lstM, BMt.f, BMt.T, ofS_inj, strOk_lit, String.reduceEq, decide_false, decide_true, Bool.not_true, Bool.not_false, Bool.or_false, Bool.false_or, Bool.or_true, Bool.true_or, and_self, wp_eChn, wp_gTp, wp_gsCons, wp_gsNil, wp_isN, wipeE, List.getD_cons_zero, List.getD_cons_succ, Option.map_some, mk_tup, mk_lst, wp_len]
  refine pull_lit (n := 3) (by decide) (by decide) fun j B5 e0 e1 => ?_
  refine idxL_mem e0 (by simpa using e1) fun t ht => ?_
  have hs : ∃ m : Int, t = .int m ∧ 0 ≤ m ∧ m ≤ 100000 := by
    simp only [List.mem_cons, List.not_mem_nil, or_false] at ht
    rcases ht with rfl | rfl | rfl
    · exact ⟨_, rfl, b0, by omega⟩
    · exact ⟨_, rfl, c0, by omega⟩
    · exact ⟨_, rfl, by omega, by omega⟩
  obtain ⟨m, rfl, m0, m1⟩ := hs
  refine pull_lit (n := 4) (by decide) (by decide) fun r3 B6 f0 f1 => ?_
  simp (maxSteps := 2000000) only [wp_intB, denS, den, Den.of, CE.cnt, CE.isNil, CO.f, BO.f, BI.den, wp_seq, wp_sIf, wp_tAnd, wp_tOr, wp_tNot, wp_tOf, wp_tCmp, wp_eBin, wp_eAnd, wp_eOr, wp_eNot, wp_eNeg, wp_eIte, wp_eSlc, wp_pNone, wp_pSome, wp_bYes, wp_asB, wp_eVar, wp_eT, wp_put, wp_asg, wp_gNam, wp_nil, wp_ret, wp_exp, wp_eApp, wp_lCons, wp_lNil, wp_ok, wp_bad, wp_nx, wp_rt, wp_bk, wp_ct, List.map_cons, List.map_nil, List.cons_append, List.nil_append, List.append_nil, List.replicate_succ, List.replicate_zero, Nat.reduceSub, List.getElem?_cons_zero, List.getElem?_cons_succ, List.set_cons_zero, List.set_cons_succ, Nat.reduceAdd, Nat.reduceLeDiff, allT_v, allT_nil, List.length_cons, List.length_nil, List.length_append, List.length_map, Nat.succ_eq_add_one, ite_true, ite_false, if_true, if_false, reduceIte, Bool.false_eq_true, decide_eq_true_eq, Bool.not_eq_true, Bool.not_eq_false, true_and, and_true, wp_bInt, wp_addI, wp_addT, wp_addL, wp_eqI, wp_eqB, wp_eqS, ixT0, ixL0, ixT1, ixL1, ixT2, ixL2, ixT3, ixL3, ixT4, ixL4, ixT5, ixL5, ixT6, ixL6, ixT7, ixL7, cutF1, cutU1, cutF2, cutU2, cutF3, cutU3, cutF4, cutU4, cutF5, cutU5, cutF6, cutU6, bag_0, bag_1, bag_2, bag_3, bagp_1, bagp_2, bagp_3, wp_slcT, wp_slcL, List.drop_succ_cons, List.drop_zero, List.take_succ_cons, List.take_zero, List.drop_nil, wp_in2, wp_inIT, wp_inIL, wp_app, wp_eBm, isW_last, wp_lstM, BMt.f, BMt.T, ofS_inj, strOk_lit, String.reduceEq, decide_false, decide_true, Bool.not_true, Bool.not_false, Bool.or_false, Bool.false_or, Bool.or_true, Bool.true_or, and_self, wp_eChn, wp_gTp, wp_gsCons, wp_gsNil, wp_isN, wipeE, List.getD_cons_zero, List.getD_cons_succ, Option.map_some, mk_tup, mk_lst, wp_len]
  refine idxT_if fun z hz => ?_
  have hz : 0 < z ∧ z ≤ 10 := by rcases hz with rfl | rfl <;> decide
  refine pull_wp hz.1 (log_small (by omega)) fun c B7 g0 g1 => ?_
  refine day_wp fun d B8 e2 e3 => ?_
  simp (maxSteps := 2000000) only [denS, den, Den.of, CE.cnt, CE.isNil, CO.f, BO.f, BI.den, wp_seq, wp_sIf, wp_tAnd, wp_tOr, wp_tNot, wp_tOf, wp_tCmp, wp_eBin, wp_eAnd, wp_eOr, wp_eNot, wp_eNeg, wp_eIte, wp_eSlc, wp_pNone, wp_pSome, wp_bYes, wp_asB, wp_eVar, wp_eT, wp_put, wp_asg, wp_gNam, wp_nil, wp_ret, wp_exp, wp_eApp, wp_lCons, wp_lNil, wp_ok, wp_bad, wp_nx, wp_rt, wp_bk, wp_ct, List.map_cons, List.map_nil, List.cons_append, List.nil_append, List.append_nil, List.replicate_succ, List.replicate_zero, Nat.reduceSub, List.getElem?_cons_zero, List.getElem?_cons_succ, List.set_cons_zero, List.set_cons_succ, Nat.reduceAdd, Nat.reduceLeDiff, allT_v, allT_nil, List.length_cons, List.length_nil, List.length_append, List.length_map, Nat.succ_eq_add_one, ite_true, ite_false, if_true, if_false, reduceIte, Bool.false_eq_true, decide_eq_true_eq, Bool.not_eq_true, Bool.not_eq_false, true_and, and_true, wp_bInt, wp_addI, wp_addT, wp_addL, wp_eqI, wp_eqB, wp_eqS, ixT0, ixL0, ixT1, ixL1, ixT2, ixL2, ixT3, ixL3, ixT4, ixL4, ixT5, ixL5, ixT6, ixL6, ixT7, ixL7, cutF1, cutU1, cutF2, cutU2, cutF3, cutU3, cutF4, cutU4, cutF5, cutU5, cutF6, cutU6, bag_0, bag_1, bag_2, bag_3, bagp_1, bagp_2, bagp_3, wp_slcT, wp_slcL, List.drop_succ_cons, List.drop_zero, List.take_succ_cons, List.take_zero, List.drop_nil, wp_in2, wp_inIT, wp_inIL, wp_app, wp_eBm, isW_last, wp_lstM, BMt.f, BMt.T, ofS_inj, strOk_lit, String.reduceEq, decide_false, decide_true, Bool.not_true, Bool.not_false, Bool.or_false, Bool.false_or, Bool.or_true, Bool.true_or, and_self, wp_eChn, wp_gTp, wp_gsCons, wp_gsNil, wp_isN, wipeE, List.getD_cons_zero, List.getD_cons_succ, Option.map_some, mk_tup, mk_lst, wp_len]
  exact close_v (hQ ⟨"paid", c, d, [.int m]⟩ B8 (.paid g0 (by omega) e2 e3 m0 m1))
end DM

set_option Elab.async false
set_option linter.all false
set_option maxRecDepth 100000
set_option maxHeartbeats 4000000
/-! DU: the facts that the laws draw. -/
namespace DM
open PySem PySem.Spec PyProof.Rows DL
open Classical

def pairT (p : Int × Fc) : T := .tup [.int p.1, p.2.t]
structure FsOk (top : Int) (fs : List (Int × Fc)) : Prop where
  pw : (fs.map (·.1)).Pairwise (· < ·)
  lo : ∀ p ∈ fs, 1 ≤ p.1 ∧ p.1 ≤ top
  ok : ∀ p ∈ fs, FOk p.2
theorem FsOk.snoc {top n : Int} {fs : List (Int × Fc)} {f : Fc} (h : FsOk top fs) (h0 : 0 ≤ top) (hn : top < n) (hf : FOk f) : FsOk n (fs ++ [(n, f)]) := by
  refine ⟨?_, fun p hp => ?_, fun p hp => ?_⟩
  · rw [List.map_append, List.pairwise_append]
    refine ⟨h.pw, by simp, fun a ha b hb => ?_⟩
    obtain ⟨p, hp, rfl⟩ := List.mem_map.mp ha
    simp at hb
    subst hb
    have := (h.lo p hp).2
    omega
  · rcases List.mem_append.mp hp with hp | hp
    · have := h.lo p hp; omega
    · have := List.mem_singleton.mp hp
      subst this
      exact ⟨by show 1 ≤ n; omega, Int.le_refl _⟩
  · rcases List.mem_append.mp hp with hp | hp
    · exact h.ok p hp
    · have := List.mem_singleton.mp hp
      subst this
      exact hf
theorem trunc_more {B B' : Bag} {rest new : Sto} : Trunc (B.ob :: rest) (B'.ob :: (rest ++ new)) := trunc_bag
/-- the list that was made last goes out -/
theorem close_last {B B' : Bag} {rest : Sto} {Q : Wd → Sto → Prop} {ts : List T} (h : Q (.v (.lst ts)) (B'.ob :: rest)) : Close (B.ob :: rest) Q (.ref (rest.length + 1)) (B'.ob :: (rest ++ [.lst (ts.map .v)])) := by
  refine ⟨trunc_more, .v (.lst ts), ?_, ?_⟩
  · unfold frzW
    dsimp only
    rw [if_neg (by simp)]
    have e : (B'.ob :: (rest ++ [Ob.lst (ts.map Wd.v)]))[rest.length + 1]? = some (.lst (ts.map .v)) := by simp
    rw [e]
    simp [frzO]
  · have e : (B'.ob :: (rest ++ [Ob.lst (ts.map Wd.v)])).take (B.ob :: rest).length = B'.ob :: rest := by simp
    rw [e]; exact h
theorem rngL_len (n : Int) : (rngL 0 n).length = n.toNat := by simp [rngL]
theorem facts_wp {B : Bag} {rest : Sto} {most : Int} {Q : Wd → Sto → Prop} {E : Exn → Sto → Prop} (hm : 0 ≤ most) (hm2 : most ≤ 100) (hQ : ∀ (fs : List (Int × Fc)) (top : Int) (B' : Bag), FsOk top fs → fs.length ≤ most.toNat → Q (.v (.lst (fs.map pairT))) (B'.ob :: rest)) :
    (m__law_facts [.ref 0, .v (.int most)] (B.ob :: rest)).wp Q E := by
  unfold m__law_facts
  refine wp_run rfl ?_
  simp (maxSteps := 2000000) only [c__law_facts, tb__law_facts, iOf, wp_sFor, denS, den, Den.of, CE.cnt, CE.isNil, CO.f, BO.f, BI.den, wp_seq, wp_sIf, wp_tAnd, wp_tOr, wp_tNot, wp_tOf, wp_tCmp, wp_eBin, wp_eAnd, wp_eOr, wp_eNot, wp_eNeg, wp_eIte, wp_eSlc, wp_pNone, wp_pSome, wp_bYes, wp_asB, wp_eVar, wp_eT, wp_put, wp_asg, wp_gNam, wp_nil, wp_ret, wp_exp, wp_eApp, wp_lCons, wp_lNil, wp_ok, wp_bad, wp_nx, wp_rt, wp_bk, wp_ct, List.map_cons, List.map_nil, List.cons_append, List.nil_append, List.append_nil, List.replicate_succ, List.replicate_zero, Nat.reduceSub, List.getElem?_cons_zero, List.getElem?_cons_succ, List.set_cons_zero, List.set_cons_succ, Nat.reduceAdd, Nat.reduceLeDiff, allT_v, allT_nil, List.length_cons, List.length_nil, List.length_append, List.length_map, Nat.succ_eq_add_one, ite_true, ite_false, if_true, if_false, reduceIte, Bool.false_eq_true, decide_eq_true_eq, Bool.not_eq_true, Bool.not_eq_false, true_and, and_true, wp_bInt, wp_addI, wp_addT, wp_addL, wp_eqI, wp_eqB, wp_eqS, ixT0, ixL0, ixT1, ixL1, ixT2, ixL2, ixT3, ixL3, ixT4, ixL4, ixT5, ixL5, ixT6, ixL6, ixT7, ixL7, cutF1, cutU1, cutF2, cutU2, cutF3, cutU3, cutF4, cutU4, cutF5, cutU5, cutF6, cutU6, bag_0, bag_1, bag_2, bag_3, bagp_1, bagp_2, bagp_3, wp_slcT, wp_slcL, List.drop_succ_cons, List.drop_zero, List.take_succ_cons, List.take_zero, List.drop_nil, wp_in2, wp_inIT, wp_inIL, wp_app, wp_eBm, isW_last, wp_lstM, BMt.f, BMt.T, ofS_inj, strOk_lit, String.reduceEq, decide_false, decide_true, Bool.not_true, Bool.not_false, Bool.or_false, Bool.false_or, Bool.or_true, Bool.true_or, and_self, wp_eChn, wp_gTp, wp_gsCons, wp_gsNil, wp_isN, wipeE, List.getD_cons_zero, List.getD_cons_succ, Option.map_some, mk_tup, mk_lst, wp_len]
  refine pull_wp (by omega) (log_small (by omega)) fun am B1 a0 a1 => ?_
  simp (maxSteps := 2000000) only [denS, den, Den.of, CE.cnt, CE.isNil, CO.f, BO.f, BI.den, wp_seq, wp_sIf, wp_tAnd, wp_tOr, wp_tNot, wp_tOf, wp_tCmp, wp_eBin, wp_eAnd, wp_eOr, wp_eNot, wp_eNeg, wp_eIte, wp_eSlc, wp_pNone, wp_pSome, wp_bYes, wp_asB, wp_eVar, wp_eT, wp_put, wp_asg, wp_gNam, wp_nil, wp_ret, wp_exp, wp_eApp, wp_lCons, wp_lNil, wp_ok, wp_bad, wp_nx, wp_rt, wp_bk, wp_ct, List.map_cons, List.map_nil, List.cons_append, List.nil_append, List.append_nil, List.replicate_succ, List.replicate_zero, Nat.reduceSub, List.getElem?_cons_zero, List.getElem?_cons_succ, List.set_cons_zero, List.set_cons_succ, Nat.reduceAdd, Nat.reduceLeDiff, allT_v, allT_nil, List.length_cons, List.length_nil, List.length_append, List.length_map, Nat.succ_eq_add_one, ite_true, ite_false, if_true, if_false, reduceIte, Bool.false_eq_true, decide_eq_true_eq, Bool.not_eq_true, Bool.not_eq_false, true_and, and_true, wp_bInt, wp_addI, wp_addT, wp_addL, wp_eqI, wp_eqB, wp_eqS, ixT0, ixL0, ixT1, ixL1, ixT2, ixL2, ixT3, ixL3, ixT4, ixL4, ixT5, ixL5, ixT6, ixL6, ixT7, ixL7, cutF1, cutU1, cutF2, cutU2, cutF3, cutU3, cutF4, cutU4, cutF5, cutU5, cutF6, cutU6, bag_0, bag_1, bag_2, bag_3, bagp_1, bagp_2, bagp_3, wp_slcT, wp_slcL, List.drop_succ_cons, List.drop_zero, List.take_succ_cons, List.take_zero, List.drop_nil, wp_in2, wp_inIT, wp_inIL, wp_app, wp_eBm, isW_last, wp_lstM, BMt.f, BMt.T, ofS_inj, strOk_lit, String.reduceEq, decide_false, decide_true, Bool.not_true, Bool.not_false, Bool.or_false, Bool.false_or, Bool.or_true, Bool.true_or, and_self, wp_eChn, wp_gTp, wp_gsCons, wp_gsNil, wp_isN, wipeE, List.getD_cons_zero, List.getD_cons_succ, Option.map_some, mk_tup, mk_lst, wp_len]
  refine pull_lit (n := 3) (by decide) (by decide) fun r1 B2 b0 b1 => ?_
  simp (maxSteps := 2000000) only [denS, den, Den.of, CE.cnt, CE.isNil, CO.f, BO.f, BI.den, wp_seq, wp_sIf, wp_tAnd, wp_tOr, wp_tNot, wp_tOf, wp_tCmp, wp_eBin, wp_eAnd, wp_eOr, wp_eNot, wp_eNeg, wp_eIte, wp_eSlc, wp_pNone, wp_pSome, wp_bYes, wp_asB, wp_eVar, wp_eT, wp_put, wp_asg, wp_gNam, wp_nil, wp_ret, wp_exp, wp_eApp, wp_lCons, wp_lNil, wp_ok, wp_bad, wp_nx, wp_rt, wp_bk, wp_ct, List.map_cons, List.map_nil, List.cons_append, List.nil_append, List.append_nil, List.replicate_succ, List.replicate_zero, Nat.reduceSub, List.getElem?_cons_zero, List.getElem?_cons_succ, List.set_cons_zero, List.set_cons_succ, Nat.reduceAdd, Nat.reduceLeDiff, allT_v, allT_nil, List.length_cons, List.length_nil, List.length_append, List.length_map, Nat.succ_eq_add_one, ite_true, ite_false, if_true, if_false, reduceIte, Bool.false_eq_true, decide_eq_true_eq, Bool.not_eq_true, Bool.not_eq_false, true_and, and_true, wp_bInt, wp_addI, wp_addT, wp_addL, wp_eqI, wp_eqB, wp_eqS, ixT0, ixL0, ixT1, ixL1, ixT2, ixL2, ixT3, ixL3, ixT4, ixL4, ixT5, ixL5, ixT6, ixL6, ixT7, ixL7, cutF1, cutU1, cutF2, cutU2, cutF3, cutU3, cutF4, cutU4, cutF5, cutU5, cutF6, cutU6, bag_0, bag_1, bag_2, bag_3, bagp_1, bagp_2, bagp_3, wp_slcT, wp_slcL, List.drop_succ_cons, List.drop_zero, List.take_succ_cons, List.take_zero, List.drop_nil, wp_in2, wp_inIT, wp_inIL, wp_app, wp_eBm, isW_last, wp_lstM, BMt.f, BMt.T, ofS_inj, strOk_lit, String.reduceEq, decide_false, decide_true, Bool.not_true, Bool.not_false, Bool.or_false, Bool.false_or, Bool.or_true, Bool.true_or, and_self, wp_eChn, wp_gTp, wp_gsCons, wp_gsNil, wp_isN, wipeE, List.getD_cons_zero, List.getD_cons_succ, Option.map_some, mk_tup, mk_lst, wp_len]
  refine ⟨rfl, ?_⟩
  refine pull_lit (n := 3) (by decide) (by decide) fun dd B3 c0 c1 => ?_
  simp (maxSteps := 2000000) only [denS, den, Den.of, CE.cnt, CE.isNil, CO.f, BO.f, BI.den, wp_seq, wp_sIf, wp_tAnd, wp_tOr, wp_tNot, wp_tOf, wp_tCmp, wp_eBin, wp_eAnd, wp_eOr, wp_eNot, wp_eNeg, wp_eIte, wp_eSlc, wp_pNone, wp_pSome, wp_bYes, wp_asB, wp_eVar, wp_eT, wp_put, wp_asg, wp_gNam, wp_nil, wp_ret, wp_exp, wp_eApp, wp_lCons, wp_lNil, wp_ok, wp_bad, wp_nx, wp_rt, wp_bk, wp_ct, List.map_cons, List.map_nil, List.cons_append, List.nil_append, List.append_nil, List.replicate_succ, List.replicate_zero, Nat.reduceSub, List.getElem?_cons_zero, List.getElem?_cons_succ, List.set_cons_zero, List.set_cons_succ, Nat.reduceAdd, Nat.reduceLeDiff, allT_v, allT_nil, List.length_cons, List.length_nil, List.length_append, List.length_map, Nat.succ_eq_add_one, ite_true, ite_false, if_true, if_false, reduceIte, Bool.false_eq_true, decide_eq_true_eq, Bool.not_eq_true, Bool.not_eq_false, true_and, and_true, wp_bInt, wp_addI, wp_addT, wp_addL, wp_eqI, wp_eqB, wp_eqS, ixT0, ixL0, ixT1, ixL1, ixT2, ixL2, ixT3, ixL3, ixT4, ixL4, ixT5, ixL5, ixT6, ixL6, ixT7, ixL7, cutF1, cutU1, cutF2, cutU2, cutF3, cutU3, cutF4, cutU4, cutF5, cutU5, cutF6, cutU6, bag_0, bag_1, bag_2, bag_3, bagp_1, bagp_2, bagp_3, wp_slcT, wp_slcL, List.drop_succ_cons, List.drop_zero, List.take_succ_cons, List.take_zero, List.drop_nil, wp_in2, wp_inIT, wp_inIL, wp_app, wp_eBm, isW_last, wp_lstM, BMt.f, BMt.T, ofS_inj, strOk_lit, String.reduceEq, decide_false, decide_true, Bool.not_true, Bool.not_false, Bool.or_false, Bool.false_or, Bool.or_true, Bool.true_or, and_self, wp_eChn, wp_gTp, wp_gsCons, wp_gsNil, wp_isN, wipeE, List.getD_cons_zero, List.getD_cons_succ, Option.map_some, mk_tup, mk_lst, wp_len]
  refine wp_rng1 (by omega) ?_
  have hlen := rngL_len am
  generalize decide (0 < r1) = one
  refine wp_forL (I := fun ws ρ st => ∃ (B4 : Bag) (fs : List (Int × Fc)) (num : Int) (x7 x8 : Option Wd), st = B4.ob :: (rest ++ [.lst ((fs.map pairT).map .v)]) ∧
    ρ = [some (.ref 0), some (.v (.int most)), some (.v (.int am)), some (.ref (rest.length + 1)), some (.v (.int num)), some (.v (.bl one)), some (.v (.int (5 + dd))), x7, x8] ∧ 0 ≤ num ∧ FsOk num fs ∧ ws.length + fs.length = am.toNat) ?_ ?_ _ _ _ ⟨B3, [], 0, none, none, rfl, rfl, Int.le_refl _, ⟨by simp, by simp, by simp⟩, by simpa using hlen⟩
  · rintro ρ st ⟨B4, fs, num, x7, x8, rfl, rfl, n0, hfs, hl⟩
    refine ⟨trivial, ?_⟩
    simp (maxSteps := 2000000) only [denS, den, Den.of, CE.cnt, CE.isNil, CO.f, BO.f, BI.den, wp_seq, wp_sIf, wp_tAnd, wp_tOr, wp_tNot, wp_tOf, wp_tCmp, wp_eBin, wp_eAnd, wp_eOr, wp_eNot, wp_eNeg, wp_eIte, wp_eSlc, wp_pNone, wp_pSome, wp_bYes, wp_asB, wp_eVar, wp_eT, wp_put, wp_asg, wp_gNam, wp_nil, wp_ret, wp_exp, wp_eApp, wp_lCons, wp_lNil, wp_ok, wp_bad, wp_nx, wp_rt, wp_bk, wp_ct, List.map_cons, List.map_nil, List.cons_append, List.nil_append, List.append_nil, List.replicate_succ, List.replicate_zero, Nat.reduceSub, List.getElem?_cons_zero, List.getElem?_cons_succ, List.set_cons_zero, List.set_cons_succ, Nat.reduceAdd, Nat.reduceLeDiff, allT_v, allT_nil, List.length_cons, List.length_nil, List.length_append, List.length_map, Nat.succ_eq_add_one, ite_true, ite_false, if_true, if_false, reduceIte, Bool.false_eq_true, decide_eq_true_eq, Bool.not_eq_true, Bool.not_eq_false, true_and, and_true, wp_bInt, wp_addI, wp_addT, wp_addL, wp_eqI, wp_eqB, wp_eqS, ixT0, ixL0, ixT1, ixL1, ixT2, ixL2, ixT3, ixL3, ixT4, ixL4, ixT5, ixL5, ixT6, ixL6, ixT7, ixL7, cutF1, cutU1, cutF2, cutU2, cutF3, cutU3, cutF4, cutU4, cutF5, cutU5, cutF6, cutU6, bag_0, bag_1, bag_2, bag_3, bagp_1, bagp_2, bagp_3, wp_slcT, wp_slcL, List.drop_succ_cons, List.drop_zero, List.take_succ_cons, List.take_zero, List.drop_nil, wp_in2, wp_inIT, wp_inIL, wp_app, wp_eBm, isW_last, wp_lstM, BMt.f, BMt.T, ofS_inj, strOk_lit, String.reduceEq, decide_false, decide_true, Bool.not_true, Bool.not_false, Bool.or_false, Bool.false_or, Bool.or_true, Bool.true_or, and_self, wp_eChn, wp_gTp, wp_gsCons, wp_gsNil, wp_isN, wipeE, List.getD_cons_zero, List.getD_cons_succ, Option.map_some, mk_tup, mk_lst, wp_len]
    exact close_last (hQ fs num B4 hfs (by simp at hl; omega))
  · rintro w ws ρ st ⟨B4, fs, num, x7, x8, rfl, rfl, n0, hfs, hl⟩
    refine ⟨trivial, ?_⟩
    simp only [List.length_cons] at hl
    simp (maxSteps := 2000000) only [denS, den, Den.of, CE.cnt, CE.isNil, CO.f, BO.f, BI.den, wp_seq, wp_sIf, wp_tAnd, wp_tOr, wp_tNot, wp_tOf, wp_tCmp, wp_eBin, wp_eAnd, wp_eOr, wp_eNot, wp_eNeg, wp_eIte, wp_eSlc, wp_pNone, wp_pSome, wp_bYes, wp_asB, wp_eVar, wp_eT, wp_put, wp_asg, wp_gNam, wp_nil, wp_ret, wp_exp, wp_eApp, wp_lCons, wp_lNil, wp_ok, wp_bad, wp_nx, wp_rt, wp_bk, wp_ct, List.map_cons, List.map_nil, List.cons_append, List.nil_append, List.append_nil, List.replicate_succ, List.replicate_zero, Nat.reduceSub, List.getElem?_cons_zero, List.getElem?_cons_succ, List.set_cons_zero, List.set_cons_succ, Nat.reduceAdd, Nat.reduceLeDiff, allT_v, allT_nil, List.length_cons, List.length_nil, List.length_append, List.length_map, Nat.succ_eq_add_one, ite_true, ite_false, if_true, if_false, reduceIte, Bool.false_eq_true, decide_eq_true_eq, Bool.not_eq_true, Bool.not_eq_false, true_and, and_true, wp_bInt, wp_addI, wp_addT, wp_addL, wp_eqI, wp_eqB, wp_eqS, ixT0, ixL0, ixT1, ixL1, ixT2, ixL2, ixT3, ixL3, ixT4, ixL4, ixT5, ixL5, ixT6, ixL6, ixT7, ixL7, cutF1, cutU1, cutF2, cutU2, cutF3, cutU3, cutF4, cutU4, cutF5, cutU5, cutF6, cutU6, bag_0, bag_1, bag_2, bag_3, bagp_1, bagp_2, bagp_3, wp_slcT, wp_slcL, List.drop_succ_cons, List.drop_zero, List.take_succ_cons, List.take_zero, List.drop_nil, wp_in2, wp_inIT, wp_inIL, wp_app, wp_eBm, isW_last, wp_lstM, BMt.f, BMt.T, ofS_inj, strOk_lit, String.reduceEq, decide_false, decide_true, Bool.not_true, Bool.not_false, Bool.or_false, Bool.false_or, Bool.or_true, Bool.true_or, and_self, wp_eChn, wp_gTp, wp_gsCons, wp_gsNil, wp_isN, wipeE, List.getD_cons_zero, List.getD_cons_succ, Option.map_some, mk_tup, mk_lst, wp_len]
    refine pull_lit (n := 6) (by decide) (by decide) fun r B5 d0 d1 => ?_
    simp (maxSteps := 2000000) only [wp_intB, denS, den, Den.of, CE.cnt, CE.isNil, CO.f, BO.f, BI.den, wp_seq, wp_sIf, wp_tAnd, wp_tOr, wp_tNot, wp_tOf, wp_tCmp, wp_eBin, wp_eAnd, wp_eOr, wp_eNot, wp_eNeg, wp_eIte, wp_eSlc, wp_pNone, wp_pSome, wp_bYes, wp_asB, wp_eVar, wp_eT, wp_put, wp_asg, wp_gNam, wp_nil, wp_ret, wp_exp, wp_eApp, wp_lCons, wp_lNil, wp_ok, wp_bad, wp_nx, wp_rt, wp_bk, wp_ct, List.map_cons, List.map_nil, List.cons_append, List.nil_append, List.append_nil, List.replicate_succ, List.replicate_zero, Nat.reduceSub, List.getElem?_cons_zero, List.getElem?_cons_succ, List.set_cons_zero, List.set_cons_succ, Nat.reduceAdd, Nat.reduceLeDiff, allT_v, allT_nil, List.length_cons, List.length_nil, List.length_append, List.length_map, Nat.succ_eq_add_one, ite_true, ite_false, if_true, if_false, reduceIte, Bool.false_eq_true, decide_eq_true_eq, Bool.not_eq_true, Bool.not_eq_false, true_and, and_true, wp_bInt, wp_addI, wp_addT, wp_addL, wp_eqI, wp_eqB, wp_eqS, ixT0, ixL0, ixT1, ixL1, ixT2, ixL2, ixT3, ixL3, ixT4, ixL4, ixT5, ixL5, ixT6, ixL6, ixT7, ixL7, cutF1, cutU1, cutF2, cutU2, cutF3, cutU3, cutF4, cutU4, cutF5, cutU5, cutF6, cutU6, bag_0, bag_1, bag_2, bag_3, bagp_1, bagp_2, bagp_3, wp_slcT, wp_slcL, List.drop_succ_cons, List.drop_zero, List.take_succ_cons, List.take_zero, List.drop_nil, wp_in2, wp_inIT, wp_inIL, wp_app, wp_eBm, isW_last, wp_lstM, BMt.f, BMt.T, ofS_inj, strOk_lit, String.reduceEq, decide_false, decide_true, Bool.not_true, Bool.not_false, Bool.or_false, Bool.false_or, Bool.or_true, Bool.true_or, and_self, wp_eChn, wp_gTp, wp_gsCons, wp_gsNil, wp_isN, wipeE, List.getD_cons_zero, List.getD_cons_succ, Option.map_some, mk_tup, mk_lst, wp_len]
    generalize hnum : (num + 1 + if r = 0 then 1 else 0) = num2
    have hn2 : num < num2 := by rw [← hnum]; split <;> omega
    refine fact_wp a0 (by omega) fun f B6 hf => ?_
    have few : fs.length < LINE := by
      have : fs.length ≤ 100 := by omega
      exact Nat.lt_of_le_of_lt this (by show 100 < sizeLine; rw [sizeLine_eq]; decide)
    have fin : ∀ f' : Fc, FOk f' → (fs.length < LINE ∧ ∃ (B4 : Bag) (fs_1 : List (Int × Fc)) (num3 : Int) (x7 x8 : Option Wd), B6.ob :: (rest ++ [Ob.lst (List.map Wd.v (List.map pairT fs) ++ [Wd.v (T.tup [T.int num2, f'.t])])]) = B4.ob :: (rest ++ [Ob.lst (List.map Wd.v (List.map pairT fs_1))]) ∧
        [some (Wd.ref 0), some (Wd.v (T.int most)), some (Wd.v (T.int am)), some (Wd.ref (List.length rest + 1)), some (Wd.v (T.int num2)), some (Wd.v (T.bl one)), some (Wd.v (T.int (5 + dd))), some w, some (Wd.v f'.t)] =
        [some (Wd.ref 0), some (Wd.v (T.int most)), some (Wd.v (T.int am)), some (Wd.ref (List.length rest + 1)), some (Wd.v (T.int num3)), some (Wd.v (T.bl one)), some (Wd.v (T.int (5 + dd))), x7, x8] ∧ 0 ≤ num3 ∧ FsOk num3 fs_1 ∧ ws.length + fs_1.length = am.toNat) := fun f' hf' =>
      ⟨few, B6, fs ++ [(num2, f')], num2, _, _, by simp [pairT], rfl, by omega, hfs.snoc n0 hn2 hf', by simp; omega⟩
    have L9 : ∀ n : Nat, n ≤ 1000 → n ≤ LINE := fun n h => small1000L h
    have em : ∀ d : Int, 0 ≤ d % (5 + dd + 2) ∧ d % (5 + dd + 2) ≤ 999 := fun d => ⟨Int.emod_nonneg _ (by omega), by have := Int.emod_lt_of_pos d (show (0 : Int) < 5 + dd + 2 by omega); omega⟩
    cases one with
    | false =>
      simp (maxSteps := 2000000) only [denS, den, Den.of, CE.cnt, CE.isNil, CO.f, BO.f, BI.den, wp_seq, wp_sIf, wp_tAnd, wp_tOr, wp_tNot, wp_tOf, wp_tCmp, wp_eBin, wp_eAnd, wp_eOr, wp_eNot, wp_eNeg, wp_eIte, wp_eSlc, wp_pNone, wp_pSome, wp_bYes, wp_asB, wp_eVar, wp_eT, wp_put, wp_asg, wp_gNam, wp_nil, wp_ret, wp_exp, wp_eApp, wp_lCons, wp_lNil, wp_ok, wp_bad, wp_nx, wp_rt, wp_bk, wp_ct, List.map_cons, List.map_nil, List.cons_append, List.nil_append, List.append_nil, List.replicate_succ, List.replicate_zero, Nat.reduceSub, List.getElem?_cons_zero, List.getElem?_cons_succ, List.set_cons_zero, List.set_cons_succ, Nat.reduceAdd, Nat.reduceLeDiff, allT_v, allT_nil, List.length_cons, List.length_nil, List.length_append, List.length_map, Nat.succ_eq_add_one, ite_true, ite_false, if_true, if_false, reduceIte, Bool.false_eq_true, decide_eq_true_eq, Bool.not_eq_true, Bool.not_eq_false, true_and, and_true, wp_bInt, wp_addI, wp_addT, wp_addL, wp_eqI, wp_eqB, wp_eqS, ixT0, ixL0, ixT1, ixL1, ixT2, ixL2, ixT3, ixL3, ixT4, ixL4, ixT5, ixL5, ixT6, ixL6, ixT7, ixL7, cutF1, cutU1, cutF2, cutU2, cutF3, cutU3, cutF4, cutU4, cutF5, cutU5, cutF6, cutU6, bag_0, bag_1, bag_2, bag_3, bagp_1, bagp_2, bagp_3, wp_slcT, wp_slcL, List.drop_succ_cons, List.drop_zero, List.take_succ_cons, List.take_zero, List.drop_nil, wp_in2, wp_inIT, wp_inIL, wp_app, wp_eBm, isW_last, wp_lstM, BMt.f, BMt.T, ofS_inj, strOk_lit, String.reduceEq, decide_false, decide_true, Bool.not_true, Bool.not_false, Bool.or_false, Bool.false_or, Bool.or_true, Bool.true_or, and_self, wp_eChn, wp_gTp, wp_gsCons, wp_gsNil, wp_isN, wipeE, List.getD_cons_zero, List.getD_cons_succ, Option.map_some, mk_tup, mk_lst, wp_len]
      exact fin f hf
    | true =>
      cases hf with
      | @pass d m g c h e0 e1 e2 e3 e4 e5 e6 e7 e8 e9 =>
        simp (maxSteps := 2000000) only [Fc.t, denS, den, Den.of, CE.cnt, CE.isNil, CO.f, BO.f, BI.den, wp_seq, wp_sIf, wp_tAnd, wp_tOr, wp_tNot, wp_tOf, wp_tCmp, wp_eBin, wp_eAnd, wp_eOr, wp_eNot, wp_eNeg, wp_eIte, wp_eSlc, wp_pNone, wp_pSome, wp_bYes, wp_asB, wp_eVar, wp_eT, wp_put, wp_asg, wp_gNam, wp_nil, wp_ret, wp_exp, wp_eApp, wp_lCons, wp_lNil, wp_ok, wp_bad, wp_nx, wp_rt, wp_bk, wp_ct, List.map_cons, List.map_nil, List.cons_append, List.nil_append, List.append_nil, List.replicate_succ, List.replicate_zero, Nat.reduceSub, List.getElem?_cons_zero, List.getElem?_cons_succ, List.set_cons_zero, List.set_cons_succ, Nat.reduceAdd, Nat.reduceLeDiff, allT_v, allT_nil, List.length_cons, List.length_nil, List.length_append, List.length_map, Nat.succ_eq_add_one, ite_true, ite_false, if_true, if_false, reduceIte, Bool.false_eq_true, decide_eq_true_eq, Bool.not_eq_true, Bool.not_eq_false, true_and, and_true, wp_bInt, wp_addI, wp_addT, wp_addL, wp_eqI, wp_eqB, wp_eqS, ixT0, ixL0, ixT1, ixL1, ixT2, ixL2, ixT3, ixL3, ixT4, ixL4, ixT5, ixL5, ixT6, ixL6, ixT7, ixL7, cutF1, cutU1, cutF2, cutU2, cutF3, cutU3, cutF4, cutU4, cutF5, cutU5, cutF6, cutU6, bag_0, bag_1, bag_2, bag_3, bagp_1, bagp_2, bagp_3, wp_slcT, wp_slcL, List.drop_succ_cons, List.drop_zero, List.take_succ_cons, List.take_zero, List.drop_nil, wp_in2, wp_inIT, wp_inIL, wp_app, wp_eBm, isW_last, wp_lstM, BMt.f, BMt.T, ofS_inj, strOk_lit, String.reduceEq, decide_false, decide_true, Bool.not_true, Bool.not_false, Bool.or_false, Bool.false_or, Bool.or_true, Bool.true_or, and_self, wp_eChn, wp_gTp, wp_gsCons, wp_gsNil, wp_isN, wipeE, List.getD_cons_zero, List.getD_cons_succ, Option.map_some, mk_tup, mk_lst, wp_len]
        exact ⟨by decide, L9 _ (by decide), fin ⟨"pass", 5 + dd, m, [.int g, .int (c % 2), .int h]⟩ (.pass (by omega) (by omega) e2 e3 e4 e5 (by omega) (by omega) e8 e9)⟩
      | @toll g d h e0 e1 e2 e3 e4 e5 =>
        simp (maxSteps := 2000000) only [Fc.t, denS, den, Den.of, CE.cnt, CE.isNil, CO.f, BO.f, BI.den, wp_seq, wp_sIf, wp_tAnd, wp_tOr, wp_tNot, wp_tOf, wp_tCmp, wp_eBin, wp_eAnd, wp_eOr, wp_eNot, wp_eNeg, wp_eIte, wp_eSlc, wp_pNone, wp_pSome, wp_bYes, wp_asB, wp_eVar, wp_eT, wp_put, wp_asg, wp_gNam, wp_nil, wp_ret, wp_exp, wp_eApp, wp_lCons, wp_lNil, wp_ok, wp_bad, wp_nx, wp_rt, wp_bk, wp_ct, List.map_cons, List.map_nil, List.cons_append, List.nil_append, List.append_nil, List.replicate_succ, List.replicate_zero, Nat.reduceSub, List.getElem?_cons_zero, List.getElem?_cons_succ, List.set_cons_zero, List.set_cons_succ, Nat.reduceAdd, Nat.reduceLeDiff, allT_v, allT_nil, List.length_cons, List.length_nil, List.length_append, List.length_map, Nat.succ_eq_add_one, ite_true, ite_false, if_true, if_false, reduceIte, Bool.false_eq_true, decide_eq_true_eq, Bool.not_eq_true, Bool.not_eq_false, true_and, and_true, wp_bInt, wp_addI, wp_addT, wp_addL, wp_eqI, wp_eqB, wp_eqS, ixT0, ixL0, ixT1, ixL1, ixT2, ixL2, ixT3, ixL3, ixT4, ixL4, ixT5, ixL5, ixT6, ixL6, ixT7, ixL7, cutF1, cutU1, cutF2, cutU2, cutF3, cutU3, cutF4, cutU4, cutF5, cutU5, cutF6, cutU6, bag_0, bag_1, bag_2, bag_3, bagp_1, bagp_2, bagp_3, wp_slcT, wp_slcL, List.drop_succ_cons, List.drop_zero, List.take_succ_cons, List.take_zero, List.drop_nil, wp_in2, wp_inIT, wp_inIL, wp_app, wp_eBm, isW_last, wp_lstM, BMt.f, BMt.T, ofS_inj, strOk_lit, String.reduceEq, decide_false, decide_true, Bool.not_true, Bool.not_false, Bool.or_false, Bool.false_or, Bool.or_true, Bool.true_or, and_self, wp_eChn, wp_gTp, wp_gsCons, wp_gsNil, wp_isN, wipeE, List.getD_cons_zero, List.getD_cons_succ, Option.map_some, mk_tup, mk_lst, wp_len]
        exact ⟨by omega, L9 _ (by decide), L9 _ (by decide), fin ⟨"toll", g, d % (5 + dd + 2), [.int h]⟩ (.toll e0 e1 (em d).1 (em d).2 e4 e5)⟩
      | @board g d gs e0 e1 e2 e3 e4 e5 =>
        simp (maxSteps := 2000000) only [Fc.t, denS, den, Den.of, CE.cnt, CE.isNil, CO.f, BO.f, BI.den, wp_seq, wp_sIf, wp_tAnd, wp_tOr, wp_tNot, wp_tOf, wp_tCmp, wp_eBin, wp_eAnd, wp_eOr, wp_eNot, wp_eNeg, wp_eIte, wp_eSlc, wp_pNone, wp_pSome, wp_bYes, wp_asB, wp_eVar, wp_eT, wp_put, wp_asg, wp_gNam, wp_nil, wp_ret, wp_exp, wp_eApp, wp_lCons, wp_lNil, wp_ok, wp_bad, wp_nx, wp_rt, wp_bk, wp_ct, List.map_cons, List.map_nil, List.cons_append, List.nil_append, List.append_nil, List.replicate_succ, List.replicate_zero, Nat.reduceSub, List.getElem?_cons_zero, List.getElem?_cons_succ, List.set_cons_zero, List.set_cons_succ, Nat.reduceAdd, Nat.reduceLeDiff, allT_v, allT_nil, List.length_cons, List.length_nil, List.length_append, List.length_map, Nat.succ_eq_add_one, ite_true, ite_false, if_true, if_false, reduceIte, Bool.false_eq_true, decide_eq_true_eq, Bool.not_eq_true, Bool.not_eq_false, true_and, and_true, wp_bInt, wp_addI, wp_addT, wp_addL, wp_eqI, wp_eqB, wp_eqS, ixT0, ixL0, ixT1, ixL1, ixT2, ixL2, ixT3, ixL3, ixT4, ixL4, ixT5, ixL5, ixT6, ixL6, ixT7, ixL7, cutF1, cutU1, cutF2, cutU2, cutF3, cutU3, cutF4, cutU4, cutF5, cutU5, cutF6, cutU6, bag_0, bag_1, bag_2, bag_3, bagp_1, bagp_2, bagp_3, wp_slcT, wp_slcL, List.drop_succ_cons, List.drop_zero, List.take_succ_cons, List.take_zero, List.drop_nil, wp_in2, wp_inIT, wp_inIL, wp_app, wp_eBm, isW_last, wp_lstM, BMt.f, BMt.T, ofS_inj, strOk_lit, String.reduceEq, decide_false, decide_true, Bool.not_true, Bool.not_false, Bool.or_false, Bool.false_or, Bool.or_true, Bool.true_or, and_self, wp_eChn, wp_gTp, wp_gsCons, wp_gsNil, wp_isN, wipeE, List.getD_cons_zero, List.getD_cons_succ, Option.map_some, mk_tup, mk_lst, wp_len]
        exact ⟨by omega, L9 _ (by decide), L9 _ (by decide), fin ⟨"board", g, d % (5 + dd + 2), [.tup (gs.map .int)]⟩ (.board e0 e1 (em d).1 (em d).2 e4 e5)⟩
      | @trust g d k e0 e1 e2 e3 e4 e5 =>
        simp (maxSteps := 2000000) only [Fc.t, denS, den, Den.of, CE.cnt, CE.isNil, CO.f, BO.f, BI.den, wp_seq, wp_sIf, wp_tAnd, wp_tOr, wp_tNot, wp_tOf, wp_tCmp, wp_eBin, wp_eAnd, wp_eOr, wp_eNot, wp_eNeg, wp_eIte, wp_eSlc, wp_pNone, wp_pSome, wp_bYes, wp_asB, wp_eVar, wp_eT, wp_put, wp_asg, wp_gNam, wp_nil, wp_ret, wp_exp, wp_eApp, wp_lCons, wp_lNil, wp_ok, wp_bad, wp_nx, wp_rt, wp_bk, wp_ct, List.map_cons, List.map_nil, List.cons_append, List.nil_append, List.append_nil, List.replicate_succ, List.replicate_zero, Nat.reduceSub, List.getElem?_cons_zero, List.getElem?_cons_succ, List.set_cons_zero, List.set_cons_succ, Nat.reduceAdd, Nat.reduceLeDiff, allT_v, allT_nil, List.length_cons, List.length_nil, List.length_append, List.length_map, Nat.succ_eq_add_one, ite_true, ite_false, if_true, if_false, reduceIte, Bool.false_eq_true, decide_eq_true_eq, Bool.not_eq_true, Bool.not_eq_false, true_and, and_true, wp_bInt, wp_addI, wp_addT, wp_addL, wp_eqI, wp_eqB, wp_eqS, ixT0, ixL0, ixT1, ixL1, ixT2, ixL2, ixT3, ixL3, ixT4, ixL4, ixT5, ixL5, ixT6, ixL6, ixT7, ixL7, cutF1, cutU1, cutF2, cutU2, cutF3, cutU3, cutF4, cutU4, cutF5, cutU5, cutF6, cutU6, bag_0, bag_1, bag_2, bag_3, bagp_1, bagp_2, bagp_3, wp_slcT, wp_slcL, List.drop_succ_cons, List.drop_zero, List.take_succ_cons, List.take_zero, List.drop_nil, wp_in2, wp_inIT, wp_inIL, wp_app, wp_eBm, isW_last, wp_lstM, BMt.f, BMt.T, ofS_inj, strOk_lit, String.reduceEq, decide_false, decide_true, Bool.not_true, Bool.not_false, Bool.or_false, Bool.false_or, Bool.or_true, Bool.true_or, and_self, wp_eChn, wp_gTp, wp_gsCons, wp_gsNil, wp_isN, wipeE, List.getD_cons_zero, List.getD_cons_succ, Option.map_some, mk_tup, mk_lst, wp_len]
        exact fin ⟨"trust", g, d, [.int k]⟩ (.trust e0 e1 e2 e3 e4 e5)
      | @folk c a b e0 e1 e2 e3 e4 e5 =>
        simp (maxSteps := 2000000) only [Fc.t, denS, den, Den.of, CE.cnt, CE.isNil, CO.f, BO.f, BI.den, wp_seq, wp_sIf, wp_tAnd, wp_tOr, wp_tNot, wp_tOf, wp_tCmp, wp_eBin, wp_eAnd, wp_eOr, wp_eNot, wp_eNeg, wp_eIte, wp_eSlc, wp_pNone, wp_pSome, wp_bYes, wp_asB, wp_eVar, wp_eT, wp_put, wp_asg, wp_gNam, wp_nil, wp_ret, wp_exp, wp_eApp, wp_lCons, wp_lNil, wp_ok, wp_bad, wp_nx, wp_rt, wp_bk, wp_ct, List.map_cons, List.map_nil, List.cons_append, List.nil_append, List.append_nil, List.replicate_succ, List.replicate_zero, Nat.reduceSub, List.getElem?_cons_zero, List.getElem?_cons_succ, List.set_cons_zero, List.set_cons_succ, Nat.reduceAdd, Nat.reduceLeDiff, allT_v, allT_nil, List.length_cons, List.length_nil, List.length_append, List.length_map, Nat.succ_eq_add_one, ite_true, ite_false, if_true, if_false, reduceIte, Bool.false_eq_true, decide_eq_true_eq, Bool.not_eq_true, Bool.not_eq_false, true_and, and_true, wp_bInt, wp_addI, wp_addT, wp_addL, wp_eqI, wp_eqB, wp_eqS, ixT0, ixL0, ixT1, ixL1, ixT2, ixL2, ixT3, ixL3, ixT4, ixL4, ixT5, ixL5, ixT6, ixL6, ixT7, ixL7, cutF1, cutU1, cutF2, cutU2, cutF3, cutU3, cutF4, cutU4, cutF5, cutU5, cutF6, cutU6, bag_0, bag_1, bag_2, bag_3, bagp_1, bagp_2, bagp_3, wp_slcT, wp_slcL, List.drop_succ_cons, List.drop_zero, List.take_succ_cons, List.take_zero, List.drop_nil, wp_in2, wp_inIT, wp_inIL, wp_app, wp_eBm, isW_last, wp_lstM, BMt.f, BMt.T, ofS_inj, strOk_lit, String.reduceEq, decide_false, decide_true, Bool.not_true, Bool.not_false, Bool.or_false, Bool.false_or, Bool.or_true, Bool.true_or, and_self, wp_eChn, wp_gTp, wp_gsCons, wp_gsNil, wp_isN, wipeE, List.getD_cons_zero, List.getD_cons_succ, Option.map_some, mk_tup, mk_lst, wp_len]
        exact fin ⟨"folk", c, a, [.int b]⟩ (.folk e0 e1 e2 e3 e4 e5)
      | @bargain g c a b e0 e1 e2 e3 e4 e5 e6 e7 =>
        simp (maxSteps := 2000000) only [Fc.t, denS, den, Den.of, CE.cnt, CE.isNil, CO.f, BO.f, BI.den, wp_seq, wp_sIf, wp_tAnd, wp_tOr, wp_tNot, wp_tOf, wp_tCmp, wp_eBin, wp_eAnd, wp_eOr, wp_eNot, wp_eNeg, wp_eIte, wp_eSlc, wp_pNone, wp_pSome, wp_bYes, wp_asB, wp_eVar, wp_eT, wp_put, wp_asg, wp_gNam, wp_nil, wp_ret, wp_exp, wp_eApp, wp_lCons, wp_lNil, wp_ok, wp_bad, wp_nx, wp_rt, wp_bk, wp_ct, List.map_cons, List.map_nil, List.cons_append, List.nil_append, List.append_nil, List.replicate_succ, List.replicate_zero, Nat.reduceSub, List.getElem?_cons_zero, List.getElem?_cons_succ, List.set_cons_zero, List.set_cons_succ, Nat.reduceAdd, Nat.reduceLeDiff, allT_v, allT_nil, List.length_cons, List.length_nil, List.length_append, List.length_map, Nat.succ_eq_add_one, ite_true, ite_false, if_true, if_false, reduceIte, Bool.false_eq_true, decide_eq_true_eq, Bool.not_eq_true, Bool.not_eq_false, true_and, and_true, wp_bInt, wp_addI, wp_addT, wp_addL, wp_eqI, wp_eqB, wp_eqS, ixT0, ixL0, ixT1, ixL1, ixT2, ixL2, ixT3, ixL3, ixT4, ixL4, ixT5, ixL5, ixT6, ixL6, ixT7, ixL7, cutF1, cutU1, cutF2, cutU2, cutF3, cutU3, cutF4, cutU4, cutF5, cutU5, cutF6, cutU6, bag_0, bag_1, bag_2, bag_3, bagp_1, bagp_2, bagp_3, wp_slcT, wp_slcL, List.drop_succ_cons, List.drop_zero, List.take_succ_cons, List.take_zero, List.drop_nil, wp_in2, wp_inIT, wp_inIL, wp_app, wp_eBm, isW_last, wp_lstM, BMt.f, BMt.T, ofS_inj, strOk_lit, String.reduceEq, decide_false, decide_true, Bool.not_true, Bool.not_false, Bool.or_false, Bool.false_or, Bool.or_true, Bool.true_or, and_self, wp_eChn, wp_gTp, wp_gsCons, wp_gsNil, wp_isN, wipeE, List.getD_cons_zero, List.getD_cons_succ, Option.map_some, mk_tup, mk_lst, wp_len]
        exact fin ⟨"bargain", g, c, [.int a, .int b]⟩ (.bargain e0 e1 e2 e3 e4 e5 e6 e7)
      | @lost n m e0 e1 e2 =>
        simp (maxSteps := 2000000) only [Fc.t, denS, den, Den.of, CE.cnt, CE.isNil, CO.f, BO.f, BI.den, wp_seq, wp_sIf, wp_tAnd, wp_tOr, wp_tNot, wp_tOf, wp_tCmp, wp_eBin, wp_eAnd, wp_eOr, wp_eNot, wp_eNeg, wp_eIte, wp_eSlc, wp_pNone, wp_pSome, wp_bYes, wp_asB, wp_eVar, wp_eT, wp_put, wp_asg, wp_gNam, wp_nil, wp_ret, wp_exp, wp_eApp, wp_lCons, wp_lNil, wp_ok, wp_bad, wp_nx, wp_rt, wp_bk, wp_ct, List.map_cons, List.map_nil, List.cons_append, List.nil_append, List.append_nil, List.replicate_succ, List.replicate_zero, Nat.reduceSub, List.getElem?_cons_zero, List.getElem?_cons_succ, List.set_cons_zero, List.set_cons_succ, Nat.reduceAdd, Nat.reduceLeDiff, allT_v, allT_nil, List.length_cons, List.length_nil, List.length_append, List.length_map, Nat.succ_eq_add_one, ite_true, ite_false, if_true, if_false, reduceIte, Bool.false_eq_true, decide_eq_true_eq, Bool.not_eq_true, Bool.not_eq_false, true_and, and_true, wp_bInt, wp_addI, wp_addT, wp_addL, wp_eqI, wp_eqB, wp_eqS, ixT0, ixL0, ixT1, ixL1, ixT2, ixL2, ixT3, ixL3, ixT4, ixL4, ixT5, ixL5, ixT6, ixL6, ixT7, ixL7, cutF1, cutU1, cutF2, cutU2, cutF3, cutU3, cutF4, cutU4, cutF5, cutU5, cutF6, cutU6, bag_0, bag_1, bag_2, bag_3, bagp_1, bagp_2, bagp_3, wp_slcT, wp_slcL, List.drop_succ_cons, List.drop_zero, List.take_succ_cons, List.take_zero, List.drop_nil, wp_in2, wp_inIT, wp_inIL, wp_app, wp_eBm, isW_last, wp_lstM, BMt.f, BMt.T, ofS_inj, strOk_lit, String.reduceEq, decide_false, decide_true, Bool.not_true, Bool.not_false, Bool.or_false, Bool.false_or, Bool.or_true, Bool.true_or, and_self, wp_eChn, wp_gTp, wp_gsCons, wp_gsNil, wp_isN, wipeE, List.getD_cons_zero, List.getD_cons_succ, Option.map_some, mk_tup, mk_lst, wp_len]
        exact fin ⟨"lost", n, m, []⟩ (.lost e0 e1 e2)
      | @paid c d k e0 e1 e2 e3 e4 e5 =>
        simp (maxSteps := 2000000) only [Fc.t, denS, den, Den.of, CE.cnt, CE.isNil, CO.f, BO.f, BI.den, wp_seq, wp_sIf, wp_tAnd, wp_tOr, wp_tNot, wp_tOf, wp_tCmp, wp_eBin, wp_eAnd, wp_eOr, wp_eNot, wp_eNeg, wp_eIte, wp_eSlc, wp_pNone, wp_pSome, wp_bYes, wp_asB, wp_eVar, wp_eT, wp_put, wp_asg, wp_gNam, wp_nil, wp_ret, wp_exp, wp_eApp, wp_lCons, wp_lNil, wp_ok, wp_bad, wp_nx, wp_rt, wp_bk, wp_ct, List.map_cons, List.map_nil, List.cons_append, List.nil_append, List.append_nil, List.replicate_succ, List.replicate_zero, Nat.reduceSub, List.getElem?_cons_zero, List.getElem?_cons_succ, List.set_cons_zero, List.set_cons_succ, Nat.reduceAdd, Nat.reduceLeDiff, allT_v, allT_nil, List.length_cons, List.length_nil, List.length_append, List.length_map, Nat.succ_eq_add_one, ite_true, ite_false, if_true, if_false, reduceIte, Bool.false_eq_true, decide_eq_true_eq, Bool.not_eq_true, Bool.not_eq_false, true_and, and_true, wp_bInt, wp_addI, wp_addT, wp_addL, wp_eqI, wp_eqB, wp_eqS, ixT0, ixL0, ixT1, ixL1, ixT2, ixL2, ixT3, ixL3, ixT4, ixL4, ixT5, ixL5, ixT6, ixL6, ixT7, ixL7, cutF1, cutU1, cutF2, cutU2, cutF3, cutU3, cutF4, cutU4, cutF5, cutU5, cutF6, cutU6, bag_0, bag_1, bag_2, bag_3, bagp_1, bagp_2, bagp_3, wp_slcT, wp_slcL, List.drop_succ_cons, List.drop_zero, List.take_succ_cons, List.take_zero, List.drop_nil, wp_in2, wp_inIT, wp_inIL, wp_app, wp_eBm, isW_last, wp_lstM, BMt.f, BMt.T, ofS_inj, strOk_lit, String.reduceEq, decide_false, decide_true, Bool.not_true, Bool.not_false, Bool.or_false, Bool.false_or, Bool.or_true, Bool.true_or, and_self, wp_eChn, wp_gTp, wp_gsCons, wp_gsNil, wp_isN, wipeE, List.getD_cons_zero, List.getD_cons_succ, Option.map_some, mk_tup, mk_lst, wp_len]
        exact fin ⟨"paid", c, d, [.int k]⟩ (.paid e0 e1 e2 e3 e4 e5)
end DM

set_option Elab.async false
set_option linter.all false
set_option maxRecDepth 100000
set_option maxHeartbeats 4000000
/-! DV: what holds on a day. -/
namespace DM
open PySem PySem.Spec PyProof.Rows DL
open Classical

theorem FOk.sok {f : Fc} (h : FOk f) : PyData.strOk f.w = true := by cases h <;> exact strOk_lit _
theorem close_same {st : Sto} {Q : Wd → Sto → Prop} {t : T} (h : Q (.v t) st) : Close st Q (.v t) st :=
  ⟨⟨Nat.le_refl _, fun i o hi e => .inl e⟩, _, rfl, by rw [List.take_length]; exact h⟩
/-- the facts of a word, a gate, by a day -/
def cand (fs : List (Int × Fc)) (w : Str) (g d : Int) : List (Int × Fc) := fs.filter fun p => decide (p.2.w = w) && (decide (p.2.a = g) && decide (p.2.b ≤ d))
def lexLe (q p : Int × Fc) : Prop := q.2.b < p.2.b ∨ (q.2.b = p.2.b ∧ q.1 ≤ p.1)
/-- the last of the latest -/
def Top (fs : List (Int × Fc)) (w : Str) (g d : Int) (p : Int × Fc) : Prop := p ∈ cand fs w g d ∧ ∀ q ∈ cand fs w g d, lexLe q p
def r0 (f : Fc) : T := f.r.headD .non
theorem num_inj {top : Int} {fs : List (Int × Fc)} (h : FsOk top fs) {p q : Int × Fc} (hp : p ∈ fs) (hq : q ∈ fs) (e : p.1 = q.1) : p = q := by
  have := h.pw
  clear h
  induction fs with
  | nil => cases hp
  | cons x r ih =>
    rw [List.map_cons, List.pairwise_cons] at this
    rcases List.mem_cons.mp hp with e1 | h1
    · rcases List.mem_cons.mp hq with e2 | h2
      · rw [e1, e2]
      · have := this.1 _ (List.mem_map.mpr ⟨_, h2, rfl⟩); rw [e1] at e; omega
    · rcases List.mem_cons.mp hq with e2 | h2
      · have := this.1 _ (List.mem_map.mpr ⟨_, h1, rfl⟩); rw [e2] at e; omega
      · exact ih h1 h2 this.2
theorem cand_sub {fs : List (Int × Fc)} {w : Str} {g d : Int} {p : Int × Fc} (h : p ∈ cand fs w g d) : p ∈ fs ∧ p.2.w = w ∧ p.2.a = g ∧ p.2.b ≤ d := by
  have z := List.mem_filter.mp h
  refine ⟨z.1, ?_⟩
  have := z.2
  simpa using this
theorem Top.uniq {top : Int} {fs : List (Int × Fc)} (h : FsOk top fs) {w : Str} {g d : Int} {p q : Int × Fc} (hp : Top fs w g d p) (hq : Top fs w g d q) : p = q := by
  have a := hp.2 q hq.1
  have b := hq.2 p hp.1
  unfold lexLe at a b
  exact num_inj h (cand_sub hp.1).1 (cand_sub hq.1).1 (by omega)
/-! ### the greatest pair -/
def rowT (p : Int × Fc) : T := .tup [.int p.2.b, .int p.1]
theorem ltT_row (p q : Int × Fc) : ltT (rowT p) (rowT q) = decide (p.2.b < q.2.b ∨ (p.2.b = q.2.b ∧ p.1 < q.1)) := PySem.W.dataLt_ii _ _ _ _
theorem maxT_rows : ∀ (xs : List (Int × Fc)) (x : Int × Fc), ∃ p ∈ x :: xs, maxT (rowT x) (xs.map rowT) = rowT p ∧ ∀ q ∈ x :: xs, lexLe q p
  | [], x => ⟨x, by simp, rfl, fun q hq => by
      have := List.mem_singleton.mp hq
      subst this
      exact .inr ⟨rfl, Int.le_refl _⟩⟩
  | y :: ys, x => by
    show ∃ p ∈ x :: y :: ys, maxT (if ltT (rowT x) (rowT y) = true then rowT y else rowT x) (ys.map rowT) = rowT p ∧ _
    rw [ltT_row]
    by_cases h : x.2.b < y.2.b ∨ (x.2.b = y.2.b ∧ x.1 < y.1)
    · rw [if_pos (decide_eq_true h)]
      obtain ⟨p, hp, e, hq⟩ := maxT_rows ys y
      refine ⟨p, List.mem_cons_of_mem _ hp, e, fun q hm => ?_⟩
      rcases List.mem_cons.mp hm with rfl | hm
      · have := hq y (List.mem_cons_self ..)
        unfold lexLe at this ⊢
        omega
      · exact hq q hm
    · rw [if_neg (by simpa using h)]
      obtain ⟨p, hp, e, hq⟩ := maxT_rows ys x
      refine ⟨p, ?_, e, fun q hm => ?_⟩
      · rcases List.mem_cons.mp hp with rfl | hp
        · exact List.mem_cons_self ..
        · exact List.mem_cons_of_mem _ (List.mem_cons_of_mem _ hp)
      · rcases List.mem_cons.mp hm with rfl | hm
        · exact hq q (List.mem_cons_self ..)
        · rcases List.mem_cons.mp hm with rfl | hm
          · have := hq x (List.mem_cons_self ..)
            unfold lexLe at this ⊢
            omega
          · exact hq q (List.mem_cons_of_mem _ hm)
theorem dataOk_rows (xs : List (Int × Fc)) : DataOk (xs.map rowT) := by
  refine ⟨fun t ht => ?_, ⟨fun a ha b hb => ?_, fun a ha => ?_⟩, fun t ht => ?_⟩
  · obtain ⟨p, _, rfl⟩ := List.mem_map.mp ht; rfl
  · obtain ⟨t, ht, rfl⟩ := List.mem_map.mp ha
    obtain ⟨p, _, rfl⟩ := List.mem_map.mp ht
    obtain ⟨t, ht, rfl⟩ := List.mem_map.mp hb
    obtain ⟨q, _, rfl⟩ := List.mem_map.mp ht
    rfl
  · obtain ⟨t, ht, rfl⟩ := List.mem_map.mp ha
    obtain ⟨p, _, rfl⟩ := List.mem_map.mp ht
    intro z; cases z
  · obtain ⟨p, _, rfl⟩ := List.mem_map.mp ht
    show (PyData.tuple [.int p.2.b, .int p.1]).depth < 64
    simp [PyData.depth, PyData.depthAll]

theorem fBestD_rows {xs : List (Int × Fc)} {d : Wd} {st : Sto} {Q : Wd → Sto → Prop} {E : Exn → Sto → Prop} (h0 : xs = [] → Q d st) (h1 : ∀ p ∈ xs, (∀ q ∈ xs, lexLe q p) → Q (.v (rowT p)) st) : (fBestD true [.v (.lst (xs.map rowT)), d] st).wp Q E := by
  cases xs with
  | nil =>
    have e : fBestD true [.v (.lst []), d] st = .ok d st := by simp [fBestD]
    show (fBestD true [.v (.lst []), d] st).wp Q E
    rw [e]
    exact h0 rfl
  | cons x xs =>
    have e : fBestD true [.v (.lst ((x :: xs).map rowT)), d] st = .ok (.v (maxT (rowT x) (xs.map rowT))) st := by
      unfold fBestD
      simp only [tsL_v, List.map_cons]
      rw [if_pos (show DataOk (rowT x :: xs.map rowT) from dataOk_rows (x :: xs)), if_pos trivial]
    rw [e]
    obtain ⟨p, hp, ep, hq⟩ := maxT_rows xs x
    rw [ep]
    exact h1 p hp hq
def RestOk (fs : List (Int × Fc)) (w : Str) : Prop := ∀ p ∈ fs, p.2.w = w → ∃ u, p.2.r = r0 p.2 :: u
theorem in_force_wp {top : Int} {fs : List (Int × Fc)} {w : Str} {g d : Int} {st : Sto} {Q : Wd → Sto → Prop} {E : Exn → Sto → Prop} (hf : FsOk top fs) (hl : fs.length ≤ 100) (hw : PyData.strOk w = true) (hr : RestOk fs w)
    (h0 : cand fs w g d = [] → Q (.v .non) st) (h1 : ∀ p, Top fs w g d p → Q (.v (r0 p.2)) st) :
    (m_in_force [.v (.lst (fs.map pairT)), .v (.str w), .v (.int g), .v (.int d)] st).wp Q E := by
  unfold m_in_force
  refine wp_run rfl ?_
  simp (maxSteps := 2000000) only [c_in_force, tb_in_force, wp_eCmp, iOf, wp_bind, wIter, denS, den, Den.of, CE.cnt, CE.isNil, CO.f, BO.f, BI.den, wp_seq, wp_sIf, wp_tAnd, wp_tOr, wp_tNot, wp_tOf, wp_tCmp, wp_eBin, wp_eAnd, wp_eOr, wp_eNot, wp_eNeg, wp_eIte, wp_eSlc, wp_pNone, wp_pSome, wp_bYes, wp_asB, wp_eVar, wp_eT, wp_put, wp_asg, wp_gNam, wp_nil, wp_ret, wp_exp, wp_eApp, wp_lCons, wp_lNil, wp_ok, wp_bad, wp_nx, wp_rt, wp_bk, wp_ct, List.map_cons, List.map_nil, List.cons_append, List.nil_append, List.append_nil, List.replicate_succ, List.replicate_zero, Nat.reduceSub, List.getElem?_cons_zero, List.getElem?_cons_succ, List.set_cons_zero, List.set_cons_succ, Nat.reduceAdd, Nat.reduceLeDiff, allT_v, allT_nil, List.length_cons, List.length_nil, List.length_append, List.length_map, Nat.succ_eq_add_one, ite_true, ite_false, if_true, if_false, reduceIte, Bool.false_eq_true, decide_eq_true_eq, Bool.not_eq_true, Bool.not_eq_false, true_and, and_true, wp_bInt, wp_addI, wp_addT, wp_addL, wp_eqI, wp_eqB, wp_eqS, ixT0, ixL0, ixT1, ixL1, ixT2, ixL2, ixT3, ixL3, ixT4, ixL4, ixT5, ixL5, ixT6, ixL6, ixT7, ixL7, cutF1, cutU1, cutF2, cutU2, cutF3, cutU3, cutF4, cutU4, cutF5, cutU5, cutF6, cutU6, bag_0, bag_1, bag_2, bag_3, bagp_1, bagp_2, bagp_3, wp_slcT, wp_slcL, List.drop_succ_cons, List.drop_zero, List.take_succ_cons, List.take_zero, List.drop_nil, wp_in2, wp_inIT, wp_inIL, wp_app, wp_eBm, isW_last, wp_lstM, BMt.f, BMt.T, ofS_inj, strOk_lit, String.reduceEq, decide_false, decide_true, Bool.not_true, Bool.not_false, Bool.or_false, Bool.false_or, Bool.or_true, Bool.true_or, and_self, wp_eChn, wp_gTp, wp_gsCons, wp_gsNil, wp_isN, wipeE, List.getD_cons_zero, List.getD_cons_succ, Option.map_some, mk_tup, mk_lst, wp_len]
  refine wp_cmpL (I := fun ws acc st1 => st1 = st ∧ ∃ ys zs : List (Int × Fc), fs = ys ++ zs ∧ ws = (zs.map pairT).map Wd.v ∧ acc = ((cand ys w g d).map rowT).map Wd.v) ?_ ?_ _ _ _ ⟨rfl, [], fs, rfl, rfl, rfl⟩
  · rintro acc st1 ⟨rfl, ys, zs, e1, e2, rfl⟩
    refine ⟨trivial, ?_⟩
    have : zs = [] := by simpa using e2
    subst this
    simp only [List.append_nil] at e1
    subst e1
    simp (maxSteps := 2000000) only [frzL_ts, denS, den, Den.of, CE.cnt, CE.isNil, CO.f, BO.f, BI.den, wp_seq, wp_sIf, wp_tAnd, wp_tOr, wp_tNot, wp_tOf, wp_tCmp, wp_eBin, wp_eAnd, wp_eOr, wp_eNot, wp_eNeg, wp_eIte, wp_eSlc, wp_pNone, wp_pSome, wp_bYes, wp_asB, wp_eVar, wp_eT, wp_put, wp_asg, wp_gNam, wp_nil, wp_ret, wp_exp, wp_eApp, wp_lCons, wp_lNil, wp_ok, wp_bad, wp_nx, wp_rt, wp_bk, wp_ct, List.map_cons, List.map_nil, List.cons_append, List.nil_append, List.append_nil, List.replicate_succ, List.replicate_zero, Nat.reduceSub, List.getElem?_cons_zero, List.getElem?_cons_succ, List.set_cons_zero, List.set_cons_succ, Nat.reduceAdd, Nat.reduceLeDiff, allT_v, allT_nil, List.length_cons, List.length_nil, List.length_append, List.length_map, Nat.succ_eq_add_one, ite_true, ite_false, if_true, if_false, reduceIte, Bool.false_eq_true, decide_eq_true_eq, Bool.not_eq_true, Bool.not_eq_false, true_and, and_true, wp_bInt, wp_addI, wp_addT, wp_addL, wp_eqI, wp_eqB, wp_eqS, ixT0, ixL0, ixT1, ixL1, ixT2, ixL2, ixT3, ixL3, ixT4, ixL4, ixT5, ixL5, ixT6, ixL6, ixT7, ixL7, cutF1, cutU1, cutF2, cutU2, cutF3, cutU3, cutF4, cutU4, cutF5, cutU5, cutF6, cutU6, bag_0, bag_1, bag_2, bag_3, bagp_1, bagp_2, bagp_3, wp_slcT, wp_slcL, List.drop_succ_cons, List.drop_zero, List.take_succ_cons, List.take_zero, List.drop_nil, wp_in2, wp_inIT, wp_inIL, wp_app, wp_eBm, isW_last, wp_lstM, BMt.f, BMt.T, ofS_inj, strOk_lit, String.reduceEq, decide_false, decide_true, Bool.not_true, Bool.not_false, Bool.or_false, Bool.false_or, Bool.or_true, Bool.true_or, and_self, wp_eChn, wp_gTp, wp_gsCons, wp_gsNil, wp_isN, wipeE, List.getD_cons_zero, List.getD_cons_succ, Option.map_some, mk_tup, mk_lst, wp_len]
    refine fBestD_rows (fun hc => ?_) fun p hp hq => ?_
    · simp (maxSteps := 2000000) only [wp_sFor, iOf, wp_bind, wIter, denS, den, Den.of, CE.cnt, CE.isNil, CO.f, BO.f, BI.den, wp_seq, wp_sIf, wp_tAnd, wp_tOr, wp_tNot, wp_tOf, wp_tCmp, wp_eBin, wp_eAnd, wp_eOr, wp_eNot, wp_eNeg, wp_eIte, wp_eSlc, wp_pNone, wp_pSome, wp_bYes, wp_asB, wp_eVar, wp_eT, wp_put, wp_asg, wp_gNam, wp_nil, wp_ret, wp_exp, wp_eApp, wp_lCons, wp_lNil, wp_ok, wp_bad, wp_nx, wp_rt, wp_bk, wp_ct, List.map_cons, List.map_nil, List.cons_append, List.nil_append, List.append_nil, List.replicate_succ, List.replicate_zero, Nat.reduceSub, List.getElem?_cons_zero, List.getElem?_cons_succ, List.set_cons_zero, List.set_cons_succ, Nat.reduceAdd, Nat.reduceLeDiff, allT_v, allT_nil, List.length_cons, List.length_nil, List.length_append, List.length_map, Nat.succ_eq_add_one, ite_true, ite_false, if_true, if_false, reduceIte, Bool.false_eq_true, decide_eq_true_eq, Bool.not_eq_true, Bool.not_eq_false, true_and, and_true, wp_bInt, wp_addI, wp_addT, wp_addL, wp_eqI, wp_eqB, wp_eqS, ixT0, ixL0, ixT1, ixL1, ixT2, ixL2, ixT3, ixL3, ixT4, ixL4, ixT5, ixL5, ixT6, ixL6, ixT7, ixL7, cutF1, cutU1, cutF2, cutU2, cutF3, cutU3, cutF4, cutU4, cutF5, cutU5, cutF6, cutU6, bag_0, bag_1, bag_2, bag_3, bagp_1, bagp_2, bagp_3, wp_slcT, wp_slcL, List.drop_succ_cons, List.drop_zero, List.take_succ_cons, List.take_zero, List.drop_nil, wp_in2, wp_inIT, wp_inIL, wp_app, wp_eBm, isW_last, wp_lstM, BMt.f, BMt.T, ofS_inj, strOk_lit, String.reduceEq, decide_false, decide_true, Bool.not_true, Bool.not_false, Bool.or_false, Bool.false_or, Bool.or_true, Bool.true_or, and_self, wp_eChn, wp_gTp, wp_gsCons, wp_gsNil, wp_isN, wipeE, List.getD_cons_zero, List.getD_cons_succ, Option.map_some, mk_tup, mk_lst, wp_len]
      refine wp_forL (I := fun ws ρ st2 => st2 = st1 ∧ ∃ (zs : List (Int × Fc)) (x7 x8 : Option Wd), (∀ q ∈ zs, q ∈ fs) ∧ ws = (zs.map pairT).map Wd.v ∧ ρ = [some (.v (.lst (fs.map pairT))), some (.v (.str w)), some (.v (.int g)), some (.v (.int d)), some (.v (.lst ((cand fs w g d).map rowT))), some (.v (.int 0)), some (.v (.int 0)), x7, x8]) ?_ ?_ _ _ _ ⟨rfl, fs, none, none, fun _ h => h, rfl, rfl⟩
      · rintro ρ st2 ⟨rfl, zs, x7, x8, hz, e2, rfl⟩
        exact ⟨trivial, close_same (h0 hc)⟩
      · rintro x ws ρ st2 ⟨rfl, zs, x7, x8, hz, e2, rfl⟩
        refine ⟨trivial, ?_⟩
        cases zs with
        | nil => cases e2
        | cons p zs =>
          simp only [List.map_cons, List.cons.injEq] at e2
          obtain ⟨rfl, rfl⟩ := e2
          have lo := (hf.lo p (hz p (List.mem_cons_self ..))).1
          simp (maxSteps := 2000000) only [pairT, denS, den, Den.of, CE.cnt, CE.isNil, CO.f, BO.f, BI.den, wp_seq, wp_sIf, wp_tAnd, wp_tOr, wp_tNot, wp_tOf, wp_tCmp, wp_eBin, wp_eAnd, wp_eOr, wp_eNot, wp_eNeg, wp_eIte, wp_eSlc, wp_pNone, wp_pSome, wp_bYes, wp_asB, wp_eVar, wp_eT, wp_put, wp_asg, wp_gNam, wp_nil, wp_ret, wp_exp, wp_eApp, wp_lCons, wp_lNil, wp_ok, wp_bad, wp_nx, wp_rt, wp_bk, wp_ct, List.map_cons, List.map_nil, List.cons_append, List.nil_append, List.append_nil, List.replicate_succ, List.replicate_zero, Nat.reduceSub, List.getElem?_cons_zero, List.getElem?_cons_succ, List.set_cons_zero, List.set_cons_succ, Nat.reduceAdd, Nat.reduceLeDiff, allT_v, allT_nil, List.length_cons, List.length_nil, List.length_append, List.length_map, Nat.succ_eq_add_one, ite_true, ite_false, if_true, if_false, reduceIte, Bool.false_eq_true, decide_eq_true_eq, Bool.not_eq_true, Bool.not_eq_false, true_and, and_true, wp_bInt, wp_addI, wp_addT, wp_addL, wp_eqI, wp_eqB, wp_eqS, ixT0, ixL0, ixT1, ixL1, ixT2, ixL2, ixT3, ixL3, ixT4, ixL4, ixT5, ixL5, ixT6, ixL6, ixT7, ixL7, cutF1, cutU1, cutF2, cutU2, cutF3, cutU3, cutF4, cutU4, cutF5, cutU5, cutF6, cutU6, bag_0, bag_1, bag_2, bag_3, bagp_1, bagp_2, bagp_3, wp_slcT, wp_slcL, List.drop_succ_cons, List.drop_zero, List.take_succ_cons, List.take_zero, List.drop_nil, wp_in2, wp_inIT, wp_inIL, wp_app, wp_eBm, isW_last, wp_lstM, BMt.f, BMt.T, ofS_inj, strOk_lit, String.reduceEq, decide_false, decide_true, Bool.not_true, Bool.not_false, Bool.or_false, Bool.false_or, Bool.or_true, Bool.true_or, and_self, wp_eChn, wp_gTp, wp_gsCons, wp_gsNil, wp_isN, wipeE, List.getD_cons_zero, List.getD_cons_succ, Option.map_some, mk_tup, mk_lst, wp_len]
          rw [if_neg (by omega)]
          exact ⟨zs, _, _, fun q hq => hz q (List.mem_cons_of_mem _ hq), rfl, rfl⟩
    · have hp2 := cand_sub hp
      simp (maxSteps := 2000000) only [wp_sFor, iOf, wp_bind, wIter, rowT, denS, den, Den.of, CE.cnt, CE.isNil, CO.f, BO.f, BI.den, wp_seq, wp_sIf, wp_tAnd, wp_tOr, wp_tNot, wp_tOf, wp_tCmp, wp_eBin, wp_eAnd, wp_eOr, wp_eNot, wp_eNeg, wp_eIte, wp_eSlc, wp_pNone, wp_pSome, wp_bYes, wp_asB, wp_eVar, wp_eT, wp_put, wp_asg, wp_gNam, wp_nil, wp_ret, wp_exp, wp_eApp, wp_lCons, wp_lNil, wp_ok, wp_bad, wp_nx, wp_rt, wp_bk, wp_ct, List.map_cons, List.map_nil, List.cons_append, List.nil_append, List.append_nil, List.replicate_succ, List.replicate_zero, Nat.reduceSub, List.getElem?_cons_zero, List.getElem?_cons_succ, List.set_cons_zero, List.set_cons_succ, Nat.reduceAdd, Nat.reduceLeDiff, allT_v, allT_nil, List.length_cons, List.length_nil, List.length_append, List.length_map, Nat.succ_eq_add_one, ite_true, ite_false, if_true, if_false, reduceIte, Bool.false_eq_true, decide_eq_true_eq, Bool.not_eq_true, Bool.not_eq_false, true_and, and_true, wp_bInt, wp_addI, wp_addT, wp_addL, wp_eqI, wp_eqB, wp_eqS, ixT0, ixL0, ixT1, ixL1, ixT2, ixL2, ixT3, ixL3, ixT4, ixL4, ixT5, ixL5, ixT6, ixL6, ixT7, ixL7, cutF1, cutU1, cutF2, cutU2, cutF3, cutU3, cutF4, cutU4, cutF5, cutU5, cutF6, cutU6, bag_0, bag_1, bag_2, bag_3, bagp_1, bagp_2, bagp_3, wp_slcT, wp_slcL, List.drop_succ_cons, List.drop_zero, List.take_succ_cons, List.take_zero, List.drop_nil, wp_in2, wp_inIT, wp_inIL, wp_app, wp_eBm, isW_last, wp_lstM, BMt.f, BMt.T, ofS_inj, strOk_lit, String.reduceEq, decide_false, decide_true, Bool.not_true, Bool.not_false, Bool.or_false, Bool.false_or, Bool.or_true, Bool.true_or, and_self, wp_eChn, wp_gTp, wp_gsCons, wp_gsNil, wp_isN, wipeE, List.getD_cons_zero, List.getD_cons_succ, Option.map_some, mk_tup, mk_lst, wp_len]
      refine wp_forL (I := fun ws ρ st2 => st2 = st1 ∧ ∃ (zs : List (Int × Fc)) (x7 x8 : Option Wd), (∀ q ∈ zs, q ∈ fs) ∧ p ∈ zs ∧ ws = (zs.map pairT).map Wd.v ∧ ρ = [some (.v (.lst (fs.map pairT))), some (.v (.str w)), some (.v (.int g)), some (.v (.int d)), some (.v (.lst ((cand fs w g d).map rowT))), some (.v (.int p.2.b)), some (.v (.int p.1)), x7, x8]) ?_ ?_ _ _ _ ⟨rfl, fs, none, none, fun _ h => h, hp2.1, rfl, rfl⟩
      · rintro ρ st2 ⟨rfl, zs, x7, x8, hz, hm, e2, rfl⟩
        have : zs = [] := by simpa using e2
        subst this
        cases hm
      · rintro x ws ρ st2 ⟨rfl, zs, x7, x8, hz, hm, e2, rfl⟩
        refine ⟨trivial, ?_⟩
        cases zs with
        | nil => cases e2
        | cons q zs =>
          simp only [List.map_cons, List.cons.injEq] at e2
          obtain ⟨rfl, rfl⟩ := e2
          simp (maxSteps := 2000000) only [pairT, Fc.t, denS, den, Den.of, CE.cnt, CE.isNil, CO.f, BO.f, BI.den, wp_seq, wp_sIf, wp_tAnd, wp_tOr, wp_tNot, wp_tOf, wp_tCmp, wp_eBin, wp_eAnd, wp_eOr, wp_eNot, wp_eNeg, wp_eIte, wp_eSlc, wp_pNone, wp_pSome, wp_bYes, wp_asB, wp_eVar, wp_eT, wp_put, wp_asg, wp_gNam, wp_nil, wp_ret, wp_exp, wp_eApp, wp_lCons, wp_lNil, wp_ok, wp_bad, wp_nx, wp_rt, wp_bk, wp_ct, List.map_cons, List.map_nil, List.cons_append, List.nil_append, List.append_nil, List.replicate_succ, List.replicate_zero, Nat.reduceSub, List.getElem?_cons_zero, List.getElem?_cons_succ, List.set_cons_zero, List.set_cons_succ, Nat.reduceAdd, Nat.reduceLeDiff, allT_v, allT_nil, List.length_cons, List.length_nil, List.length_append, List.length_map, Nat.succ_eq_add_one, ite_true, ite_false, if_true, if_false, reduceIte, Bool.false_eq_true, decide_eq_true_eq, Bool.not_eq_true, Bool.not_eq_false, true_and, and_true, wp_bInt, wp_addI, wp_addT, wp_addL, wp_eqI, wp_eqB, wp_eqS, ixT0, ixL0, ixT1, ixL1, ixT2, ixL2, ixT3, ixL3, ixT4, ixL4, ixT5, ixL5, ixT6, ixL6, ixT7, ixL7, cutF1, cutU1, cutF2, cutU2, cutF3, cutU3, cutF4, cutU4, cutF5, cutU5, cutF6, cutU6, bag_0, bag_1, bag_2, bag_3, bagp_1, bagp_2, bagp_3, wp_slcT, wp_slcL, List.drop_succ_cons, List.drop_zero, List.take_succ_cons, List.take_zero, List.drop_nil, wp_in2, wp_inIT, wp_inIL, wp_app, wp_eBm, isW_last, wp_lstM, BMt.f, BMt.T, ofS_inj, strOk_lit, String.reduceEq, decide_false, decide_true, Bool.not_true, Bool.not_false, Bool.or_false, Bool.false_or, Bool.or_true, Bool.true_or, and_self, wp_eChn, wp_gTp, wp_gsCons, wp_gsNil, wp_isN, wipeE, List.getD_cons_zero, List.getD_cons_succ, Option.map_some, mk_tup, mk_lst, wp_len]
          by_cases c : q.1 = p.1
          · rw [if_pos c]
            have := num_inj hf (hz q (List.mem_cons_self ..)) hp2.1 c
            subst this
            obtain ⟨u, hu⟩ := hr q hp2.1 hp2.2.1
            rw [hu]
            exact close_same (h1 q ⟨hp, hq⟩)
          · rw [if_neg c]
            refine ⟨zs, _, _, fun q hq => hz q (List.mem_cons_of_mem _ hq), ?_, rfl, rfl⟩
            rcases List.mem_cons.mp hm with e | h
            · rw [e] at c; exact absurd rfl c
            · exact h
  · rintro x ws acc st1 ⟨rfl, ys, zs, e1, e2, rfl⟩
    refine ⟨trivial, ?_⟩
    cases zs with
    | nil => cases e2
    | cons p zs =>
      simp only [List.map_cons, List.cons.injEq] at e2
      obtain ⟨rfl, rfl⟩ := e2
      have hp : p ∈ fs := by rw [e1]; simp
      have sok := (hf.ok p hp).sok
      have nx : ∀ b : Bool, cand (ys ++ [p]) w g d = cand ys w g d ++ (if (decide (p.2.w = w) && (decide (p.2.a = g) && decide (p.2.b ≤ d))) = true then [p] else []) := fun _ => by
        unfold cand
        rw [List.filter_append]
        congr 1
        by_cases h : (decide (p.2.w = w) && (decide (p.2.a = g) && decide (p.2.b ≤ d))) = true
        · rw [if_pos h]; simp only [List.filter_cons, List.filter_nil, h, if_true]
        · rw [if_neg h]; simp only [List.filter_cons, List.filter_nil, h, if_false, Bool.false_eq_true]
      have e3 : fs = (ys ++ [p]) ++ zs := by rw [e1]; simp
      have no : ¬ (p.2.w = w ∧ p.2.a = g ∧ p.2.b ≤ d) → cand (ys ++ [p]) w g d = cand ys w g d := fun h => by
        rw [nx true, if_neg (by simpa using h), List.append_nil]
      simp (maxSteps := 2000000) only [pairT, Fc.t, denS, den, Den.of, CE.cnt, CE.isNil, CO.f, BO.f, BI.den, wp_seq, wp_sIf, wp_tAnd, wp_tOr, wp_tNot, wp_tOf, wp_tCmp, wp_eBin, wp_eAnd, wp_eOr, wp_eNot, wp_eNeg, wp_eIte, wp_eSlc, wp_pNone, wp_pSome, wp_bYes, wp_asB, wp_eVar, wp_eT, wp_put, wp_asg, wp_gNam, wp_nil, wp_ret, wp_exp, wp_eApp, wp_lCons, wp_lNil, wp_ok, wp_bad, wp_nx, wp_rt, wp_bk, wp_ct, List.map_cons, List.map_nil, List.cons_append, List.nil_append, List.append_nil, List.replicate_succ, List.replicate_zero, Nat.reduceSub, List.getElem?_cons_zero, List.getElem?_cons_succ, List.set_cons_zero, List.set_cons_succ, Nat.reduceAdd, Nat.reduceLeDiff, allT_v, allT_nil, List.length_cons, List.length_nil, List.length_append, List.length_map, Nat.succ_eq_add_one, ite_true, ite_false, if_true, if_false, reduceIte, Bool.false_eq_true, decide_eq_true_eq, Bool.not_eq_true, Bool.not_eq_false, true_and, and_true, wp_bInt, wp_addI, wp_addT, wp_addL, wp_eqI, wp_eqB, wp_eqS, ixT0, ixL0, ixT1, ixL1, ixT2, ixL2, ixT3, ixL3, ixT4, ixL4, ixT5, ixL5, ixT6, ixL6, ixT7, ixL7, cutF1, cutU1, cutF2, cutU2, cutF3, cutU3, cutF4, cutU4, cutF5, cutU5, cutF6, cutU6, bag_0, bag_1, bag_2, bag_3, bagp_1, bagp_2, bagp_3, wp_slcT, wp_slcL, List.drop_succ_cons, List.drop_zero, List.take_succ_cons, List.take_zero, List.drop_nil, wp_in2, wp_inIT, wp_inIL, wp_app, wp_eBm, isW_last, wp_lstM, BMt.f, BMt.T, ofS_inj, strOk_lit, String.reduceEq, decide_false, decide_true, Bool.not_true, Bool.not_false, Bool.or_false, Bool.false_or, Bool.or_true, Bool.true_or, and_self, wp_eChn, wp_gTp, wp_gsCons, wp_gsNil, wp_isN, wipeE, List.getD_cons_zero, List.getD_cons_succ, Option.map_some, mk_tup, mk_lst, wp_len]
      refine ⟨⟨sok, hw⟩, ?_⟩
      by_cases c1 : p.2.w = w
      · rw [if_pos c1]
        by_cases c2 : p.2.a = g
        · rw [if_pos c2]
          refine ⟨rfl, ?_⟩
          by_cases c3 : p.2.b ≤ d
          · rw [if_pos c3]
            refine ⟨ys ++ [p], zs, e3, rfl, ?_⟩
            rw [nx true, if_pos (by simp [c1, c2, c3])]
            simp [rowT]
          · rw [if_neg c3]
            exact ⟨ys ++ [p], zs, e3, rfl, by rw [no (fun h => c3 h.2.2)]⟩
        · rw [if_neg c2]
          exact ⟨ys ++ [p], zs, e3, rfl, by rw [no (fun h => c2 h.2.1)]⟩
      · rw [if_neg c1]
        exact ⟨ys ++ [p], zs, e3, rfl, by rw [no (fun h => c1 h.1)]⟩
end DM

set_option Elab.async false
set_option linter.all false
set_option maxRecDepth 100000
set_option maxHeartbeats 4000000
/-! DW: tolls, trusts, boards on a day; the laws' own reckoning; alike. -/
namespace DM
open PySem PySem.Spec PyProof.Rows DL
open Classical

/-- what holds: other where nothing does -/
def HoldV (fs : List (Int × Fc)) (w : Str) (g d : Int) (other v : T) : Prop := (cand fs w g d = [] ∧ v = other) ∨ ∃ p, Top fs w g d p ∧ v = r0 p.2
theorem HoldV.uniq {top : Int} {fs : List (Int × Fc)} (h : FsOk top fs) {w : Str} {g d : Int} {o v v' : T} (a : HoldV fs w g d o v) (b : HoldV fs w g d o v') : v = v' := by
  rcases a with ⟨a, rfl⟩ | ⟨p, a, rfl⟩
  · rcases b with ⟨_, rfl⟩ | ⟨q, b, rfl⟩
    · rfl
    · have := b.1; rw [a] at this; cases this
  · rcases b with ⟨b, rfl⟩ | ⟨q, b, rfl⟩
    · have := a.1; rw [b] at this; cases this
    · rw [Top.uniq h a b]
theorem toll_r {f : Fc} (h : FOk f) (w : f.w = ("toll" : Str)) : ∃ k, f.r = [.int k] := by
  cases h <;> first | exact ⟨_, rfl⟩ | (simp only [ofS_inj, String.reduceEq] at w)
theorem trust_r {f : Fc} (h : FOk f) (w : f.w = ("trust" : Str)) : ∃ k, f.r = [.int k] := by
  cases h <;> first | exact ⟨_, rfl⟩ | (simp only [ofS_inj, String.reduceEq] at w)
theorem board_r {f : Fc} (h : FOk f) (w : f.w = ("board" : Str)) : ∃ gs : List Int, f.r = [.tup (gs.map .int)] ∧ gs.length ≤ 8 ∧ ∀ x ∈ gs, 0 ≤ x ∧ x < 8 := by
  cases h <;> first | exact ⟨_, rfl, by assumption, by assumption⟩ | (simp only [ofS_inj, String.reduceEq] at w)
theorem rest_toll {top : Int} {fs : List (Int × Fc)} (h : FsOk top fs) : RestOk fs "toll" := fun p hp w => by
  obtain ⟨k, e⟩ := toll_r (h.ok p hp) w
  exact ⟨[], by unfold r0; rw [e]; rfl⟩
theorem rest_trust {top : Int} {fs : List (Int × Fc)} (h : FsOk top fs) : RestOk fs "trust" := fun p hp w => by
  obtain ⟨k, e⟩ := trust_r (h.ok p hp) w
  exact ⟨[], by unfold r0; rw [e]; rfl⟩
theorem rest_board {top : Int} {fs : List (Int × Fc)} (h : FsOk top fs) : RestOk fs "board" := fun p hp w => by
  obtain ⟨k, e, _⟩ := board_r (h.ok p hp) w
  exact ⟨[], by unfold r0; rw [e]; rfl⟩
section
variable {top : Int} {fs : List (Int × Fc)} {g d : Int} {st : Sto} {Q : Wd → Sto → Prop} {E : Exn → Sto → Prop}
theorem toll_on_wp (hf : FsOk top fs) (hl : fs.length ≤ 100) (hQ : ∀ k : Int, HoldV fs "toll" g d (.int 0) (.int k) → Q (.v (.int k)) st) : (m_toll_on [.v (.lst (fs.map pairT)), .v (.int g), .v (.int d)] st).wp Q E := by
  unfold m_toll_on
  refine wp_run rfl ?_
  simp (maxSteps := 2000000) only [c_toll_on, tb_toll_on, denS, den, Den.of, CE.cnt, CE.isNil, CO.f, BO.f, BI.den, wp_seq, wp_sIf, wp_tAnd, wp_tOr, wp_tNot, wp_tOf, wp_tCmp, wp_eBin, wp_eAnd, wp_eOr, wp_eNot, wp_eNeg, wp_eIte, wp_eSlc, wp_pNone, wp_pSome, wp_bYes, wp_asB, wp_eVar, wp_eT, wp_put, wp_asg, wp_gNam, wp_nil, wp_ret, wp_exp, wp_eApp, wp_lCons, wp_lNil, wp_ok, wp_bad, wp_nx, wp_rt, wp_bk, wp_ct, List.map_cons, List.map_nil, List.cons_append, List.nil_append, List.append_nil, List.replicate_succ, List.replicate_zero, Nat.reduceSub, List.getElem?_cons_zero, List.getElem?_cons_succ, List.set_cons_zero, List.set_cons_succ, Nat.reduceAdd, Nat.reduceLeDiff, allT_v, allT_nil, List.length_cons, List.length_nil, List.length_append, List.length_map, Nat.succ_eq_add_one, ite_true, ite_false, if_true, if_false, reduceIte, Bool.false_eq_true, decide_eq_true_eq, Bool.not_eq_true, Bool.not_eq_false, true_and, and_true, wp_bInt, wp_addI, wp_addT, wp_addL, wp_eqI, wp_eqB, wp_eqS, ixT0, ixL0, ixT1, ixL1, ixT2, ixL2, ixT3, ixL3, ixT4, ixL4, ixT5, ixL5, ixT6, ixL6, ixT7, ixL7, cutF1, cutU1, cutF2, cutU2, cutF3, cutU3, cutF4, cutU4, cutF5, cutU5, cutF6, cutU6, bag_0, bag_1, bag_2, bag_3, bagp_1, bagp_2, bagp_3, wp_slcT, wp_slcL, List.drop_succ_cons, List.drop_zero, List.take_succ_cons, List.take_zero, List.drop_nil, wp_in2, wp_inIT, wp_inIL, wp_app, wp_eBm, isW_last, wp_lstM, BMt.f, BMt.T, ofS_inj, strOk_lit, String.reduceEq, decide_false, decide_true, Bool.not_true, Bool.not_false, Bool.or_false, Bool.false_or, Bool.or_true, Bool.true_or, and_self, wp_eChn, wp_gTp, wp_gsCons, wp_gsNil, wp_isN, wipeE, List.getD_cons_zero, List.getD_cons_succ, Option.map_some, mk_tup, mk_lst, wp_len]
  refine in_force_wp hf hl (strOk_lit _) (rest_toll hf) (fun hc => ?_) fun p hp => ?_
  · simp (maxSteps := 2000000) only [denS, den, Den.of, CE.cnt, CE.isNil, CO.f, BO.f, BI.den, wp_seq, wp_sIf, wp_tAnd, wp_tOr, wp_tNot, wp_tOf, wp_tCmp, wp_eBin, wp_eAnd, wp_eOr, wp_eNot, wp_eNeg, wp_eIte, wp_eSlc, wp_pNone, wp_pSome, wp_bYes, wp_asB, wp_eVar, wp_eT, wp_put, wp_asg, wp_gNam, wp_nil, wp_ret, wp_exp, wp_eApp, wp_lCons, wp_lNil, wp_ok, wp_bad, wp_nx, wp_rt, wp_bk, wp_ct, List.map_cons, List.map_nil, List.cons_append, List.nil_append, List.append_nil, List.replicate_succ, List.replicate_zero, Nat.reduceSub, List.getElem?_cons_zero, List.getElem?_cons_succ, List.set_cons_zero, List.set_cons_succ, Nat.reduceAdd, Nat.reduceLeDiff, allT_v, allT_nil, List.length_cons, List.length_nil, List.length_append, List.length_map, Nat.succ_eq_add_one, ite_true, ite_false, if_true, if_false, reduceIte, Bool.false_eq_true, decide_eq_true_eq, Bool.not_eq_true, Bool.not_eq_false, true_and, and_true, wp_bInt, wp_addI, wp_addT, wp_addL, wp_eqI, wp_eqB, wp_eqS, ixT0, ixL0, ixT1, ixL1, ixT2, ixL2, ixT3, ixL3, ixT4, ixL4, ixT5, ixL5, ixT6, ixL6, ixT7, ixL7, cutF1, cutU1, cutF2, cutU2, cutF3, cutU3, cutF4, cutU4, cutF5, cutU5, cutF6, cutU6, bag_0, bag_1, bag_2, bag_3, bagp_1, bagp_2, bagp_3, wp_slcT, wp_slcL, List.drop_succ_cons, List.drop_zero, List.take_succ_cons, List.take_zero, List.drop_nil, wp_in2, wp_inIT, wp_inIL, wp_app, wp_eBm, isW_last, wp_lstM, BMt.f, BMt.T, ofS_inj, strOk_lit, String.reduceEq, decide_false, decide_true, Bool.not_true, Bool.not_false, Bool.or_false, Bool.false_or, Bool.or_true, Bool.true_or, and_self, wp_eChn, wp_gTp, wp_gsCons, wp_gsNil, wp_isN, wipeE, List.getD_cons_zero, List.getD_cons_succ, Option.map_some, mk_tup, mk_lst, wp_len]
    exact close_same (hQ 0 (.inl ⟨hc, rfl⟩))
  · obtain ⟨k, e⟩ := toll_r (hf.ok p (cand_sub hp.1).1) (cand_sub hp.1).2.1
    have e2 : r0 p.2 = .int k := by unfold r0; rw [e]; rfl
    simp (maxSteps := 2000000) only [e2, denS, den, Den.of, CE.cnt, CE.isNil, CO.f, BO.f, BI.den, wp_seq, wp_sIf, wp_tAnd, wp_tOr, wp_tNot, wp_tOf, wp_tCmp, wp_eBin, wp_eAnd, wp_eOr, wp_eNot, wp_eNeg, wp_eIte, wp_eSlc, wp_pNone, wp_pSome, wp_bYes, wp_asB, wp_eVar, wp_eT, wp_put, wp_asg, wp_gNam, wp_nil, wp_ret, wp_exp, wp_eApp, wp_lCons, wp_lNil, wp_ok, wp_bad, wp_nx, wp_rt, wp_bk, wp_ct, List.map_cons, List.map_nil, List.cons_append, List.nil_append, List.append_nil, List.replicate_succ, List.replicate_zero, Nat.reduceSub, List.getElem?_cons_zero, List.getElem?_cons_succ, List.set_cons_zero, List.set_cons_succ, Nat.reduceAdd, Nat.reduceLeDiff, allT_v, allT_nil, List.length_cons, List.length_nil, List.length_append, List.length_map, Nat.succ_eq_add_one, ite_true, ite_false, if_true, if_false, reduceIte, Bool.false_eq_true, decide_eq_true_eq, Bool.not_eq_true, Bool.not_eq_false, true_and, and_true, wp_bInt, wp_addI, wp_addT, wp_addL, wp_eqI, wp_eqB, wp_eqS, ixT0, ixL0, ixT1, ixL1, ixT2, ixL2, ixT3, ixL3, ixT4, ixL4, ixT5, ixL5, ixT6, ixL6, ixT7, ixL7, cutF1, cutU1, cutF2, cutU2, cutF3, cutU3, cutF4, cutU4, cutF5, cutU5, cutF6, cutU6, bag_0, bag_1, bag_2, bag_3, bagp_1, bagp_2, bagp_3, wp_slcT, wp_slcL, List.drop_succ_cons, List.drop_zero, List.take_succ_cons, List.take_zero, List.drop_nil, wp_in2, wp_inIT, wp_inIL, wp_app, wp_eBm, isW_last, wp_lstM, BMt.f, BMt.T, ofS_inj, strOk_lit, String.reduceEq, decide_false, decide_true, Bool.not_true, Bool.not_false, Bool.or_false, Bool.false_or, Bool.or_true, Bool.true_or, and_self, wp_eChn, wp_gTp, wp_gsCons, wp_gsNil, wp_isN, wipeE, List.getD_cons_zero, List.getD_cons_succ, Option.map_some, mk_tup, mk_lst, wp_len]
    exact close_same (hQ k (.inr ⟨p, hp, e2.symm⟩))
theorem trust_on_wp (hf : FsOk top fs) (hl : fs.length ≤ 100) (hQ : ∀ k : Int, HoldV fs "trust" g d (.int 0) (.int k) → Q (.v (.int k)) st) : (m_trust_on [.v (.lst (fs.map pairT)), .v (.int g), .v (.int d)] st).wp Q E := by
  unfold m_trust_on
  refine wp_run rfl ?_
  simp (maxSteps := 2000000) only [c_trust_on, tb_trust_on, denS, den, Den.of, CE.cnt, CE.isNil, CO.f, BO.f, BI.den, wp_seq, wp_sIf, wp_tAnd, wp_tOr, wp_tNot, wp_tOf, wp_tCmp, wp_eBin, wp_eAnd, wp_eOr, wp_eNot, wp_eNeg, wp_eIte, wp_eSlc, wp_pNone, wp_pSome, wp_bYes, wp_asB, wp_eVar, wp_eT, wp_put, wp_asg, wp_gNam, wp_nil, wp_ret, wp_exp, wp_eApp, wp_lCons, wp_lNil, wp_ok, wp_bad, wp_nx, wp_rt, wp_bk, wp_ct, List.map_cons, List.map_nil, List.cons_append, List.nil_append, List.append_nil, List.replicate_succ, List.replicate_zero, Nat.reduceSub, List.getElem?_cons_zero, List.getElem?_cons_succ, List.set_cons_zero, List.set_cons_succ, Nat.reduceAdd, Nat.reduceLeDiff, allT_v, allT_nil, List.length_cons, List.length_nil, List.length_append, List.length_map, Nat.succ_eq_add_one, ite_true, ite_false, if_true, if_false, reduceIte, Bool.false_eq_true, decide_eq_true_eq, Bool.not_eq_true, Bool.not_eq_false, true_and, and_true, wp_bInt, wp_addI, wp_addT, wp_addL, wp_eqI, wp_eqB, wp_eqS, ixT0, ixL0, ixT1, ixL1, ixT2, ixL2, ixT3, ixL3, ixT4, ixL4, ixT5, ixL5, ixT6, ixL6, ixT7, ixL7, cutF1, cutU1, cutF2, cutU2, cutF3, cutU3, cutF4, cutU4, cutF5, cutU5, cutF6, cutU6, bag_0, bag_1, bag_2, bag_3, bagp_1, bagp_2, bagp_3, wp_slcT, wp_slcL, List.drop_succ_cons, List.drop_zero, List.take_succ_cons, List.take_zero, List.drop_nil, wp_in2, wp_inIT, wp_inIL, wp_app, wp_eBm, isW_last, wp_lstM, BMt.f, BMt.T, ofS_inj, strOk_lit, String.reduceEq, decide_false, decide_true, Bool.not_true, Bool.not_false, Bool.or_false, Bool.false_or, Bool.or_true, Bool.true_or, and_self, wp_eChn, wp_gTp, wp_gsCons, wp_gsNil, wp_isN, wipeE, List.getD_cons_zero, List.getD_cons_succ, Option.map_some, mk_tup, mk_lst, wp_len]
  refine in_force_wp hf hl (strOk_lit _) (rest_trust hf) (fun hc => ?_) fun p hp => ?_
  · simp (maxSteps := 2000000) only [denS, den, Den.of, CE.cnt, CE.isNil, CO.f, BO.f, BI.den, wp_seq, wp_sIf, wp_tAnd, wp_tOr, wp_tNot, wp_tOf, wp_tCmp, wp_eBin, wp_eAnd, wp_eOr, wp_eNot, wp_eNeg, wp_eIte, wp_eSlc, wp_pNone, wp_pSome, wp_bYes, wp_asB, wp_eVar, wp_eT, wp_put, wp_asg, wp_gNam, wp_nil, wp_ret, wp_exp, wp_eApp, wp_lCons, wp_lNil, wp_ok, wp_bad, wp_nx, wp_rt, wp_bk, wp_ct, List.map_cons, List.map_nil, List.cons_append, List.nil_append, List.append_nil, List.replicate_succ, List.replicate_zero, Nat.reduceSub, List.getElem?_cons_zero, List.getElem?_cons_succ, List.set_cons_zero, List.set_cons_succ, Nat.reduceAdd, Nat.reduceLeDiff, allT_v, allT_nil, List.length_cons, List.length_nil, List.length_append, List.length_map, Nat.succ_eq_add_one, ite_true, ite_false, if_true, if_false, reduceIte, Bool.false_eq_true, decide_eq_true_eq, Bool.not_eq_true, Bool.not_eq_false, true_and, and_true, wp_bInt, wp_addI, wp_addT, wp_addL, wp_eqI, wp_eqB, wp_eqS, ixT0, ixL0, ixT1, ixL1, ixT2, ixL2, ixT3, ixL3, ixT4, ixL4, ixT5, ixL5, ixT6, ixL6, ixT7, ixL7, cutF1, cutU1, cutF2, cutU2, cutF3, cutU3, cutF4, cutU4, cutF5, cutU5, cutF6, cutU6, bag_0, bag_1, bag_2, bag_3, bagp_1, bagp_2, bagp_3, wp_slcT, wp_slcL, List.drop_succ_cons, List.drop_zero, List.take_succ_cons, List.take_zero, List.drop_nil, wp_in2, wp_inIT, wp_inIL, wp_app, wp_eBm, isW_last, wp_lstM, BMt.f, BMt.T, ofS_inj, strOk_lit, String.reduceEq, decide_false, decide_true, Bool.not_true, Bool.not_false, Bool.or_false, Bool.false_or, Bool.or_true, Bool.true_or, and_self, wp_eChn, wp_gTp, wp_gsCons, wp_gsNil, wp_isN, wipeE, List.getD_cons_zero, List.getD_cons_succ, Option.map_some, mk_tup, mk_lst, wp_len]
    exact close_same (hQ 0 (.inl ⟨hc, rfl⟩))
  · obtain ⟨k, e⟩ := trust_r (hf.ok p (cand_sub hp.1).1) (cand_sub hp.1).2.1
    have e2 : r0 p.2 = .int k := by unfold r0; rw [e]; rfl
    simp (maxSteps := 2000000) only [e2, denS, den, Den.of, CE.cnt, CE.isNil, CO.f, BO.f, BI.den, wp_seq, wp_sIf, wp_tAnd, wp_tOr, wp_tNot, wp_tOf, wp_tCmp, wp_eBin, wp_eAnd, wp_eOr, wp_eNot, wp_eNeg, wp_eIte, wp_eSlc, wp_pNone, wp_pSome, wp_bYes, wp_asB, wp_eVar, wp_eT, wp_put, wp_asg, wp_gNam, wp_nil, wp_ret, wp_exp, wp_eApp, wp_lCons, wp_lNil, wp_ok, wp_bad, wp_nx, wp_rt, wp_bk, wp_ct, List.map_cons, List.map_nil, List.cons_append, List.nil_append, List.append_nil, List.replicate_succ, List.replicate_zero, Nat.reduceSub, List.getElem?_cons_zero, List.getElem?_cons_succ, List.set_cons_zero, List.set_cons_succ, Nat.reduceAdd, Nat.reduceLeDiff, allT_v, allT_nil, List.length_cons, List.length_nil, List.length_append, List.length_map, Nat.succ_eq_add_one, ite_true, ite_false, if_true, if_false, reduceIte, Bool.false_eq_true, decide_eq_true_eq, Bool.not_eq_true, Bool.not_eq_false, true_and, and_true, wp_bInt, wp_addI, wp_addT, wp_addL, wp_eqI, wp_eqB, wp_eqS, ixT0, ixL0, ixT1, ixL1, ixT2, ixL2, ixT3, ixL3, ixT4, ixL4, ixT5, ixL5, ixT6, ixL6, ixT7, ixL7, cutF1, cutU1, cutF2, cutU2, cutF3, cutU3, cutF4, cutU4, cutF5, cutU5, cutF6, cutU6, bag_0, bag_1, bag_2, bag_3, bagp_1, bagp_2, bagp_3, wp_slcT, wp_slcL, List.drop_succ_cons, List.drop_zero, List.take_succ_cons, List.take_zero, List.drop_nil, wp_in2, wp_inIT, wp_inIL, wp_app, wp_eBm, isW_last, wp_lstM, BMt.f, BMt.T, ofS_inj, strOk_lit, String.reduceEq, decide_false, decide_true, Bool.not_true, Bool.not_false, Bool.or_false, Bool.false_or, Bool.or_true, Bool.true_or, and_self, wp_eChn, wp_gTp, wp_gsCons, wp_gsNil, wp_isN, wipeE, List.getD_cons_zero, List.getD_cons_succ, Option.map_some, mk_tup, mk_lst, wp_len]
    exact close_same (hQ k (.inr ⟨p, hp, e2.symm⟩))
theorem intsT_map : ∀ ns : List Int, intsT (ns.map T.int) = some ns
  | [] => rfl
  | n :: r => by
    have ih := intsT_map r
    simp only [List.map_cons, intsT, ih] <;> rfl
theorem wp_sset {ns : List Int} (h : ns.length < 63) : (fSSet [.v (.lst (ns.map T.int))] st).wp Q E = Q (.v (.lst ((sortU ns).map T.int))) st := by
  have e : fSSet [.v (.lst (ns.map T.int))] st = .ok (.v (.lst ((sortU ns).map T.int))) st := by
    unfold fSSet
    simp only [tsL_v, intsT_map]
    rw [if_pos h]
  rw [e]; rfl
theorem wp_listT {ts : List T} : (fList [.v (.tup ts)] st).wp Q E = Q (.v (.lst ts)) st := by
  have e : fList [.v (.tup ts)] st = .ok (.v (.lst ts)) st := by simp [fList]
  rw [e]; rfl
theorem wp_listL {ts : List T} : (fList [.v (.lst ts)] st).wp Q E = Q (.v (.lst ts)) st := by
  have e : fList [.v (.lst ts)] st = .ok (.v (.lst ts)) st := by simp [fList]
  rw [e]; rfl
theorem board_on_wp (hf : FsOk top fs) (hl : fs.length ≤ 100) (hQ : ∀ gs : List Int, gs.length ≤ 8 → (∀ x ∈ gs, 0 ≤ x ∧ x < 8) → HoldV fs "board" g d (.tup []) (.tup (gs.map .int)) → Q (.v (.tup ((sortU (gs ++ [g])).map .int))) st) : (m_board_on [.v (.lst (fs.map pairT)), .v (.int g), .v (.int d)] st).wp Q E := by
  unfold m_board_on
  refine wp_run rfl ?_
  simp (maxSteps := 2000000) only [c_board_on, tb_board_on, denS, den, Den.of, CE.cnt, CE.isNil, CO.f, BO.f, BI.den, wp_seq, wp_sIf, wp_tAnd, wp_tOr, wp_tNot, wp_tOf, wp_tCmp, wp_eBin, wp_eAnd, wp_eOr, wp_eNot, wp_eNeg, wp_eIte, wp_eSlc, wp_pNone, wp_pSome, wp_bYes, wp_asB, wp_eVar, wp_eT, wp_put, wp_asg, wp_gNam, wp_nil, wp_ret, wp_exp, wp_eApp, wp_lCons, wp_lNil, wp_ok, wp_bad, wp_nx, wp_rt, wp_bk, wp_ct, List.map_cons, List.map_nil, List.cons_append, List.nil_append, List.append_nil, List.replicate_succ, List.replicate_zero, Nat.reduceSub, List.getElem?_cons_zero, List.getElem?_cons_succ, List.set_cons_zero, List.set_cons_succ, Nat.reduceAdd, Nat.reduceLeDiff, allT_v, allT_nil, List.length_cons, List.length_nil, List.length_append, List.length_map, Nat.succ_eq_add_one, ite_true, ite_false, if_true, if_false, reduceIte, Bool.false_eq_true, decide_eq_true_eq, Bool.not_eq_true, Bool.not_eq_false, true_and, and_true, wp_bInt, wp_addI, wp_addT, wp_addL, wp_eqI, wp_eqB, wp_eqS, ixT0, ixL0, ixT1, ixL1, ixT2, ixL2, ixT3, ixL3, ixT4, ixL4, ixT5, ixL5, ixT6, ixL6, ixT7, ixL7, cutF1, cutU1, cutF2, cutU2, cutF3, cutU3, cutF4, cutU4, cutF5, cutU5, cutF6, cutU6, bag_0, bag_1, bag_2, bag_3, bagp_1, bagp_2, bagp_3, wp_slcT, wp_slcL, List.drop_succ_cons, List.drop_zero, List.take_succ_cons, List.take_zero, List.drop_nil, wp_in2, wp_inIT, wp_inIL, wp_app, wp_eBm, isW_last, wp_lstM, BMt.f, BMt.T, ofS_inj, strOk_lit, String.reduceEq, decide_false, decide_true, Bool.not_true, Bool.not_false, Bool.or_false, Bool.false_or, Bool.or_true, Bool.true_or, and_self, wp_eChn, wp_gTp, wp_gsCons, wp_gsNil, wp_isN, wipeE, List.getD_cons_zero, List.getD_cons_succ, Option.map_some, mk_tup, mk_lst, wp_len]
  have fin : ∀ gs : List Int, gs.length ≤ 8 → (∀ x ∈ gs, 0 ≤ x ∧ x < 8) → HoldV fs "board" g d (.tup []) (.tup (gs.map .int)) → gs.length + 1 ≤ LINE ∧ (fSSet [.v (.lst (gs.map T.int ++ [T.int g]))] st).wp (fun w st1 => (fTuple [w] st1).wp (Close st Q) fun x st1 => Trunc st st1 ∧ E x (st1.take st.length)) fun x st1 => Trunc st st1 ∧ E x (st1.take st.length) := fun gs h1 h2 h3 => by
    refine ⟨small1000L (by omega), ?_⟩
    have e : gs.map T.int ++ [T.int g] = (gs ++ [g]).map T.int := by simp
    rw [e, wp_sset (by simp; omega)]
    simp (maxSteps := 2000000) only [tupleL, denS, den, Den.of, CE.cnt, CE.isNil, CO.f, BO.f, BI.den, wp_seq, wp_sIf, wp_tAnd, wp_tOr, wp_tNot, wp_tOf, wp_tCmp, wp_eBin, wp_eAnd, wp_eOr, wp_eNot, wp_eNeg, wp_eIte, wp_eSlc, wp_pNone, wp_pSome, wp_bYes, wp_asB, wp_eVar, wp_eT, wp_put, wp_asg, wp_gNam, wp_nil, wp_ret, wp_exp, wp_eApp, wp_lCons, wp_lNil, wp_ok, wp_bad, wp_nx, wp_rt, wp_bk, wp_ct, List.map_cons, List.map_nil, List.cons_append, List.nil_append, List.append_nil, List.replicate_succ, List.replicate_zero, Nat.reduceSub, List.getElem?_cons_zero, List.getElem?_cons_succ, List.set_cons_zero, List.set_cons_succ, Nat.reduceAdd, Nat.reduceLeDiff, allT_v, allT_nil, List.length_cons, List.length_nil, List.length_append, List.length_map, Nat.succ_eq_add_one, ite_true, ite_false, if_true, if_false, reduceIte, Bool.false_eq_true, decide_eq_true_eq, Bool.not_eq_true, Bool.not_eq_false, true_and, and_true, wp_bInt, wp_addI, wp_addT, wp_addL, wp_eqI, wp_eqB, wp_eqS, ixT0, ixL0, ixT1, ixL1, ixT2, ixL2, ixT3, ixL3, ixT4, ixL4, ixT5, ixL5, ixT6, ixL6, ixT7, ixL7, cutF1, cutU1, cutF2, cutU2, cutF3, cutU3, cutF4, cutU4, cutF5, cutU5, cutF6, cutU6, bag_0, bag_1, bag_2, bag_3, bagp_1, bagp_2, bagp_3, wp_slcT, wp_slcL, List.drop_succ_cons, List.drop_zero, List.take_succ_cons, List.take_zero, List.drop_nil, wp_in2, wp_inIT, wp_inIL, wp_app, wp_eBm, isW_last, wp_lstM, BMt.f, BMt.T, ofS_inj, strOk_lit, String.reduceEq, decide_false, decide_true, Bool.not_true, Bool.not_false, Bool.or_false, Bool.false_or, Bool.or_true, Bool.true_or, and_self, wp_eChn, wp_gTp, wp_gsCons, wp_gsNil, wp_isN, wipeE, List.getD_cons_zero, List.getD_cons_succ, Option.map_some, mk_tup, mk_lst, wp_len]
    exact close_same (hQ gs h1 h2 h3)
  refine in_force_wp hf hl (strOk_lit _) (rest_board hf) (fun hc => ?_) fun p hp => ?_
  · simp (maxSteps := 2000000) only [denS, den, Den.of, CE.cnt, CE.isNil, CO.f, BO.f, BI.den, wp_seq, wp_sIf, wp_tAnd, wp_tOr, wp_tNot, wp_tOf, wp_tCmp, wp_eBin, wp_eAnd, wp_eOr, wp_eNot, wp_eNeg, wp_eIte, wp_eSlc, wp_pNone, wp_pSome, wp_bYes, wp_asB, wp_eVar, wp_eT, wp_put, wp_asg, wp_gNam, wp_nil, wp_ret, wp_exp, wp_eApp, wp_lCons, wp_lNil, wp_ok, wp_bad, wp_nx, wp_rt, wp_bk, wp_ct, List.map_cons, List.map_nil, List.cons_append, List.nil_append, List.append_nil, List.replicate_succ, List.replicate_zero, Nat.reduceSub, List.getElem?_cons_zero, List.getElem?_cons_succ, List.set_cons_zero, List.set_cons_succ, Nat.reduceAdd, Nat.reduceLeDiff, allT_v, allT_nil, List.length_cons, List.length_nil, List.length_append, List.length_map, Nat.succ_eq_add_one, ite_true, ite_false, if_true, if_false, reduceIte, Bool.false_eq_true, decide_eq_true_eq, Bool.not_eq_true, Bool.not_eq_false, true_and, and_true, wp_bInt, wp_addI, wp_addT, wp_addL, wp_eqI, wp_eqB, wp_eqS, ixT0, ixL0, ixT1, ixL1, ixT2, ixL2, ixT3, ixL3, ixT4, ixL4, ixT5, ixL5, ixT6, ixL6, ixT7, ixL7, cutF1, cutU1, cutF2, cutU2, cutF3, cutU3, cutF4, cutU4, cutF5, cutU5, cutF6, cutU6, bag_0, bag_1, bag_2, bag_3, bagp_1, bagp_2, bagp_3, wp_slcT, wp_slcL, List.drop_succ_cons, List.drop_zero, List.take_succ_cons, List.take_zero, List.drop_nil, wp_in2, wp_inIT, wp_inIL, wp_app, wp_eBm, isW_last, wp_lstM, BMt.f, BMt.T, ofS_inj, strOk_lit, String.reduceEq, decide_false, decide_true, Bool.not_true, Bool.not_false, Bool.or_false, Bool.false_or, Bool.or_true, Bool.true_or, and_self, wp_eChn, wp_gTp, wp_gsCons, wp_gsNil, wp_isN, wipeE, List.getD_cons_zero, List.getD_cons_succ, Option.map_some, mk_tup, mk_lst, wp_len]
    exact fin [] (by simp) (by simp) (.inl ⟨hc, rfl⟩)
  · obtain ⟨gs, e, h1, h2⟩ := board_r (hf.ok p (cand_sub hp.1).1) (cand_sub hp.1).2.1
    have e2 : r0 p.2 = .tup (gs.map .int) := by unfold r0; rw [e]; rfl
    simp (maxSteps := 2000000) only [e2, wp_listT, denS, den, Den.of, CE.cnt, CE.isNil, CO.f, BO.f, BI.den, wp_seq, wp_sIf, wp_tAnd, wp_tOr, wp_tNot, wp_tOf, wp_tCmp, wp_eBin, wp_eAnd, wp_eOr, wp_eNot, wp_eNeg, wp_eIte, wp_eSlc, wp_pNone, wp_pSome, wp_bYes, wp_asB, wp_eVar, wp_eT, wp_put, wp_asg, wp_gNam, wp_nil, wp_ret, wp_exp, wp_eApp, wp_lCons, wp_lNil, wp_ok, wp_bad, wp_nx, wp_rt, wp_bk, wp_ct, List.map_cons, List.map_nil, List.cons_append, List.nil_append, List.append_nil, List.replicate_succ, List.replicate_zero, Nat.reduceSub, List.getElem?_cons_zero, List.getElem?_cons_succ, List.set_cons_zero, List.set_cons_succ, Nat.reduceAdd, Nat.reduceLeDiff, allT_v, allT_nil, List.length_cons, List.length_nil, List.length_append, List.length_map, Nat.succ_eq_add_one, ite_true, ite_false, if_true, if_false, reduceIte, Bool.false_eq_true, decide_eq_true_eq, Bool.not_eq_true, Bool.not_eq_false, true_and, and_true, wp_bInt, wp_addI, wp_addT, wp_addL, wp_eqI, wp_eqB, wp_eqS, ixT0, ixL0, ixT1, ixL1, ixT2, ixL2, ixT3, ixL3, ixT4, ixL4, ixT5, ixL5, ixT6, ixL6, ixT7, ixL7, cutF1, cutU1, cutF2, cutU2, cutF3, cutU3, cutF4, cutU4, cutF5, cutU5, cutF6, cutU6, bag_0, bag_1, bag_2, bag_3, bagp_1, bagp_2, bagp_3, wp_slcT, wp_slcL, List.drop_succ_cons, List.drop_zero, List.take_succ_cons, List.take_zero, List.drop_nil, wp_in2, wp_inIT, wp_inIL, wp_app, wp_eBm, isW_last, wp_lstM, BMt.f, BMt.T, ofS_inj, strOk_lit, String.reduceEq, decide_false, decide_true, Bool.not_true, Bool.not_false, Bool.or_false, Bool.false_or, Bool.or_true, Bool.true_or, and_self, wp_eChn, wp_gTp, wp_gsCons, wp_gsNil, wp_isN, wipeE, List.getD_cons_zero, List.getD_cons_succ, Option.map_some, mk_tup, mk_lst, wp_len]
    exact fin gs h1 h2 (.inr ⟨p, hp, e2.symm⟩)
/-- the best so far, as the law goes along -/
def Best (ys : List (Int × Fc)) (w : Str) (g d : Int) (o : T) (b : Int) (v : T) : Prop := (cand ys w g d = [] ∧ b = -1 ∧ v = o) ∨ ∃ p ∈ cand ys w g d, (∀ q ∈ cand ys w g d, lexLe q p) ∧ b = p.2.b ∧ v = r0 p.2
theorem cand_snoc {ys : List (Int × Fc)} {w : Str} {g d : Int} (p : Int × Fc) : cand (ys ++ [p]) w g d = cand ys w g d ++ (if p.2.w = w ∧ p.2.a = g ∧ p.2.b ≤ d then [p] else []) := by
  unfold cand
  rw [List.filter_append]
  congr 1
  by_cases h : p.2.w = w ∧ p.2.a = g ∧ p.2.b ≤ d
  · rw [if_pos h]; simp [h.1, h.2.1, h.2.2]
  · rw [if_neg h]
    simp only [List.filter_cons, List.filter_nil]
    rw [if_neg (by simpa using h)]
theorem FOk.b0 {f : Fc} (h : FOk f) : 0 ≤ f.b := by cases h <;> assumption
theorem hold_wp {w : Str} {o : T} (hf : FsOk top fs) (hw : PyData.strOk w = true) (hr : RestOk fs w) (hQ : ∀ v : T, HoldV fs w g d o v → Q (.v v) st) : (m__law_hold [.v (.lst (fs.map pairT)), .v (.str w), .v (.int g), .v (.int d), .v o] st).wp Q E := by
  unfold m__law_hold
  refine wp_run rfl ?_
  simp (maxSteps := 2000000) only [c__law_hold, tb__law_hold, wp_sFor, iOf, wp_bind, wIter, denS, den, Den.of, CE.cnt, CE.isNil, CO.f, BO.f, BI.den, wp_seq, wp_sIf, wp_tAnd, wp_tOr, wp_tNot, wp_tOf, wp_tCmp, wp_eBin, wp_eAnd, wp_eOr, wp_eNot, wp_eNeg, wp_eIte, wp_eSlc, wp_pNone, wp_pSome, wp_bYes, wp_asB, wp_eVar, wp_eT, wp_put, wp_asg, wp_gNam, wp_nil, wp_ret, wp_exp, wp_eApp, wp_lCons, wp_lNil, wp_ok, wp_bad, wp_nx, wp_rt, wp_bk, wp_ct, List.map_cons, List.map_nil, List.cons_append, List.nil_append, List.append_nil, List.replicate_succ, List.replicate_zero, Nat.reduceSub, List.getElem?_cons_zero, List.getElem?_cons_succ, List.set_cons_zero, List.set_cons_succ, Nat.reduceAdd, Nat.reduceLeDiff, allT_v, allT_nil, List.length_cons, List.length_nil, List.length_append, List.length_map, Nat.succ_eq_add_one, ite_true, ite_false, if_true, if_false, reduceIte, Bool.false_eq_true, decide_eq_true_eq, Bool.not_eq_true, Bool.not_eq_false, true_and, and_true, wp_bInt, wp_addI, wp_addT, wp_addL, wp_eqI, wp_eqB, wp_eqS, ixT0, ixL0, ixT1, ixL1, ixT2, ixL2, ixT3, ixL3, ixT4, ixL4, ixT5, ixL5, ixT6, ixL6, ixT7, ixL7, cutF1, cutU1, cutF2, cutU2, cutF3, cutU3, cutF4, cutU4, cutF5, cutU5, cutF6, cutU6, bag_0, bag_1, bag_2, bag_3, bagp_1, bagp_2, bagp_3, wp_slcT, wp_slcL, List.drop_succ_cons, List.drop_zero, List.take_succ_cons, List.take_zero, List.drop_nil, wp_in2, wp_inIT, wp_inIL, wp_app, wp_eBm, isW_last, wp_lstM, BMt.f, BMt.T, ofS_inj, strOk_lit, String.reduceEq, decide_false, decide_true, Bool.not_true, Bool.not_false, Bool.or_false, Bool.false_or, Bool.or_true, Bool.true_or, and_self, wp_eChn, wp_gTp, wp_gsCons, wp_gsNil, wp_isN, wipeE, List.getD_cons_zero, List.getD_cons_succ, Option.map_some, mk_tup, mk_lst, wp_len]
  refine wp_forL (I := fun ws ρ st1 => st1 = st ∧ ∃ (ys zs : List (Int × Fc)) (b : Int) (v : T) (x6 x7 : Option Wd), fs = ys ++ zs ∧ ws = (zs.map pairT).map Wd.v ∧ Best ys w g d o b v ∧ ρ = [some (.v (.lst (fs.map pairT))), some (.v (.str w)), some (.v (.int g)), some (.v (.int d)), some (.v o), some (.v (.tup [.int b, v])), x6, x7]) ?_ ?_ _ _ _ ⟨rfl, [], fs, -1, o, none, none, rfl, rfl, .inl ⟨rfl, rfl, rfl⟩, rfl⟩
  · rintro ρ st1 ⟨rfl, ys, zs, b, v, x6, x7, e1, e2, hb, rfl⟩
    refine ⟨trivial, ?_⟩
    have : zs = [] := by simpa using e2
    subst this
    simp only [List.append_nil] at e1
    subst e1
    simp (maxSteps := 2000000) only [denS, den, Den.of, CE.cnt, CE.isNil, CO.f, BO.f, BI.den, wp_seq, wp_sIf, wp_tAnd, wp_tOr, wp_tNot, wp_tOf, wp_tCmp, wp_eBin, wp_eAnd, wp_eOr, wp_eNot, wp_eNeg, wp_eIte, wp_eSlc, wp_pNone, wp_pSome, wp_bYes, wp_asB, wp_eVar, wp_eT, wp_put, wp_asg, wp_gNam, wp_nil, wp_ret, wp_exp, wp_eApp, wp_lCons, wp_lNil, wp_ok, wp_bad, wp_nx, wp_rt, wp_bk, wp_ct, List.map_cons, List.map_nil, List.cons_append, List.nil_append, List.append_nil, List.replicate_succ, List.replicate_zero, Nat.reduceSub, List.getElem?_cons_zero, List.getElem?_cons_succ, List.set_cons_zero, List.set_cons_succ, Nat.reduceAdd, Nat.reduceLeDiff, allT_v, allT_nil, List.length_cons, List.length_nil, List.length_append, List.length_map, Nat.succ_eq_add_one, ite_true, ite_false, if_true, if_false, reduceIte, Bool.false_eq_true, decide_eq_true_eq, Bool.not_eq_true, Bool.not_eq_false, true_and, and_true, wp_bInt, wp_addI, wp_addT, wp_addL, wp_eqI, wp_eqB, wp_eqS, ixT0, ixL0, ixT1, ixL1, ixT2, ixL2, ixT3, ixL3, ixT4, ixL4, ixT5, ixL5, ixT6, ixL6, ixT7, ixL7, cutF1, cutU1, cutF2, cutU2, cutF3, cutU3, cutF4, cutU4, cutF5, cutU5, cutF6, cutU6, bag_0, bag_1, bag_2, bag_3, bagp_1, bagp_2, bagp_3, wp_slcT, wp_slcL, List.drop_succ_cons, List.drop_zero, List.take_succ_cons, List.take_zero, List.drop_nil, wp_in2, wp_inIT, wp_inIL, wp_app, wp_eBm, isW_last, wp_lstM, BMt.f, BMt.T, ofS_inj, strOk_lit, String.reduceEq, decide_false, decide_true, Bool.not_true, Bool.not_false, Bool.or_false, Bool.false_or, Bool.or_true, Bool.true_or, and_self, wp_eChn, wp_gTp, wp_gsCons, wp_gsNil, wp_isN, wipeE, List.getD_cons_zero, List.getD_cons_succ, Option.map_some, mk_tup, mk_lst, wp_len]
    refine close_same (hQ v ?_)
    rcases hb with ⟨h1, _, h2⟩ | ⟨p, h1, h2, _, h3⟩
    · exact .inl ⟨h1, h2⟩
    · exact .inr ⟨p, ⟨h1, h2⟩, h3⟩
  · rintro x ws ρ st1 ⟨rfl, ys, zs, b, v, x6, x7, e1, e2, hb, rfl⟩
    refine ⟨trivial, ?_⟩
    cases zs with
    | nil => cases e2
    | cons p zs =>
      simp only [List.map_cons, List.cons.injEq] at e2
      obtain ⟨rfl, rfl⟩ := e2
      have hp : p ∈ fs := by rw [e1]; simp
      have e3 : fs = (ys ++ [p]) ++ zs := by rw [e1]; simp
      have sok := (hf.ok p hp).sok
      have b0 := (hf.ok p hp).b0
      have ahead : ∀ q ∈ ys, q.1 < p.1 := fun q hq => by
        have := hf.pw
        rw [e1, List.map_append, List.pairwise_append] at this
        exact this.2.2 _ (List.mem_map.mpr ⟨q, hq, rfl⟩) _ (by simp)
      have stay : ¬ (p.2.w = w ∧ p.2.a = g ∧ b ≤ p.2.b ∧ p.2.b ≤ d) → Best (ys ++ [p]) w g d o b v := fun h => by
        by_cases c : p.2.w = w ∧ p.2.a = g ∧ p.2.b ≤ d
        · have hlt : p.2.b < b := by
            rcases Int.lt_or_le p.2.b b with z | z
            · exact z
            · exact absurd ⟨c.1, c.2.1, z, c.2.2⟩ h
          rcases hb with ⟨h1, h2, h3⟩ | ⟨q, h1, h2, h3, h4⟩
          · omega
          · refine .inr ⟨q, by rw [cand_snoc]; exact List.mem_append_left _ h1, fun r hr => ?_, h3, h4⟩
            rw [cand_snoc, if_pos c] at hr
            rcases List.mem_append.mp hr with hr | hr
            · exact h2 r hr
            · have := List.mem_singleton.mp hr
              subst this
              left; omega
        · have : cand (ys ++ [p]) w g d = cand ys w g d := by rw [cand_snoc, if_neg c, List.append_nil]
          unfold Best
          rw [this]; exact hb
      simp (maxSteps := 2000000) only [pairT, Fc.t, denS, den, Den.of, CE.cnt, CE.isNil, CO.f, BO.f, BI.den, wp_seq, wp_sIf, wp_tAnd, wp_tOr, wp_tNot, wp_tOf, wp_tCmp, wp_eBin, wp_eAnd, wp_eOr, wp_eNot, wp_eNeg, wp_eIte, wp_eSlc, wp_pNone, wp_pSome, wp_bYes, wp_asB, wp_eVar, wp_eT, wp_put, wp_asg, wp_gNam, wp_nil, wp_ret, wp_exp, wp_eApp, wp_lCons, wp_lNil, wp_ok, wp_bad, wp_nx, wp_rt, wp_bk, wp_ct, List.map_cons, List.map_nil, List.cons_append, List.nil_append, List.append_nil, List.replicate_succ, List.replicate_zero, Nat.reduceSub, List.getElem?_cons_zero, List.getElem?_cons_succ, List.set_cons_zero, List.set_cons_succ, Nat.reduceAdd, Nat.reduceLeDiff, allT_v, allT_nil, List.length_cons, List.length_nil, List.length_append, List.length_map, Nat.succ_eq_add_one, ite_true, ite_false, if_true, if_false, reduceIte, Bool.false_eq_true, decide_eq_true_eq, Bool.not_eq_true, Bool.not_eq_false, true_and, and_true, wp_bInt, wp_addI, wp_addT, wp_addL, wp_eqI, wp_eqB, wp_eqS, ixT0, ixL0, ixT1, ixL1, ixT2, ixL2, ixT3, ixL3, ixT4, ixL4, ixT5, ixL5, ixT6, ixL6, ixT7, ixL7, cutF1, cutU1, cutF2, cutU2, cutF3, cutU3, cutF4, cutU4, cutF5, cutU5, cutF6, cutU6, bag_0, bag_1, bag_2, bag_3, bagp_1, bagp_2, bagp_3, wp_slcT, wp_slcL, List.drop_succ_cons, List.drop_zero, List.take_succ_cons, List.take_zero, List.drop_nil, wp_in2, wp_inIT, wp_inIL, wp_app, wp_eBm, isW_last, wp_lstM, BMt.f, BMt.T, ofS_inj, strOk_lit, String.reduceEq, decide_false, decide_true, Bool.not_true, Bool.not_false, Bool.or_false, Bool.false_or, Bool.or_true, Bool.true_or, and_self, wp_eChn, wp_gTp, wp_gsCons, wp_gsNil, wp_isN, wipeE, List.getD_cons_zero, List.getD_cons_succ, Option.map_some, mk_tup, mk_lst, wp_len]
      refine ⟨⟨sok, hw⟩, ?_⟩
      have same : ¬ (p.2.w = w ∧ p.2.a = g ∧ b ≤ p.2.b ∧ p.2.b ≤ d) → ∃ (ys1 zs_1 : List (Int × Fc)) (b_1 : Int) (v_1 : T) (x6 x7 : Option Wd), fs = ys1 ++ zs_1 ∧ List.map Wd.v (List.map pairT zs) = List.map Wd.v (List.map pairT zs_1) ∧ Best ys1 w g d o b_1 v_1 ∧
          [some (Wd.v (T.lst (List.map pairT fs))), some (Wd.v (T.str w)), some (Wd.v (T.int g)), some (Wd.v (T.int d)), some (Wd.v o), some (Wd.v (T.tup [T.int b, v])), some (Wd.v (T.int p.1)), some (Wd.v (T.tup (T.str p.2.w :: T.int p.2.a :: T.int p.2.b :: p.2.r)))] =
          [some (Wd.v (T.lst (List.map pairT fs))), some (Wd.v (T.str w)), some (Wd.v (T.int g)), some (Wd.v (T.int d)), some (Wd.v o), some (Wd.v (T.tup [T.int b_1, v_1])), x6, x7] := fun h => ⟨ys ++ [p], zs, b, v, _, _, e3, rfl, stay h, rfl⟩
      by_cases c1 : p.2.w = w
      · rw [if_pos c1]
        by_cases c2 : p.2.a = g
        · rw [if_pos c2]
          refine ⟨rfl, ?_⟩
          by_cases c3 : b ≤ p.2.b
          · rw [if_pos c3]
            refine ⟨rfl, ?_⟩
            by_cases c4 : p.2.b ≤ d
            · rw [if_pos c4]
              obtain ⟨u, hu⟩ := hr p hp c1
              rw [hu]
              refine ⟨ys ++ [p], zs, p.2.b, r0 p.2, _, _, e3, rfl, .inr ⟨p, ?_, fun q hq => ?_, rfl, rfl⟩, rfl⟩
              · rw [cand_snoc, if_pos ⟨c1, c2, c4⟩]; simp
              · rw [cand_snoc, if_pos ⟨c1, c2, c4⟩] at hq
                rcases List.mem_append.mp hq with hq | hq
                · have lt := ahead q (cand_sub hq).1
                  rcases hb with ⟨h1, _, _⟩ | ⟨t, h1, h2, h3, h4⟩
                  · rw [h1] at hq; cases hq
                  · have := h2 q hq
                    unfold lexLe at this ⊢
                    omega
                · have := List.mem_singleton.mp hq
                  subst this
                  exact .inr ⟨rfl, Int.le_refl _⟩
            · rw [if_neg c4]
              exact same fun h => c4 h.2.2.2
          · rw [if_neg c3]
            exact same fun h => c3 h.2.2.1
        · rw [if_neg c2]
          exact same fun h => c2 h.2.1
      · rw [if_neg c1]
        exact same fun h => c1 h.1
end
end DM

set_option Elab.async false
set_option linter.all false
set_option maxRecDepth 100000
set_option maxHeartbeats 4000000
/-! DX: gates cleared, alike. -/
namespace DM
open PySem PySem.Spec PyProof.Rows DL
open Classical

def selK (gs : List Int) (g : Int) (k : Nat) : List Int := ((List.range k).map fun i : Nat => (i : Int)).filter fun x => decide (x ∈ gs) || decide (x = g)
theorem selK_succ (gs : List Int) (g : Int) (k : Nat) : selK gs g (k + 1) = selK gs g k ++ (if (k : Int) ∈ gs ∨ (k : Int) = g then [(k : Int)] else []) := by
  unfold selK
  rw [List.range_succ, List.map_append, List.filter_append]
  congr 1
  by_cases h : (k : Int) ∈ gs ∨ (k : Int) = g
  · rw [if_pos h]; simpa using h
  · rw [if_neg h]; simpa using h
theorem selK_len (gs : List Int) (g : Int) (k : Nat) : (selK gs g k).length ≤ k := by
  refine Nat.le_trans (List.length_filter_le ..) ?_
  simp
theorem selK_mem {gs : List Int} {g : Int} {k : Nat} {x : Int} : x ∈ selK gs g k ↔ (0 ≤ x ∧ x < k) ∧ (x ∈ gs ∨ x = g) := by
  unfold selK
  rw [List.mem_filter]
  simp only [List.mem_map, List.mem_range, Bool.or_eq_true, decide_eq_true_eq]
  constructor
  · rintro ⟨⟨i, hi, rfl⟩, h⟩
    exact ⟨⟨by omega, by omega⟩, h⟩
  · rintro ⟨⟨h0, h1⟩, h⟩
    exact ⟨⟨x.toNat, by omega, by omega⟩, h⟩
theorem selK_pw (gs : List Int) (g : Int) : ∀ k : Nat, (selK gs g k).Pairwise (· < ·)
  | 0 => List.Pairwise.nil
  | k + 1 => by
    rw [selK_succ, List.pairwise_append]
    refine ⟨selK_pw gs g k, by split <;> simp, fun a ha b hb => ?_⟩
    have := (selK_mem.mp ha).1
    split at hb
    · simp at hb; omega
    · cases hb
theorem sortU_sel {gs : List Int} {g : Int} (h : ∀ x ∈ gs, 0 ≤ x ∧ x < 8) (h0 : 0 ≤ g) (h1 : g < 8) : sortU (gs ++ [g]) = selK gs g 8 := by
  refine pw_uniq (sortU_pw _) (selK_pw _ _ _) fun k => ?_
  rw [sortU_mem, selK_mem, List.mem_append, List.mem_singleton]
  constructor
  · rintro (z | z)
    · exact ⟨h k z, .inl z⟩
    · subst z; exact ⟨⟨h0, h1⟩, .inr rfl⟩
  · exact fun z => z.2
section
variable {top : Int} {fs : List (Int × Fc)} {g d : Int} {st : Sto} {Q : Wd → Sto → Prop} {E : Exn → Sto → Prop}
theorem rng_words (n : Nat) : rngL 0 (n : Int) = (List.range' 0 n).map fun i : Nat => Wd.v (.int (i : Int)) := by
  unfold rngL
  rw [List.range_eq_range']
  simp
theorem clears_wp (hf : FsOk top fs) (hQ : ∀ gs : List Int, gs.length ≤ 8 → (∀ x ∈ gs, 0 ≤ x ∧ x < 8) → HoldV fs "board" g d (.tup []) (.tup (gs.map .int)) → Q (.v (.lst ((selK gs g 8).map .int))) st) : (m__law_clears [.v (.lst (fs.map pairT)), .v (.int g), .v (.int d)] st).wp Q E := by
  unfold m__law_clears
  refine wp_run rfl ?_
  simp (maxSteps := 2000000) only [c__law_clears, tb__law_clears, denS, den, Den.of, CE.cnt, CE.isNil, CO.f, BO.f, BI.den, wp_seq, wp_sIf, wp_tAnd, wp_tOr, wp_tNot, wp_tOf, wp_tCmp, wp_eBin, wp_eAnd, wp_eOr, wp_eNot, wp_eNeg, wp_eIte, wp_eSlc, wp_pNone, wp_pSome, wp_bYes, wp_asB, wp_eVar, wp_eT, wp_put, wp_asg, wp_gNam, wp_nil, wp_ret, wp_exp, wp_eApp, wp_lCons, wp_lNil, wp_ok, wp_bad, wp_nx, wp_rt, wp_bk, wp_ct, List.map_cons, List.map_nil, List.cons_append, List.nil_append, List.append_nil, List.replicate_succ, List.replicate_zero, Nat.reduceSub, List.getElem?_cons_zero, List.getElem?_cons_succ, List.set_cons_zero, List.set_cons_succ, Nat.reduceAdd, Nat.reduceLeDiff, allT_v, allT_nil, List.length_cons, List.length_nil, List.length_append, List.length_map, Nat.succ_eq_add_one, ite_true, ite_false, if_true, if_false, reduceIte, Bool.false_eq_true, decide_eq_true_eq, Bool.not_eq_true, Bool.not_eq_false, true_and, and_true, wp_bInt, wp_addI, wp_addT, wp_addL, wp_eqI, wp_eqB, wp_eqS, ixT0, ixL0, ixT1, ixL1, ixT2, ixL2, ixT3, ixL3, ixT4, ixL4, ixT5, ixL5, ixT6, ixL6, ixT7, ixL7, cutF1, cutU1, cutF2, cutU2, cutF3, cutU3, cutF4, cutU4, cutF5, cutU5, cutF6, cutU6, bag_0, bag_1, bag_2, bag_3, bagp_1, bagp_2, bagp_3, wp_slcT, wp_slcL, List.drop_succ_cons, List.drop_zero, List.take_succ_cons, List.take_zero, List.drop_nil, wp_in2, wp_inIT, wp_inIL, wp_app, wp_eBm, isW_last, wp_lstM, BMt.f, BMt.T, ofS_inj, strOk_lit, String.reduceEq, decide_false, decide_true, Bool.not_true, Bool.not_false, Bool.or_false, Bool.false_or, Bool.or_true, Bool.true_or, and_self, wp_eChn, wp_gTp, wp_gsCons, wp_gsNil, wp_isN, wipeE, List.getD_cons_zero, List.getD_cons_succ, Option.map_some, mk_tup, mk_lst, wp_len]
  refine hold_wp hf (strOk_lit _) (rest_board hf) fun v hv => ?_
  have hg : ∃ gs : List Int, v = .tup (gs.map .int) ∧ gs.length ≤ 8 ∧ ∀ x ∈ gs, 0 ≤ x ∧ x < 8 := by
    rcases hv with ⟨_, rfl⟩ | ⟨p, hp, rfl⟩
    · exact ⟨[], rfl, by simp, by simp⟩
    · obtain ⟨gs, e, h1, h2⟩ := board_r (hf.ok p (cand_sub hp.1).1) (cand_sub hp.1).2.1
      exact ⟨gs, by unfold r0; rw [e]; rfl, h1, h2⟩
  obtain ⟨gs, rfl, h1, h2⟩ := hg
  simp (maxSteps := 2000000) only [wp_eCmp, iOf, wp_bind, denS, den, Den.of, CE.cnt, CE.isNil, CO.f, BO.f, BI.den, wp_seq, wp_sIf, wp_tAnd, wp_tOr, wp_tNot, wp_tOf, wp_tCmp, wp_eBin, wp_eAnd, wp_eOr, wp_eNot, wp_eNeg, wp_eIte, wp_eSlc, wp_pNone, wp_pSome, wp_bYes, wp_asB, wp_eVar, wp_eT, wp_put, wp_asg, wp_gNam, wp_nil, wp_ret, wp_exp, wp_eApp, wp_lCons, wp_lNil, wp_ok, wp_bad, wp_nx, wp_rt, wp_bk, wp_ct, List.map_cons, List.map_nil, List.cons_append, List.nil_append, List.append_nil, List.replicate_succ, List.replicate_zero, Nat.reduceSub, List.getElem?_cons_zero, List.getElem?_cons_succ, List.set_cons_zero, List.set_cons_succ, Nat.reduceAdd, Nat.reduceLeDiff, allT_v, allT_nil, List.length_cons, List.length_nil, List.length_append, List.length_map, Nat.succ_eq_add_one, ite_true, ite_false, if_true, if_false, reduceIte, Bool.false_eq_true, decide_eq_true_eq, Bool.not_eq_true, Bool.not_eq_false, true_and, and_true, wp_bInt, wp_addI, wp_addT, wp_addL, wp_eqI, wp_eqB, wp_eqS, ixT0, ixL0, ixT1, ixL1, ixT2, ixL2, ixT3, ixL3, ixT4, ixL4, ixT5, ixL5, ixT6, ixL6, ixT7, ixL7, cutF1, cutU1, cutF2, cutU2, cutF3, cutU3, cutF4, cutU4, cutF5, cutU5, cutF6, cutU6, bag_0, bag_1, bag_2, bag_3, bagp_1, bagp_2, bagp_3, wp_slcT, wp_slcL, List.drop_succ_cons, List.drop_zero, List.take_succ_cons, List.take_zero, List.drop_nil, wp_in2, wp_inIT, wp_inIL, wp_app, wp_eBm, isW_last, wp_lstM, BMt.f, BMt.T, ofS_inj, strOk_lit, String.reduceEq, decide_false, decide_true, Bool.not_true, Bool.not_false, Bool.or_false, Bool.false_or, Bool.or_true, Bool.true_or, and_self, wp_eChn, wp_gTp, wp_gsCons, wp_gsNil, wp_isN, wipeE, List.getD_cons_zero, List.getD_cons_succ, Option.map_some, mk_tup, mk_lst, wp_len]
  refine wp_rng1 (by decide) ?_
  refine wp_cmpL (I := fun ws acc st1 => st1 = st ∧ ∃ k : Nat, acc = ((selK gs g k).map T.int).map Wd.v ∧ ws = (List.range' k (8 - k)).map (fun i : Nat => Wd.v (.int (i : Int))) ∧ k ≤ 8) ?_ ?_ _ _ _ ⟨rfl, 0, rfl, rng_words 8, by omega⟩
  · rintro acc st1 ⟨rfl, k, rfl, e, hk⟩
    refine ⟨trivial, ?_⟩
    have : 8 - k = 0 := by
      cases h : 8 - k with
      | zero => rfl
      | succ j => rw [h, List.range'_succ] at e; cases e
    have : k = 8 := by omega
    subst this
    simp (maxSteps := 2000000) only [frzL_ts, denS, den, Den.of, CE.cnt, CE.isNil, CO.f, BO.f, BI.den, wp_seq, wp_sIf, wp_tAnd, wp_tOr, wp_tNot, wp_tOf, wp_tCmp, wp_eBin, wp_eAnd, wp_eOr, wp_eNot, wp_eNeg, wp_eIte, wp_eSlc, wp_pNone, wp_pSome, wp_bYes, wp_asB, wp_eVar, wp_eT, wp_put, wp_asg, wp_gNam, wp_nil, wp_ret, wp_exp, wp_eApp, wp_lCons, wp_lNil, wp_ok, wp_bad, wp_nx, wp_rt, wp_bk, wp_ct, List.map_cons, List.map_nil, List.cons_append, List.nil_append, List.append_nil, List.replicate_succ, List.replicate_zero, Nat.reduceSub, List.getElem?_cons_zero, List.getElem?_cons_succ, List.set_cons_zero, List.set_cons_succ, Nat.reduceAdd, Nat.reduceLeDiff, allT_v, allT_nil, List.length_cons, List.length_nil, List.length_append, List.length_map, Nat.succ_eq_add_one, ite_true, ite_false, if_true, if_false, reduceIte, Bool.false_eq_true, decide_eq_true_eq, Bool.not_eq_true, Bool.not_eq_false, true_and, and_true, wp_bInt, wp_addI, wp_addT, wp_addL, wp_eqI, wp_eqB, wp_eqS, ixT0, ixL0, ixT1, ixL1, ixT2, ixL2, ixT3, ixL3, ixT4, ixL4, ixT5, ixL5, ixT6, ixL6, ixT7, ixL7, cutF1, cutU1, cutF2, cutU2, cutF3, cutU3, cutF4, cutU4, cutF5, cutU5, cutF6, cutU6, bag_0, bag_1, bag_2, bag_3, bagp_1, bagp_2, bagp_3, wp_slcT, wp_slcL, List.drop_succ_cons, List.drop_zero, List.take_succ_cons, List.take_zero, List.drop_nil, wp_in2, wp_inIT, wp_inIL, wp_app, wp_eBm, isW_last, wp_lstM, BMt.f, BMt.T, ofS_inj, strOk_lit, String.reduceEq, decide_false, decide_true, Bool.not_true, Bool.not_false, Bool.or_false, Bool.false_or, Bool.or_true, Bool.true_or, and_self, wp_eChn, wp_gTp, wp_gsCons, wp_gsNil, wp_isN, wipeE, List.getD_cons_zero, List.getD_cons_succ, Option.map_some, mk_tup, mk_lst, wp_len]
    exact close_same (hQ gs h1 h2 hv)
  · rintro w ws acc st1 ⟨rfl, k, rfl, e, hk⟩
    refine ⟨trivial, ?_⟩
    have hk8 : k < 8 := by
      rcases Nat.lt_or_ge k 8 with h | h
      · exact h
      · have : 8 - k = 0 := by omega
        rw [this] at e; cases e
    have hj : 8 - k = (7 - k) + 1 := by omega
    rw [hj, List.range'_succ, List.map_cons] at e
    injection e with e1 e2
    subst e1
    have e3 : 8 - (k + 1) = 7 - k := by omega
    have nx := selK_succ gs g k
    simp (maxSteps := 2000000) only [denS, den, Den.of, CE.cnt, CE.isNil, CO.f, BO.f, BI.den, wp_seq, wp_sIf, wp_tAnd, wp_tOr, wp_tNot, wp_tOf, wp_tCmp, wp_eBin, wp_eAnd, wp_eOr, wp_eNot, wp_eNeg, wp_eIte, wp_eSlc, wp_pNone, wp_pSome, wp_bYes, wp_asB, wp_eVar, wp_eT, wp_put, wp_asg, wp_gNam, wp_nil, wp_ret, wp_exp, wp_eApp, wp_lCons, wp_lNil, wp_ok, wp_bad, wp_nx, wp_rt, wp_bk, wp_ct, List.map_cons, List.map_nil, List.cons_append, List.nil_append, List.append_nil, List.replicate_succ, List.replicate_zero, Nat.reduceSub, List.getElem?_cons_zero, List.getElem?_cons_succ, List.set_cons_zero, List.set_cons_succ, Nat.reduceAdd, Nat.reduceLeDiff, allT_v, allT_nil, List.length_cons, List.length_nil, List.length_append, List.length_map, Nat.succ_eq_add_one, ite_true, ite_false, if_true, if_false, reduceIte, Bool.false_eq_true, decide_eq_true_eq, Bool.not_eq_true, Bool.not_eq_false, true_and, and_true, wp_bInt, wp_addI, wp_addT, wp_addL, wp_eqI, wp_eqB, wp_eqS, ixT0, ixL0, ixT1, ixL1, ixT2, ixL2, ixT3, ixL3, ixT4, ixL4, ixT5, ixL5, ixT6, ixL6, ixT7, ixL7, cutF1, cutU1, cutF2, cutU2, cutF3, cutU3, cutF4, cutU4, cutF5, cutU5, cutF6, cutU6, bag_0, bag_1, bag_2, bag_3, bagp_1, bagp_2, bagp_3, wp_slcT, wp_slcL, List.drop_succ_cons, List.drop_zero, List.take_succ_cons, List.take_zero, List.drop_nil, wp_in2, wp_inIT, wp_inIL, wp_app, wp_eBm, isW_last, wp_lstM, BMt.f, BMt.T, ofS_inj, strOk_lit, String.reduceEq, decide_false, decide_true, Bool.not_true, Bool.not_false, Bool.or_false, Bool.false_or, Bool.or_true, Bool.true_or, and_self, wp_eChn, wp_gTp, wp_gsCons, wp_gsNil, wp_isN, wipeE, List.getD_cons_zero, List.getD_cons_succ, Option.map_some, mk_tup, mk_lst, wp_len]
    by_cases c1 : (k : Int) ∈ gs
    · rw [if_pos c1]
      exact ⟨k + 1, by rw [nx, if_pos (.inl c1)]; simp, by rw [e3]; exact e2, by omega⟩
    · rw [if_neg c1]
      by_cases c2 : (k : Int) = g
      · rw [if_pos c2]
        exact ⟨k + 1, by rw [nx, if_pos (.inr c2)]; simp, by rw [e3]; exact e2, by omega⟩
      · rw [if_neg c2]
        exact ⟨k + 1, by rw [nx, if_neg (fun z => z.elim c1 c2)]; simp, by rw [e3]; exact e2, by omega⟩
/-! ### alike -/
theorem wp_isi {c : TN} {t : T} : (fIsi c (.v t) st).wp Q E = match t.ty with | some ty => Q (.v (.bl (isB ty c))) st | none => False := by
  unfold fIsi tyW
  dsimp only
  cases t.ty <;> rfl
theorem wp_isiTL {t : T} : (fIsiTL (.v t) st).wp Q E = match t.ty with | some ty => Q (.v (.bl (isB ty .tuple || isB ty .list))) st | none => False := by
  unfold fIsiTL tyW
  dsimp only
  cases t.ty <;> rfl
theorem like_int {f : Nat} {a : Int} (hQ : Q (.v (.bl true)) st) : (m__law_like (f + 1) [.v (.int a), .v (.int a)] st).wp Q E := by
  unfold m__law_like
  refine wp_run rfl ?_
  simp (maxSteps := 2000000) only [c__law_like, wp_bind, wp_isi, wp_isiTL, T.ty, isB, beq_self_eq_true, denS, den, Den.of, CE.cnt, CE.isNil, CO.f, BO.f, BI.den, wp_seq, wp_sIf, wp_tAnd, wp_tOr, wp_tNot, wp_tOf, wp_tCmp, wp_eBin, wp_eAnd, wp_eOr, wp_eNot, wp_eNeg, wp_eIte, wp_eSlc, wp_pNone, wp_pSome, wp_bYes, wp_asB, wp_eVar, wp_eT, wp_put, wp_asg, wp_gNam, wp_nil, wp_ret, wp_exp, wp_eApp, wp_lCons, wp_lNil, wp_ok, wp_bad, wp_nx, wp_rt, wp_bk, wp_ct, List.map_cons, List.map_nil, List.cons_append, List.nil_append, List.append_nil, List.replicate_succ, List.replicate_zero, Nat.reduceSub, List.getElem?_cons_zero, List.getElem?_cons_succ, List.set_cons_zero, List.set_cons_succ, Nat.reduceAdd, Nat.reduceLeDiff, allT_v, allT_nil, List.length_cons, List.length_nil, List.length_append, List.length_map, Nat.succ_eq_add_one, ite_true, ite_false, if_true, if_false, reduceIte, Bool.false_eq_true, decide_eq_true_eq, Bool.not_eq_true, Bool.not_eq_false, true_and, and_true, wp_bInt, wp_addI, wp_addT, wp_addL, wp_eqI, wp_eqB, wp_eqS, ixT0, ixL0, ixT1, ixL1, ixT2, ixL2, ixT3, ixL3, ixT4, ixL4, ixT5, ixL5, ixT6, ixL6, ixT7, ixL7, cutF1, cutU1, cutF2, cutU2, cutF3, cutU3, cutF4, cutU4, cutF5, cutU5, cutF6, cutU6, bag_0, bag_1, bag_2, bag_3, bagp_1, bagp_2, bagp_3, wp_slcT, wp_slcL, List.drop_succ_cons, List.drop_zero, List.take_succ_cons, List.take_zero, List.drop_nil, wp_in2, wp_inIT, wp_inIL, wp_app, wp_eBm, isW_last, wp_lstM, BMt.f, BMt.T, ofS_inj, strOk_lit, String.reduceEq, decide_false, decide_true, Bool.not_true, Bool.not_false, Bool.or_false, Bool.false_or, Bool.or_true, Bool.true_or, and_self, wp_eChn, wp_gTp, wp_gsCons, wp_gsNil, wp_isN, wipeE, List.getD_cons_zero, List.getD_cons_succ, Option.map_some, mk_tup, mk_lst, wp_len]
  exact close_same hQ
theorem wp_all {ts : List T} (h : ∀ t ∈ ts, t = .bl true) : (fAll [.v (.lst ts)] st).wp Q E = Q (.v (.bl true)) st := by
  have e : ∃ bs, blsT ts = some bs ∧ bs.all (fun b => b) = true := by
    induction ts with
    | nil => exact ⟨[], rfl, rfl⟩
    | cons t r ih =>
      obtain ⟨bs, h1, h2⟩ := ih fun u hu => h u (List.mem_cons_of_mem _ hu)
      have := h t (List.mem_cons_self ..)
      subst this
      exact ⟨true :: bs, by simp [blsT, h1], by simpa using h2⟩
  obtain ⟨bs, h1, h2⟩ := e
  unfold fAll
  simp only [tsL_v, h1]
  have h3 : bs.all id = true := h2
  rw [h3]; rfl
theorem wp_lenT {ts : List T} : (fLen [.v (.tup ts)] st).wp Q E = Q (.v (.int ts.length)) st := by
  have e : fLen [.v (.tup ts)] st = .ok (.v (.int ts.length)) st := by simp [fLen]
  rw [e]; rfl
theorem like_tup {f : Nat} {ns : List Int} (hl : ns.length ≤ 100) (hQ : Q (.v (.bl true)) st) : (m__law_like (f + 2) [.v (.tup (ns.map .int)), .v (.tup (ns.map .int))] st).wp Q E := by
  unfold m__law_like
  refine wp_run rfl ?_
  simp (maxSteps := 2000000) only [c__law_like, tb__law_like, wp_bind, wp_isi, wp_isiTL, T.ty, isB, beq_self_eq_true, wp_eCmp, iOf, wp_lenT, denS, den, Den.of, CE.cnt, CE.isNil, CO.f, BO.f, BI.den, wp_seq, wp_sIf, wp_tAnd, wp_tOr, wp_tNot, wp_tOf, wp_tCmp, wp_eBin, wp_eAnd, wp_eOr, wp_eNot, wp_eNeg, wp_eIte, wp_eSlc, wp_pNone, wp_pSome, wp_bYes, wp_asB, wp_eVar, wp_eT, wp_put, wp_asg, wp_gNam, wp_nil, wp_ret, wp_exp, wp_eApp, wp_lCons, wp_lNil, wp_ok, wp_bad, wp_nx, wp_rt, wp_bk, wp_ct, List.map_cons, List.map_nil, List.cons_append, List.nil_append, List.append_nil, List.replicate_succ, List.replicate_zero, Nat.reduceSub, List.getElem?_cons_zero, List.getElem?_cons_succ, List.set_cons_zero, List.set_cons_succ, Nat.reduceAdd, Nat.reduceLeDiff, allT_v, allT_nil, List.length_cons, List.length_nil, List.length_append, List.length_map, Nat.succ_eq_add_one, ite_true, ite_false, if_true, if_false, reduceIte, Bool.false_eq_true, decide_eq_true_eq, Bool.not_eq_true, Bool.not_eq_false, true_and, and_true, wp_bInt, wp_addI, wp_addT, wp_addL, wp_eqI, wp_eqB, wp_eqS, ixT0, ixL0, ixT1, ixL1, ixT2, ixL2, ixT3, ixL3, ixT4, ixL4, ixT5, ixL5, ixT6, ixL6, ixT7, ixL7, cutF1, cutU1, cutF2, cutU2, cutF3, cutU3, cutF4, cutU4, cutF5, cutU5, cutF6, cutU6, bag_0, bag_1, bag_2, bag_3, bagp_1, bagp_2, bagp_3, wp_slcT, wp_slcL, List.drop_succ_cons, List.drop_zero, List.take_succ_cons, List.take_zero, List.drop_nil, wp_in2, wp_inIT, wp_inIL, wp_app, wp_eBm, isW_last, wp_lstM, BMt.f, BMt.T, ofS_inj, strOk_lit, String.reduceEq, decide_false, decide_true, Bool.not_true, Bool.not_false, Bool.or_false, Bool.false_or, Bool.or_true, Bool.true_or, and_self, wp_eChn, wp_gTp, wp_gsCons, wp_gsNil, wp_isN, wipeE, List.getD_cons_zero, List.getD_cons_succ, Option.map_some, mk_tup, mk_lst, wp_len]
  refine wp_rng1 (by omega) ?_
  refine wp_cmpL (I := fun ws acc st1 => st1 = st ∧ ∃ k : Nat, acc = (List.replicate k (T.bl true)).map Wd.v ∧ ws = (List.range' k (ns.length - k)).map (fun i : Nat => Wd.v (.int (i : Int))) ∧ k ≤ ns.length) ?_ ?_ _ _ _ ⟨rfl, 0, rfl, rng_words _, by omega⟩
  · rintro acc st1 ⟨rfl, k, rfl, e, hk⟩
    refine ⟨trivial, ?_⟩
    simp (maxSteps := 2000000) only [frzL_ts, denS, den, Den.of, CE.cnt, CE.isNil, CO.f, BO.f, BI.den, wp_seq, wp_sIf, wp_tAnd, wp_tOr, wp_tNot, wp_tOf, wp_tCmp, wp_eBin, wp_eAnd, wp_eOr, wp_eNot, wp_eNeg, wp_eIte, wp_eSlc, wp_pNone, wp_pSome, wp_bYes, wp_asB, wp_eVar, wp_eT, wp_put, wp_asg, wp_gNam, wp_nil, wp_ret, wp_exp, wp_eApp, wp_lCons, wp_lNil, wp_ok, wp_bad, wp_nx, wp_rt, wp_bk, wp_ct, List.map_cons, List.map_nil, List.cons_append, List.nil_append, List.append_nil, List.replicate_succ, List.replicate_zero, Nat.reduceSub, List.getElem?_cons_zero, List.getElem?_cons_succ, List.set_cons_zero, List.set_cons_succ, Nat.reduceAdd, Nat.reduceLeDiff, allT_v, allT_nil, List.length_cons, List.length_nil, List.length_append, List.length_map, Nat.succ_eq_add_one, ite_true, ite_false, if_true, if_false, reduceIte, Bool.false_eq_true, decide_eq_true_eq, Bool.not_eq_true, Bool.not_eq_false, true_and, and_true, wp_bInt, wp_addI, wp_addT, wp_addL, wp_eqI, wp_eqB, wp_eqS, ixT0, ixL0, ixT1, ixL1, ixT2, ixL2, ixT3, ixL3, ixT4, ixL4, ixT5, ixL5, ixT6, ixL6, ixT7, ixL7, cutF1, cutU1, cutF2, cutU2, cutF3, cutU3, cutF4, cutU4, cutF5, cutU5, cutF6, cutU6, bag_0, bag_1, bag_2, bag_3, bagp_1, bagp_2, bagp_3, wp_slcT, wp_slcL, List.drop_succ_cons, List.drop_zero, List.take_succ_cons, List.take_zero, List.drop_nil, wp_in2, wp_inIT, wp_inIL, wp_app, wp_eBm, isW_last, wp_lstM, BMt.f, BMt.T, ofS_inj, strOk_lit, String.reduceEq, decide_false, decide_true, Bool.not_true, Bool.not_false, Bool.or_false, Bool.false_or, Bool.or_true, Bool.true_or, and_self, wp_eChn, wp_gTp, wp_gsCons, wp_gsNil, wp_isN, wipeE, List.getD_cons_zero, List.getD_cons_succ, Option.map_some, mk_tup, mk_lst, wp_len]
    rw [wp_all (fun t ht => (List.mem_replicate.mp ht).2)]
    exact close_same hQ
  · rintro w ws acc st1 ⟨rfl, k, rfl, e, hk⟩
    refine ⟨trivial, ?_⟩
    have hk8 : k < ns.length := by
      rcases Nat.lt_or_ge k ns.length with h | h
      · exact h
      · have : ns.length - k = 0 := by omega
        rw [this] at e; cases e
    have hj : ns.length - k = (ns.length - (k + 1)) + 1 := by omega
    rw [hj, List.range'_succ, List.map_cons] at e
    injection e with e1 e2
    subst e1
    simp (maxSteps := 2000000) only [denS, den, Den.of, CE.cnt, CE.isNil, CO.f, BO.f, BI.den, wp_seq, wp_sIf, wp_tAnd, wp_tOr, wp_tNot, wp_tOf, wp_tCmp, wp_eBin, wp_eAnd, wp_eOr, wp_eNot, wp_eNeg, wp_eIte, wp_eSlc, wp_pNone, wp_pSome, wp_bYes, wp_asB, wp_eVar, wp_eT, wp_put, wp_asg, wp_gNam, wp_nil, wp_ret, wp_exp, wp_eApp, wp_lCons, wp_lNil, wp_ok, wp_bad, wp_nx, wp_rt, wp_bk, wp_ct, List.map_cons, List.map_nil, List.cons_append, List.nil_append, List.append_nil, List.replicate_succ, List.replicate_zero, Nat.reduceSub, List.getElem?_cons_zero, List.getElem?_cons_succ, List.set_cons_zero, List.set_cons_succ, Nat.reduceAdd, Nat.reduceLeDiff, allT_v, allT_nil, List.length_cons, List.length_nil, List.length_append, List.length_map, Nat.succ_eq_add_one, ite_true, ite_false, if_true, if_false, reduceIte, Bool.false_eq_true, decide_eq_true_eq, Bool.not_eq_true, Bool.not_eq_false, true_and, and_true, wp_bInt, wp_addI, wp_addT, wp_addL, wp_eqI, wp_eqB, wp_eqS, ixT0, ixL0, ixT1, ixL1, ixT2, ixL2, ixT3, ixL3, ixT4, ixL4, ixT5, ixL5, ixT6, ixL6, ixT7, ixL7, cutF1, cutU1, cutF2, cutU2, cutF3, cutU3, cutF4, cutU4, cutF5, cutU5, cutF6, cutU6, bag_0, bag_1, bag_2, bag_3, bagp_1, bagp_2, bagp_3, wp_slcT, wp_slcL, List.drop_succ_cons, List.drop_zero, List.take_succ_cons, List.take_zero, List.drop_nil, wp_in2, wp_inIT, wp_inIL, wp_app, wp_eBm, isW_last, wp_lstM, BMt.f, BMt.T, ofS_inj, strOk_lit, String.reduceEq, decide_false, decide_true, Bool.not_true, Bool.not_false, Bool.or_false, Bool.false_or, Bool.or_true, Bool.true_or, and_self, wp_eChn, wp_gTp, wp_gsCons, wp_gsNil, wp_isN, wipeE, List.getD_cons_zero, List.getD_cons_succ, Option.map_some, mk_tup, mk_lst, wp_len]
    rw [wp_idxT (t := .int ns[k]) (by simp [hk8]), wp_idxT (t := .int ns[k]) (by simp [hk8])]
    refine like_int ?_
    exact ⟨rfl, k + 1, by rw [List.replicate_succ', List.map_append]; rfl, e2, by omega⟩
end
theorem wp_slcS {ns : List Int} {lo hi : Option Int} {st : Sto} {Q : Wd → Sto → Prop} {E : Exn → Sto → Prop} : (bSlc (.v (.scr ns)) lo hi st).wp Q E = Q (.v (.lst ((cutT ns lo hi).map .int))) st := rfl
theorem bag_wp {ns : List Int} {Q : Wd → Sto → Prop} {E : Exn → Sto → Prop} (hQ : ∀ B : Bag, Q (.ref 0) [B.ob]) : (m__law_bag [.v (.scr ns)] []).wp Q E := by
  unfold m__law_bag
  refine wp_runK rfl ?_
  simp (maxSteps := 2000000) only [c__law_bag, tb__law_bag, wp_sFor, iOf, wp_bind, wp_slcS, wIter, denS, den, Den.of, CE.cnt, CE.isNil, CO.f, BO.f, BI.den, wp_seq, wp_sIf, wp_tAnd, wp_tOr, wp_tNot, wp_tOf, wp_tCmp, wp_eBin, wp_eAnd, wp_eOr, wp_eNot, wp_eNeg, wp_eIte, wp_eSlc, wp_pNone, wp_pSome, wp_bYes, wp_asB, wp_eVar, wp_eT, wp_put, wp_asg, wp_gNam, wp_nil, wp_ret, wp_exp, wp_eApp, wp_lCons, wp_lNil, wp_ok, wp_bad, wp_nx, wp_rt, wp_bk, wp_ct, List.map_cons, List.map_nil, List.cons_append, List.nil_append, List.append_nil, List.replicate_succ, List.replicate_zero, Nat.reduceSub, List.getElem?_cons_zero, List.getElem?_cons_succ, List.set_cons_zero, List.set_cons_succ, Nat.reduceAdd, Nat.reduceLeDiff, allT_v, allT_nil, List.length_cons, List.length_nil, List.length_append, List.length_map, Nat.succ_eq_add_one, ite_true, ite_false, if_true, if_false, reduceIte, Bool.false_eq_true, decide_eq_true_eq, Bool.not_eq_true, Bool.not_eq_false, true_and, and_true, wp_bInt, wp_addI, wp_addT, wp_addL, wp_eqI, wp_eqB, wp_eqS, ixT0, ixL0, ixT1, ixL1, ixT2, ixL2, ixT3, ixL3, ixT4, ixL4, ixT5, ixL5, ixT6, ixL6, ixT7, ixL7, cutF1, cutU1, cutF2, cutU2, cutF3, cutU3, cutF4, cutU4, cutF5, cutU5, cutF6, cutU6, bag_0, bag_1, bag_2, bag_3, bagp_1, bagp_2, bagp_3, wp_slcT, wp_slcL, List.drop_succ_cons, List.drop_zero, List.take_succ_cons, List.take_zero, List.drop_nil, wp_in2, wp_inIT, wp_inIL, wp_app, wp_eBm, isW_last, wp_lstM, BMt.f, BMt.T, ofS_inj, strOk_lit, String.reduceEq, decide_false, decide_true, Bool.not_true, Bool.not_false, Bool.or_false, Bool.false_or, Bool.or_true, Bool.true_or, and_self, wp_eChn, wp_gTp, wp_gsCons, wp_gsNil, wp_isN, wipeE, List.getD_cons_zero, List.getD_cons_succ, Option.map_some, mk_tup, mk_lst, wp_len]
  refine wp_forL (I := fun ws ρ st => st = [] ∧ ∃ (zs : List Int) (s : Int) (x : Option Wd), ws = (zs.map T.int).map Wd.v ∧ ρ = [some (.v (.scr ns)), some (.v (.int s)), x]) ?_ ?_ _ _ _ ⟨rfl, cutT ns none (some 63), 977, none, rfl, rfl⟩
  · rintro ρ st ⟨rfl, zs, s, x, e, rfl⟩
    refine ⟨trivial, ?_⟩
    simp (maxSteps := 2000000) only [wp_slcS, wp_listL, mkLstM, denS, den, Den.of, CE.cnt, CE.isNil, CO.f, BO.f, BI.den, wp_seq, wp_sIf, wp_tAnd, wp_tOr, wp_tNot, wp_tOf, wp_tCmp, wp_eBin, wp_eAnd, wp_eOr, wp_eNot, wp_eNeg, wp_eIte, wp_eSlc, wp_pNone, wp_pSome, wp_bYes, wp_asB, wp_eVar, wp_eT, wp_put, wp_asg, wp_gNam, wp_nil, wp_ret, wp_exp, wp_eApp, wp_lCons, wp_lNil, wp_ok, wp_bad, wp_nx, wp_rt, wp_bk, wp_ct, List.map_cons, List.map_nil, List.cons_append, List.nil_append, List.append_nil, List.replicate_succ, List.replicate_zero, Nat.reduceSub, List.getElem?_cons_zero, List.getElem?_cons_succ, List.set_cons_zero, List.set_cons_succ, Nat.reduceAdd, Nat.reduceLeDiff, allT_v, allT_nil, List.length_cons, List.length_nil, List.length_append, List.length_map, Nat.succ_eq_add_one, ite_true, ite_false, if_true, if_false, reduceIte, Bool.false_eq_true, decide_eq_true_eq, Bool.not_eq_true, Bool.not_eq_false, true_and, and_true, wp_bInt, wp_addI, wp_addT, wp_addL, wp_eqI, wp_eqB, wp_eqS, ixT0, ixL0, ixT1, ixL1, ixT2, ixL2, ixT3, ixL3, ixT4, ixL4, ixT5, ixL5, ixT6, ixL6, ixT7, ixL7, cutF1, cutU1, cutF2, cutU2, cutF3, cutU3, cutF4, cutU4, cutF5, cutU5, cutF6, cutU6, bag_0, bag_1, bag_2, bag_3, bagp_1, bagp_2, bagp_3, wp_slcT, wp_slcL, List.drop_succ_cons, List.drop_zero, List.take_succ_cons, List.take_zero, List.drop_nil, wp_in2, wp_inIT, wp_inIL, wp_app, wp_eBm, isW_last, wp_lstM, BMt.f, BMt.T, ofS_inj, strOk_lit, String.reduceEq, decide_false, decide_true, Bool.not_true, Bool.not_false, Bool.or_false, Bool.false_or, Bool.or_true, Bool.true_or, and_self, wp_eChn, wp_gTp, wp_gsCons, wp_gsNil, wp_isN, wipeE, List.getD_cons_zero, List.getD_cons_succ, Option.map_some, mk_tup, mk_lst, wp_len]
    exact hQ ⟨cutT ns none (some 63), 0, 0, s⟩
  · rintro w ws ρ st ⟨rfl, zs, s, x, e, rfl⟩
    refine ⟨trivial, ?_⟩
    cases zs with
    | nil => cases e
    | cons z zs =>
      simp only [List.map_cons, List.cons.injEq] at e
      obtain ⟨rfl, rfl⟩ := e
      simp (maxSteps := 2000000) only [denS, den, Den.of, CE.cnt, CE.isNil, CO.f, BO.f, BI.den, wp_seq, wp_sIf, wp_tAnd, wp_tOr, wp_tNot, wp_tOf, wp_tCmp, wp_eBin, wp_eAnd, wp_eOr, wp_eNot, wp_eNeg, wp_eIte, wp_eSlc, wp_pNone, wp_pSome, wp_bYes, wp_asB, wp_eVar, wp_eT, wp_put, wp_asg, wp_gNam, wp_nil, wp_ret, wp_exp, wp_eApp, wp_lCons, wp_lNil, wp_ok, wp_bad, wp_nx, wp_rt, wp_bk, wp_ct, List.map_cons, List.map_nil, List.cons_append, List.nil_append, List.append_nil, List.replicate_succ, List.replicate_zero, Nat.reduceSub, List.getElem?_cons_zero, List.getElem?_cons_succ, List.set_cons_zero, List.set_cons_succ, Nat.reduceAdd, Nat.reduceLeDiff, allT_v, allT_nil, List.length_cons, List.length_nil, List.length_append, List.length_map, Nat.succ_eq_add_one, ite_true, ite_false, if_true, if_false, reduceIte, Bool.false_eq_true, decide_eq_true_eq, Bool.not_eq_true, Bool.not_eq_false, true_and, and_true, wp_bInt, wp_addI, wp_addT, wp_addL, wp_eqI, wp_eqB, wp_eqS, ixT0, ixL0, ixT1, ixL1, ixT2, ixL2, ixT3, ixL3, ixT4, ixL4, ixT5, ixL5, ixT6, ixL6, ixT7, ixL7, cutF1, cutU1, cutF2, cutU2, cutF3, cutU3, cutF4, cutU4, cutF5, cutU5, cutF6, cutU6, bag_0, bag_1, bag_2, bag_3, bagp_1, bagp_2, bagp_3, wp_slcT, wp_slcL, List.drop_succ_cons, List.drop_zero, List.take_succ_cons, List.take_zero, List.drop_nil, wp_in2, wp_inIT, wp_inIL, wp_app, wp_eBm, isW_last, wp_lstM, BMt.f, BMt.T, ofS_inj, strOk_lit, String.reduceEq, decide_false, decide_true, Bool.not_true, Bool.not_false, Bool.or_false, Bool.false_or, Bool.or_true, Bool.true_or, and_self, wp_eChn, wp_gTp, wp_gsCons, wp_gsNil, wp_isN, wipeE, List.getD_cons_zero, List.getD_cons_succ, Option.map_some, mk_tup, mk_lst, wp_len]
      exact ⟨mulOk_r (by decide) (by decide), by decide, by decide, zs, _, _, rfl, rfl⟩
end DM

set_option Elab.async false
set_option linter.all false
set_option maxRecDepth 100000
set_option maxHeartbeats 0
/-! the mirrors of law k06, printed by gen.py -/
namespace K06
open PySem PySem.Spec PyProof.Rows L2 DL DM
def N_law : List Str := ["_law_script", "_law_bag_here", "_law_facts_here", "_law_handed", "_law_words", "_law_days", "_law_turn", "_law_gate_here", "_law_day_here", "_law_number", "_law_fact_here"]
def tb_law : Tab := { glo := [], fn := [("_law_bag", 1, []), ("_law_facts", 2, []), ("_law_gate", 1, []), ("_law_day", 1, []), ("_law_pull", 2, []), ("_law_like", 2, []), ("toll_on", 3, []), ("_law_hold", 5, []), ("trust_on", 3, []), ("board_on", 3, []), ("_law_clears", 3, [])], mt := [], cn := [], fld := [], free := ["list", "range", "max", "len", "tuple"] }
def c_law : CS := (.cons (.asg 1 (.call 0 (.cons (.var 0) .nil))) (.cons (.asg 2 (.call 1 (.cons (.var 1) (.cons (.int 30) .nil)))) (.cons (.asg 3 (.bi .list (.cons (.var 2) .nil))) (.cons (.asg 4 (.lst (.cons (.str "toll") (.cons (.str "board") (.cons (.str "trust") .nil))))) (.cons (.asg 5 (.bin .add (.lst (.cons (.int 0) .nil)) (.cmpr true [9, 10] (.tup (.cons (.var 9) (.cons (.var 10) .nil))) (.var 2) (.cmp .in_ (.idx (.var 10) (.int 0)) (.var 4)) (.idx (.var 10) (.int 2))))) (.cons (.for_ (.var 6) (.rng1 (.cons (.int 8) .nil)) (.cons (.asg 7 (.call 2 (.cons (.var 1) .nil))) (.cons (.asg 8 (.call 3 (.cons (.var 1) .nil))) (.cons (.ifs (.cmp .eq (.call 4 (.cons (.var 1) (.cons (.int 2) .nil))) (.int 0)) (.cons (.asg 8 (.bi .max2 (.cons (.int 0) (.cons (.bin .sub (.idx (.var 5) (.call 4 (.cons (.var 1) (.cons (.bi .len (.cons (.var 5) .nil)) .nil)))) (.call 4 (.cons (.var 1) (.cons (.int 2) .nil)))) .nil)))) .nil) .nil) (.cons (.ifs (.not_ (.call 5 (.cons (.call 6 (.cons (.var 3) (.cons (.var 7) (.cons (.var 8) .nil)))) (.cons (.call 7 (.cons (.var 2) (.cons (.str "toll") (.cons (.var 7) (.cons (.var 8) (.cons (.int 0) .nil)))))) .nil)))) (.cons (.ret (.bl false)) .nil) .nil) (.cons (.ifs (.not_ (.call 5 (.cons (.call 8 (.cons (.var 3) (.cons (.var 7) (.cons (.var 8) .nil)))) (.cons (.call 7 (.cons (.var 2) (.cons (.str "trust") (.cons (.var 7) (.cons (.var 8) (.cons (.int 0) .nil)))))) .nil)))) (.cons (.ret (.bl false)) .nil) .nil) (.cons (.ifs (.not_ (.call 5 (.cons (.call 9 (.cons (.var 3) (.cons (.var 7) (.cons (.var 8) .nil)))) (.cons (.bi .tuple (.cons (.call 10 (.cons (.var 2) (.cons (.var 7) (.cons (.var 8) .nil)))) .nil)) .nil)))) (.cons (.ret (.bl false)) .nil) .nil) (.cons (.ifs (.cmp .ne (.var 3) (.var 2)) (.cons (.ret (.bl false)) .nil) .nil) .nil)))))))) (.cons (.ret (.bl true)) .nil)))))))
noncomputable def m_law : MF := runD false 11 1 (denS tb_law { fn := [m__law_bag, m__law_facts, m__law_gate, m__law_day, m__law_pull, (m__law_like 6), m_toll_on, m__law_hold, m_trust_on, m_board_on, m__law_clears], mt := [], cn := [] } c_law)
def top (i : Nat) : Stmt := PySem.Challenge.pw_pikeroll_k06_what_holds_on_a_day.main.body.getD i (.Pass ⟨0, 0, 0, 0⟩)
def inC (s : Stmt) (j : Nat) : Stmt := match s with
  | .ClassDef (body := body) .. => body.getD j (.Pass ⟨0, 0, 0, 0⟩)
  | s => s
abbrev s__law_bag : Stmt := (top 6)
def d__law_bag : He.DefD := ⟨("_law_bag", none), "_law_bag", "_law_bag", defArgs s__law_bag, defBody s__law_bag, defScope s__law_bag, [], []⟩
theorem sc__law_bag : FnScope N__law_bag ["_law_script"] (defScope s__law_bag) := ⟨rfl, rfl, rfl, by decide +kernel, rfl, by decide +kernel, by decide +kernel⟩
theorem ck__law_bag : (chkS tb__law_bag N__law_bag c__law_bag).b ⟨defScope s__law_bag, true⟩ (defBody s__law_bag) = true := by decide +kernel
abbrev s__law_pull : Stmt := (top 7)
def d__law_pull : He.DefD := ⟨("_law_pull", none), "_law_pull", "_law_pull", defArgs s__law_pull, defBody s__law_pull, defScope s__law_pull, [], []⟩
theorem sc__law_pull : FnScope N__law_pull ["_law_bag_here", "_law_amount"] (defScope s__law_pull) := ⟨rfl, rfl, rfl, by decide +kernel, rfl, by decide +kernel, by decide +kernel⟩
theorem ck__law_pull : (chkS tb__law_pull N__law_pull c__law_pull).b ⟨defScope s__law_pull, true⟩ (defBody s__law_pull) = true := by decide +kernel
abbrev s__law_day : Stmt := (top 10)
def d__law_day : He.DefD := ⟨("_law_day", none), "_law_day", "_law_day", defArgs s__law_day, defBody s__law_day, defScope s__law_day, [], []⟩
theorem sc__law_day : FnScope N__law_day ["_law_bag_here"] (defScope s__law_day) := ⟨rfl, rfl, rfl, by decide +kernel, rfl, by decide +kernel, by decide +kernel⟩
theorem ck__law_day : (chkS tb__law_day N__law_day c__law_day).b ⟨defScope s__law_day, true⟩ (defBody s__law_day) = true := by decide +kernel
abbrev s__law_gate : Stmt := (top 9)
def d__law_gate : He.DefD := ⟨("_law_gate", none), "_law_gate", "_law_gate", defArgs s__law_gate, defBody s__law_gate, defScope s__law_gate, [], []⟩
theorem sc__law_gate : FnScope N__law_gate ["_law_bag_here"] (defScope s__law_gate) := ⟨rfl, rfl, rfl, by decide +kernel, rfl, by decide +kernel, by decide +kernel⟩
theorem ck__law_gate : (chkS tb__law_gate N__law_gate c__law_gate).b ⟨defScope s__law_gate, true⟩ (defBody s__law_gate) = true := by decide +kernel
abbrev s__law_passing : Stmt := (top 12)
def d__law_passing : He.DefD := ⟨("_law_passing", none), "_law_passing", "_law_passing", defArgs s__law_passing, defBody s__law_passing, defScope s__law_passing, [], []⟩
theorem sc__law_passing : FnScope N__law_passing ["_law_bag_here"] (defScope s__law_passing) := ⟨rfl, rfl, rfl, by decide +kernel, rfl, by decide +kernel, by decide +kernel⟩
theorem ck__law_passing : (chkS tb__law_passing N__law_passing c__law_passing).b ⟨defScope s__law_passing, true⟩ (defBody s__law_passing) = true := by decide +kernel
abbrev s__law_board : Stmt := (top 11)
def d__law_board : He.DefD := ⟨("_law_board", none), "_law_board", "_law_board", defArgs s__law_board, defBody s__law_board, defScope s__law_board, [], []⟩
theorem sc__law_board : FnScope N__law_board ["_law_bag_here"] (defScope s__law_board) := ⟨rfl, rfl, rfl, by decide +kernel, rfl, by decide +kernel, by decide +kernel⟩
theorem ck__law_board : (chkS tb__law_board N__law_board c__law_board).b ⟨defScope s__law_board, true⟩ (defBody s__law_board) = true := by decide +kernel
abbrev s__law_stretch : Stmt := (top 13)
def d__law_stretch : He.DefD := ⟨("_law_stretch", none), "_law_stretch", "_law_stretch", defArgs s__law_stretch, defBody s__law_stretch, defScope s__law_stretch, [], []⟩
theorem sc__law_stretch : FnScope N__law_stretch ["_law_bag_here"] (defScope s__law_stretch) := ⟨rfl, rfl, rfl, by decide +kernel, rfl, by decide +kernel, by decide +kernel⟩
theorem ck__law_stretch : (chkS tb__law_stretch N__law_stretch c__law_stretch).b ⟨defScope s__law_stretch, true⟩ (defBody s__law_stretch) = true := by decide +kernel
abbrev s__law_fact : Stmt := (top 14)
def d__law_fact : He.DefD := ⟨("_law_fact", none), "_law_fact", "_law_fact", defArgs s__law_fact, defBody s__law_fact, defScope s__law_fact, [], []⟩
theorem sc__law_fact : FnScope N__law_fact ["_law_bag_here", "_law_amount"] (defScope s__law_fact) := ⟨rfl, rfl, rfl, by decide +kernel, rfl, by decide +kernel, by decide +kernel⟩
theorem ck__law_fact : (chkS tb__law_fact N__law_fact c__law_fact).b ⟨defScope s__law_fact, true⟩ (defBody s__law_fact) = true := by decide +kernel
abbrev s__law_facts : Stmt := (top 15)
def d__law_facts : He.DefD := ⟨("_law_facts", none), "_law_facts", "_law_facts", defArgs s__law_facts, defBody s__law_facts, defScope s__law_facts, [], []⟩
theorem sc__law_facts : FnScope N__law_facts ["_law_bag_here", "_law_most"] (defScope s__law_facts) := ⟨rfl, rfl, rfl, by decide +kernel, rfl, by decide +kernel, by decide +kernel⟩
theorem ck__law_facts : (chkS tb__law_facts N__law_facts c__law_facts).b ⟨defScope s__law_facts, true⟩ (defBody s__law_facts) = true := by decide +kernel
abbrev s__law_like : Stmt := (top 8)
def d__law_like : He.DefD := ⟨("_law_like", none), "_law_like", "_law_like", defArgs s__law_like, defBody s__law_like, defScope s__law_like, [], []⟩
theorem sc__law_like : FnScope N__law_like ["_law_found", "_law_due"] (defScope s__law_like) := ⟨rfl, rfl, rfl, by decide +kernel, rfl, by decide +kernel, by decide +kernel⟩
theorem ck__law_like : (chkS tb__law_like N__law_like c__law_like).b ⟨defScope s__law_like, true⟩ (defBody s__law_like) = true := by decide +kernel
abbrev s_in_force : Stmt := (top 1)
def d_in_force : He.DefD := ⟨("in_force", none), "in_force", "in_force", defArgs s_in_force, defBody s_in_force, defScope s_in_force, [], []⟩
theorem sc_in_force : FnScope N_in_force ["facts", "word", "gate", "day"] (defScope s_in_force) := ⟨rfl, rfl, rfl, by decide +kernel, rfl, by decide +kernel, by decide +kernel⟩
theorem ck_in_force : (chkS tb_in_force N_in_force c_in_force).b ⟨defScope s_in_force, true⟩ (defBody s_in_force) = true := by decide +kernel
abbrev s_toll_on : Stmt := (top 2)
def d_toll_on : He.DefD := ⟨("toll_on", none), "toll_on", "toll_on", defArgs s_toll_on, defBody s_toll_on, defScope s_toll_on, [], []⟩
theorem sc_toll_on : FnScope N_toll_on ["facts", "gate", "day"] (defScope s_toll_on) := ⟨rfl, rfl, rfl, by decide +kernel, rfl, by decide +kernel, by decide +kernel⟩
theorem ck_toll_on : (chkS tb_toll_on N_toll_on c_toll_on).b ⟨defScope s_toll_on, true⟩ (defBody s_toll_on) = true := by decide +kernel
abbrev s__law_hold : Stmt := (top 16)
def d__law_hold : He.DefD := ⟨("_law_hold", none), "_law_hold", "_law_hold", defArgs s__law_hold, defBody s__law_hold, defScope s__law_hold, [], []⟩
theorem sc__law_hold : FnScope N__law_hold ["_law_facts_here", "_law_word", "_law_gate_here", "_law_day_here", "_law_other"] (defScope s__law_hold) := ⟨rfl, rfl, rfl, by decide +kernel, rfl, by decide +kernel, by decide +kernel⟩
theorem ck__law_hold : (chkS tb__law_hold N__law_hold c__law_hold).b ⟨defScope s__law_hold, true⟩ (defBody s__law_hold) = true := by decide +kernel
abbrev s_trust_on : Stmt := (top 3)
def d_trust_on : He.DefD := ⟨("trust_on", none), "trust_on", "trust_on", defArgs s_trust_on, defBody s_trust_on, defScope s_trust_on, [], []⟩
theorem sc_trust_on : FnScope N_trust_on ["facts", "gate", "day"] (defScope s_trust_on) := ⟨rfl, rfl, rfl, by decide +kernel, rfl, by decide +kernel, by decide +kernel⟩
theorem ck_trust_on : (chkS tb_trust_on N_trust_on c_trust_on).b ⟨defScope s_trust_on, true⟩ (defBody s_trust_on) = true := by decide +kernel
abbrev s_board_on : Stmt := (top 4)
def d_board_on : He.DefD := ⟨("board_on", none), "board_on", "board_on", defArgs s_board_on, defBody s_board_on, defScope s_board_on, [], []⟩
theorem sc_board_on : FnScope N_board_on ["facts", "gate", "day"] (defScope s_board_on) := ⟨rfl, rfl, rfl, by decide +kernel, rfl, by decide +kernel, by decide +kernel⟩
theorem ck_board_on : (chkS tb_board_on N_board_on c_board_on).b ⟨defScope s_board_on, true⟩ (defBody s_board_on) = true := by decide +kernel
abbrev s__law_clears : Stmt := (top 17)
def d__law_clears : He.DefD := ⟨("_law_clears", none), "_law_clears", "_law_clears", defArgs s__law_clears, defBody s__law_clears, defScope s__law_clears, [], []⟩
theorem sc__law_clears : FnScope N__law_clears ["_law_facts_here", "_law_gate_here", "_law_day_here"] (defScope s__law_clears) := ⟨rfl, rfl, rfl, by decide +kernel, rfl, by decide +kernel, by decide +kernel⟩
theorem ck__law_clears : (chkS tb__law_clears N__law_clears c__law_clears).b ⟨defScope s__law_clears, true⟩ (defBody s__law_clears) = true := by decide +kernel
abbrev s_law : Stmt := (top 18)
def d_law : He.DefD := ⟨("law", none), "law", "law", defArgs s_law, defBody s_law, defScope s_law, [], []⟩
theorem sc_law : FnScope N_law ["_law_script"] (defScope s_law) := ⟨rfl, rfl, rfl, by decide +kernel, rfl, by decide +kernel, by decide +kernel⟩
theorem ck_law : (chkS tb_law N_law c_law).b ⟨defScope s_law, true⟩ (defBody s_law) = true := by decide +kernel
def cs : List Str := []
def fa : List He.Fa := [.free "list", .glo "_law_bag", .free "len", .glo "_law_pull", .glo "_law_day", .free "int", .glo "_law_gate", .glo "_law_passing", .free "range", .free "tuple", .glo "_law_board", .glo "_law_stretch", .glo "_law_fact", .glo "_law_facts", .free "all", .free "bool", .free "isinstance", .glo "_law_like", .free "max", .glo "in_force", .glo "toll_on", .glo "_law_hold", .glo "trust_on", .free "set", .free "sorted", .glo "board_on", .glo "_law_clears", .glo "law"]
def fn : List He.DefD := [d__law_bag, d__law_pull, d__law_day, d__law_gate, d__law_passing, d__law_board, d__law_stretch, d__law_fact, d__law_facts, d__law_like, d_in_force, d_toll_on, d__law_hold, d_trust_on, d_board_on, d__law_clears, d_law]
section
variable {p : Par} {hp : Heap}
theorem ok__law_bag (H : Hd p fa fn cs hp) : FnE p.P p.w p.K p.mg p.base p.G 1 "_law_bag" 1 [] m__law_bag := by
  obtain ⟨fd, F⟩ := H.c.def_ 0 (d := d__law_bag) rfl
  exact fnE_mk (k := 0) (N := N__law_bag) rfl ⟨H.GK, (.nil : GlsOk _ tb__law_bag.glo), (.nil : FnsOk (p.at 0) tb__law_bag.fn _), (.nil : MtsOk (p.at 0) tb__law_bag.mt _), (.nil : CnsOk (p.at 0) tb__law_bag.cn _), fld_nil, (free_cons (H.free 0) free_nil)⟩ F (H.glo 1) sc__law_bag ck__law_bag (fun _ _ _ _ _ _ us hl => match us, hl with | [_], _ => rfl)
theorem ok__law_pull (H : Hd p fa fn cs hp) : FnE p.P p.w p.K p.mg p.base p.G 1 "_law_pull" 2 [] m__law_pull := by
  obtain ⟨fd, F⟩ := H.c.def_ 1 (d := d__law_pull) rfl
  exact fnE_mk (k := 0) (N := N__law_pull) rfl ⟨H.GK, (.nil : GlsOk _ tb__law_pull.glo), (.nil : FnsOk (p.at 0) tb__law_pull.fn _), (.nil : MtsOk (p.at 0) tb__law_pull.mt _), (.nil : CnsOk (p.at 0) tb__law_pull.cn _), fld_nil, (free_cons (H.free 2) free_nil)⟩ F (H.glo 3) sc__law_pull ck__law_pull (fun _ _ _ _ _ _ us hl => match us, hl with | [_, _], _ => rfl)
theorem ok__law_day (H : Hd p fa fn cs hp) : FnE p.P p.w p.K p.mg p.base p.G 2 "_law_day" 1 [] m__law_day := by
  obtain ⟨fd, F⟩ := H.c.def_ 2 (d := d__law_day) rfl
  exact fnE_mk (k := 1) (N := N__law_day) rfl ⟨H.GK, (.nil : GlsOk _ tb__law_day.glo), ((.cons (ok__law_pull (p := p) H) (by show (1 : Nat) ≤ 1; omega) .nil) : FnsOk (p.at 1) tb__law_day.fn _), (.nil : MtsOk (p.at 1) tb__law_day.mt _), (.nil : CnsOk (p.at 1) tb__law_day.cn _), fld_nil, free_nil⟩ F (H.glo 4) sc__law_day ck__law_day (fun _ _ _ _ _ _ us hl => match us, hl with | [_], _ => rfl)
theorem ok__law_gate (H : Hd p fa fn cs hp) : FnE p.P p.w p.K p.mg p.base p.G 2 "_law_gate" 1 [] m__law_gate := by
  obtain ⟨fd, F⟩ := H.c.def_ 3 (d := d__law_gate) rfl
  exact fnE_mk (k := 1) (N := N__law_gate) rfl ⟨H.GK, (.nil : GlsOk _ tb__law_gate.glo), ((.cons (ok__law_pull (p := p) H) (by show (1 : Nat) ≤ 1; omega) .nil) : FnsOk (p.at 1) tb__law_gate.fn _), (.nil : MtsOk (p.at 1) tb__law_gate.mt _), (.nil : CnsOk (p.at 1) tb__law_gate.cn _), fld_nil, (free_cons (H.free 5) free_nil)⟩ F (H.glo 6) sc__law_gate ck__law_gate (fun _ _ _ _ _ _ us hl => match us, hl with | [_], _ => rfl)
theorem ok__law_passing (H : Hd p fa fn cs hp) : FnE p.P p.w p.K p.mg p.base p.G 3 "_law_passing" 1 [] m__law_passing := by
  obtain ⟨fd, F⟩ := H.c.def_ 4 (d := d__law_passing) rfl
  exact fnE_mk (k := 2) (N := N__law_passing) rfl ⟨H.GK, (.nil : GlsOk _ tb__law_passing.glo), ((.cons (ok__law_pull (p := p) H) (by show (1 : Nat) ≤ 2; omega) (.cons (ok__law_day (p := p) H) (by show (2 : Nat) ≤ 2; omega) (.cons (ok__law_gate (p := p) H) (by show (2 : Nat) ≤ 2; omega) .nil))) : FnsOk (p.at 2) tb__law_passing.fn _), (.nil : MtsOk (p.at 2) tb__law_passing.mt _), (.nil : CnsOk (p.at 2) tb__law_passing.cn _), fld_nil, (free_cons (H.free 5) free_nil)⟩ F (H.glo 7) sc__law_passing ck__law_passing (fun _ _ _ _ _ _ us hl => match us, hl with | [_], _ => rfl)
theorem ok__law_board (H : Hd p fa fn cs hp) : FnE p.P p.w p.K p.mg p.base p.G 3 "_law_board" 1 [] m__law_board := by
  obtain ⟨fd, F⟩ := H.c.def_ 5 (d := d__law_board) rfl
  exact fnE_mk (k := 2) (N := N__law_board) rfl ⟨H.GK, (.nil : GlsOk _ tb__law_board.glo), ((.cons (ok__law_pull (p := p) H) (by show (1 : Nat) ≤ 2; omega) (.cons (ok__law_gate (p := p) H) (by show (2 : Nat) ≤ 2; omega) (.cons (ok__law_day (p := p) H) (by show (2 : Nat) ≤ 2; omega) .nil))) : FnsOk (p.at 2) tb__law_board.fn _), (.nil : MtsOk (p.at 2) tb__law_board.mt _), (.nil : CnsOk (p.at 2) tb__law_board.cn _), fld_nil, (free_cons (H.free 9) (free_cons (H.free 8) free_nil))⟩ F (H.glo 10) sc__law_board ck__law_board (fun _ _ _ _ _ _ us hl => match us, hl with | [_], _ => rfl)
theorem ok__law_stretch (H : Hd p fa fn cs hp) : FnE p.P p.w p.K p.mg p.base p.G 3 "_law_stretch" 1 [] m__law_stretch := by
  obtain ⟨fd, F⟩ := H.c.def_ 6 (d := d__law_stretch) rfl
  exact fnE_mk (k := 2) (N := N__law_stretch) rfl ⟨H.GK, (.nil : GlsOk _ tb__law_stretch.glo), ((.cons (ok__law_day (p := p) H) (by show (2 : Nat) ≤ 2; omega) (.cons (ok__law_pull (p := p) H) (by show (1 : Nat) ≤ 2; omega) .nil)) : FnsOk (p.at 2) tb__law_stretch.fn _), (.nil : MtsOk (p.at 2) tb__law_stretch.mt _), (.nil : CnsOk (p.at 2) tb__law_stretch.cn _), fld_nil, free_nil⟩ F (H.glo 11) sc__law_stretch ck__law_stretch (fun _ _ _ _ _ _ us hl => match us, hl with | [_], _ => rfl)
theorem ok__law_fact (H : Hd p fa fn cs hp) : FnE p.P p.w p.K p.mg p.base p.G 4 "_law_fact" 2 [] m__law_fact := by
  obtain ⟨fd, F⟩ := H.c.def_ 7 (d := d__law_fact) rfl
  exact fnE_mk (k := 3) (N := N__law_fact) rfl ⟨H.GK, (.nil : GlsOk _ tb__law_fact.glo), ((.cons (ok__law_pull (p := p) H) (by show (1 : Nat) ≤ 3; omega) (.cons (ok__law_passing (p := p) H) (by show (3 : Nat) ≤ 3; omega) (.cons (ok__law_gate (p := p) H) (by show (2 : Nat) ≤ 3; omega) (.cons (ok__law_day (p := p) H) (by show (2 : Nat) ≤ 3; omega) (.cons (ok__law_board (p := p) H) (by show (3 : Nat) ≤ 3; omega) (.cons (ok__law_stretch (p := p) H) (by show (3 : Nat) ≤ 3; omega) .nil)))))) : FnsOk (p.at 3) tb__law_fact.fn _), (.nil : MtsOk (p.at 3) tb__law_fact.mt _), (.nil : CnsOk (p.at 3) tb__law_fact.cn _), fld_nil, (free_cons (H.free 5) free_nil)⟩ F (H.glo 12) sc__law_fact ck__law_fact (fun _ _ _ _ _ _ us hl => match us, hl with | [_, _], _ => rfl)
theorem ok__law_facts (H : Hd p fa fn cs hp) : FnE p.P p.w p.K p.mg p.base p.G 5 "_law_facts" 2 [] m__law_facts := by
  obtain ⟨fd, F⟩ := H.c.def_ 8 (d := d__law_facts) rfl
  exact fnE_mk (k := 4) (N := N__law_facts) rfl ⟨H.GK, (.nil : GlsOk _ tb__law_facts.glo), ((.cons (ok__law_pull (p := p) H) (by show (1 : Nat) ≤ 4; omega) (.cons (ok__law_fact (p := p) H) (by show (4 : Nat) ≤ 4; omega) .nil)) : FnsOk (p.at 4) tb__law_facts.fn _), (.nil : MtsOk (p.at 4) tb__law_facts.mt _), (.nil : CnsOk (p.at 4) tb__law_facts.cn _), fld_nil, (free_cons (H.free 8) (free_cons (H.free 5) free_nil))⟩ F (H.glo 13) sc__law_facts ck__law_facts (fun _ _ _ _ _ _ us hl => match us, hl with | [_, _], _ => rfl)
theorem ok__law_like (H : Hd p fa fn cs hp) : ∀ f : Nat, FnE p.P p.w p.K p.mg p.base p.G (1 + f) "_law_like" 2 [] (m__law_like f)
  | 0 => by
    obtain ⟨fd, F⟩ := H.c.def_ 9 (d := d__law_like) rfl
    exact (fnE_mk (k := 0) (Tb := {}) (M := {}) (N := N__law_like) (c := .never) rfl ⟨H.GK, (.nil : GlsOk _ []), (.nil : FnsOk (p.at 0) [] _), (.nil : MtsOk (p.at 0) [] _), (.nil : CnsOk (p.at 0) [] _), fld_nil, free_nil⟩ F (H.glo 17) sc__law_like rfl (fun _ _ _ _ _ _ us hl => match us, hl with | [_, _], _ => rfl))
  | f + 1 => by
    have ih := ok__law_like H f
    obtain ⟨fd, F⟩ := H.c.def_ 9 (d := d__law_like) rfl
    have z := fnE_mk (k := (1 + f)) (Tb := tb__law_like) (M := { fn := [(m__law_like f)], mt := [], cn := [] }) (c := c__law_like) (N := N__law_like) (keep := false) rfl ⟨H.GK, (.nil : GlsOk _ tb__law_like.glo), ((.cons ih (by show (1 + f : Nat) ≤ (1 + f); omega) .nil) : FnsOk (p.at (1 + f)) tb__law_like.fn _), (.nil : MtsOk (p.at (1 + f)) tb__law_like.mt _), (.nil : CnsOk (p.at (1 + f)) tb__law_like.cn _), fld_nil, (free_cons (H.free 16) (free_cons (H.free 0) (free_cons (H.free 9) (free_cons (H.free 15) (free_cons (H.free 14) (free_cons (H.free 8) (free_cons (H.free 2) free_nil)))))))⟩ F (H.glo 17) sc__law_like ck__law_like (fun _ _ _ _ _ _ us hl => match us, hl with | [_, _], _ => rfl)
    exact z.mono (by omega)
theorem ok_in_force (H : Hd p fa fn cs hp) : FnE p.P p.w p.K p.mg p.base p.G 1 "in_force" 4 [] m_in_force := by
  obtain ⟨fd, F⟩ := H.c.def_ 10 (d := d_in_force) rfl
  exact fnE_mk (k := 0) (N := N_in_force) rfl ⟨H.GK, (.nil : GlsOk _ tb_in_force.glo), (.nil : FnsOk (p.at 0) tb_in_force.fn _), (.nil : MtsOk (p.at 0) tb_in_force.mt _), (.nil : CnsOk (p.at 0) tb_in_force.cn _), fld_nil, (free_cons (H.free 18) free_nil)⟩ F (H.glo 19) sc_in_force ck_in_force (fun _ _ _ _ _ _ us hl => match us, hl with | [_, _, _, _], _ => rfl)
theorem ok_toll_on (H : Hd p fa fn cs hp) : FnE p.P p.w p.K p.mg p.base p.G 2 "toll_on" 3 [] m_toll_on := by
  obtain ⟨fd, F⟩ := H.c.def_ 11 (d := d_toll_on) rfl
  exact fnE_mk (k := 1) (N := N_toll_on) rfl ⟨H.GK, (.nil : GlsOk _ tb_toll_on.glo), ((.cons (ok_in_force (p := p) H) (by show (1 : Nat) ≤ 1; omega) .nil) : FnsOk (p.at 1) tb_toll_on.fn _), (.nil : MtsOk (p.at 1) tb_toll_on.mt _), (.nil : CnsOk (p.at 1) tb_toll_on.cn _), fld_nil, free_nil⟩ F (H.glo 20) sc_toll_on ck_toll_on (fun _ _ _ _ _ _ us hl => match us, hl with | [_, _, _], _ => rfl)
theorem ok__law_hold (H : Hd p fa fn cs hp) : FnE p.P p.w p.K p.mg p.base p.G 1 "_law_hold" 5 [] m__law_hold := by
  obtain ⟨fd, F⟩ := H.c.def_ 12 (d := d__law_hold) rfl
  exact fnE_mk (k := 0) (N := N__law_hold) rfl ⟨H.GK, (.nil : GlsOk _ tb__law_hold.glo), (.nil : FnsOk (p.at 0) tb__law_hold.fn _), (.nil : MtsOk (p.at 0) tb__law_hold.mt _), (.nil : CnsOk (p.at 0) tb__law_hold.cn _), fld_nil, free_nil⟩ F (H.glo 21) sc__law_hold ck__law_hold (fun _ _ _ _ _ _ us hl => match us, hl with | [_, _, _, _, _], _ => rfl)
theorem ok_trust_on (H : Hd p fa fn cs hp) : FnE p.P p.w p.K p.mg p.base p.G 2 "trust_on" 3 [] m_trust_on := by
  obtain ⟨fd, F⟩ := H.c.def_ 13 (d := d_trust_on) rfl
  exact fnE_mk (k := 1) (N := N_trust_on) rfl ⟨H.GK, (.nil : GlsOk _ tb_trust_on.glo), ((.cons (ok_in_force (p := p) H) (by show (1 : Nat) ≤ 1; omega) .nil) : FnsOk (p.at 1) tb_trust_on.fn _), (.nil : MtsOk (p.at 1) tb_trust_on.mt _), (.nil : CnsOk (p.at 1) tb_trust_on.cn _), fld_nil, free_nil⟩ F (H.glo 22) sc_trust_on ck_trust_on (fun _ _ _ _ _ _ us hl => match us, hl with | [_, _, _], _ => rfl)
theorem ok_board_on (H : Hd p fa fn cs hp) : FnE p.P p.w p.K p.mg p.base p.G 2 "board_on" 3 [] m_board_on := by
  obtain ⟨fd, F⟩ := H.c.def_ 14 (d := d_board_on) rfl
  exact fnE_mk (k := 1) (N := N_board_on) rfl ⟨H.GK, (.nil : GlsOk _ tb_board_on.glo), ((.cons (ok_in_force (p := p) H) (by show (1 : Nat) ≤ 1; omega) .nil) : FnsOk (p.at 1) tb_board_on.fn _), (.nil : MtsOk (p.at 1) tb_board_on.mt _), (.nil : CnsOk (p.at 1) tb_board_on.cn _), fld_nil, (free_cons (H.free 0) (free_cons (H.free 9) (free_cons (H.free 24) (free_cons (H.free 23) free_nil))))⟩ F (H.glo 25) sc_board_on ck_board_on (fun _ _ _ _ _ _ us hl => match us, hl with | [_, _, _], _ => rfl)
theorem ok__law_clears (H : Hd p fa fn cs hp) : FnE p.P p.w p.K p.mg p.base p.G 2 "_law_clears" 3 [] m__law_clears := by
  obtain ⟨fd, F⟩ := H.c.def_ 15 (d := d__law_clears) rfl
  exact fnE_mk (k := 1) (N := N__law_clears) rfl ⟨H.GK, (.nil : GlsOk _ tb__law_clears.glo), ((.cons (ok__law_hold (p := p) H) (by show (1 : Nat) ≤ 1; omega) .nil) : FnsOk (p.at 1) tb__law_clears.fn _), (.nil : MtsOk (p.at 1) tb__law_clears.mt _), (.nil : CnsOk (p.at 1) tb__law_clears.cn _), fld_nil, (free_cons (H.free 8) free_nil)⟩ F (H.glo 26) sc__law_clears ck__law_clears (fun _ _ _ _ _ _ us hl => match us, hl with | [_, _, _], _ => rfl)
theorem tab_law (H : Hd p fa fn cs hp) : TabOk (p.at 7) tb_law { fn := [m__law_bag, m__law_facts, m__law_gate, m__law_day, m__law_pull, (m__law_like 6), m_toll_on, m__law_hold, m_trust_on, m_board_on, m__law_clears], mt := [], cn := [] } := ⟨H.GK, (.nil : GlsOk _ tb_law.glo), ((.cons (ok__law_bag (p := p) H) (by show (1 : Nat) ≤ 7; omega) (.cons (ok__law_facts (p := p) H) (by show (5 : Nat) ≤ 7; omega) (.cons (ok__law_gate (p := p) H) (by show (2 : Nat) ≤ 7; omega) (.cons (ok__law_day (p := p) H) (by show (2 : Nat) ≤ 7; omega) (.cons (ok__law_pull (p := p) H) (by show (1 : Nat) ≤ 7; omega) (.cons (ok__law_like (p := p) H 6) (by show (7 : Nat) ≤ 7; omega) (.cons (ok_toll_on (p := p) H) (by show (2 : Nat) ≤ 7; omega) (.cons (ok__law_hold (p := p) H) (by show (1 : Nat) ≤ 7; omega) (.cons (ok_trust_on (p := p) H) (by show (2 : Nat) ≤ 7; omega) (.cons (ok_board_on (p := p) H) (by show (2 : Nat) ≤ 7; omega) (.cons (ok__law_clears (p := p) H) (by show (2 : Nat) ≤ 7; omega) .nil))))))))))) : FnsOk (p.at 7) tb_law.fn _), (.nil : MtsOk (p.at 7) tb_law.mt _), (.nil : CnsOk (p.at 7) tb_law.cn _), fld_nil, (free_cons (H.free 0) (free_cons (H.free 8) (free_cons (H.free 18) (free_cons (H.free 2) (free_cons (H.free 9) free_nil)))))⟩
end
def loose : List Str := (["in_force", "toll_on", "trust_on", "board_on", "_law_bag", "_law_pull", "_law_like", "_law_gate", "_law_day", "_law_board", "_law_passing", "_law_stretch", "_law_fact", "_law_facts", "_law_hold", "_law_clears"] : List Str)
abbrev R : PySem.W.OpenRow := PySem.W.OpenLaw.row PySem.Challenge.rw_pikeroll_k06_what_holds_on_a_day
abbrev hk : PySem.W.Hook := He.hookD 4 fa fn
def ob (s : PySem.W.SharedT) : He.AlD := He.obsDG 4 fa fn (HandSHeadRun.getT s)
theorem ob_eq (s : PySem.W.SharedT) : ob s = hk.obs s.abs := He.obsDG_eq (HandSHeadRun.getT_eq s)
theorem run (w : World) : HandSHeadRun.RunEq R (PySem.W.view R.prog [18]) hk ob 4000 loose w := by
  intro os
  kernel_rfl
theorem holds_of (h : ∀ ns : List Int, ns.length ≤ 63 → ∃ st, m_law [.v (.scr ns)] [] = .ok (.v (.bl true)) st) : PySem.Challenge.rw_pikeroll_k06_what_holds_on_a_day.Holds := by
  w_on; o_law
  refine HandSHeadRun.head_any (r := PySem.W.OpenLaw.row PySem.Challenge.rw_pikeroll_k06_what_holds_on_a_day) (q := PySem.W.view (PySem.W.OpenLaw.row PySem.Challenge.rw_pikeroll_k06_what_holds_on_a_day).prog [18]) (H := hk) (ob := ob) (M := 4000) (loose := loose) (d := HandSHeadRun.topDef (PySem.W.OpenLaw.row PySem.Challenge.rw_pikeroll_k06_what_holds_on_a_day).prog 18) (kwd := []) ob_eq
    (by kernel_rfl) (fun s => by kernel_rfl) run (by kernel_rfl) (by kernel_rfl) (by kernel_rfl) (by rfl) (by first | assumption | decide +kernel) (by decide +kernel) ⟨rfl, rfl, rfl, rfl, rfl, by decide +kernel⟩ ?hw ?hc
  case hw => w_witness2
  case hc =>
    refine walk_end (l := PySem.Challenge.rw_pikeroll_k06_what_holds_on_a_day) (k := 8) (x := "_law_script") rfl (by kernel_rfl) ⟨rfl, by decide, by decide⟩ m_law h fun w mg fa0 h0 Y G hmg0 => ?_
    obtain ⟨K, KX, c⟩ := Y
    obtain ⟨fd, F⟩ := c.def_ 16 (d := d_law) rfl
    have hmg : mg ("law" : PySem.Str) = some (.ref fa0) := by
      have e : (HandSHeadRun.topDef (PySem.W.OpenLaw.row PySem.Challenge.rw_pikeroll_k06_what_holds_on_a_day).prog 18).name = ("law" : PySem.Str) := by kernel_rfl
      rw [← e]
      exact hmg0
    have e := hmg.symm.trans (He.glo_ok KX G (c.fact 27 (f := .glo "law") rfl))
    cases e
    have b := FunD.bindsA (ps := ["_law_script"]) F fun _ _ _ _ _ _ us hl => match us, hl with | [_], _ => rfl
    refine ⟨K, fd, ⟨K, clOf K cs⟩, KX, rfl, fun s v => b s [v] rfl, fun base hb1 hb2 => ?_⟩
    have H : Hd ⟨(PySem.Challenge.rw_pikeroll_k06_what_holds_on_a_day).prog, w, K, mg, base, ⟨K, clOf K cs⟩, 0⟩ fa fn cs h0 := ⟨KX, G, c, rfl⟩
    exact fn_chk (keep := false) (tab_law H) F sc_law ck_law
end K06

set_option Elab.async false
set_option linter.all false
set_option maxRecDepth 100000
set_option maxHeartbeats 4000000
/-! YK06: the law k06. -/
namespace K06
open PySem PySem.Spec PyProof.Rows DL DM
open Classical

theorem close_nil {st : Sto} {Q : Wd → Sto → Prop} {t : T} (h : Q (.v t) []) : Close [] Q (.v t) st :=
  ⟨⟨Nat.zero_le _, fun i o hi _ => absurd hi (Nat.not_lt_zero _)⟩, _, rfl, by simpa using h⟩
theorem wp_in3 {n : Bool} {x a b c : Str} {st : Sto} {Q : Wd → Sto → Prop} {E : Exn → Sto → Prop} : (bInN n (.v (.str x)) (.v (.lst [.str a, .str b, .str c])) st).wp Q E = Q (.v (.bl (if n then !(decide (x = a) || (decide (x = b) || decide (x = c))) else (decide (x = a) || (decide (x = b) || decide (x = c)))))) st := by
  have e : L2.inV (.str x) [.str a, .str b, .str c] = (decide (x = a) || (decide (x = b) || decide (x = c))) := by
    show ((a == x) || ((b == x) || ((c == x) || false))) = _
    rw [Bool.eq_iff_iff]
    simp only [Bool.or_eq_true, beq_iff_eq, decide_eq_true_eq, Bool.or_false]
    exact ⟨fun h => h.imp Eq.symm (fun h => h.imp Eq.symm Eq.symm), fun h => h.imp Eq.symm (fun h => h.imp Eq.symm Eq.symm)⟩
  have e2 : bInN n (.v (.str x)) (.v (.lst [.str a, .str b, .str c])) st = .ok (.v (.bl (if n then !L2.inV (.str x) [.str a, .str b, .str c] else L2.inV (.str x) [.str a, .str b, .str c]))) st := by
    unfold bInN
    simp [dLook, items, fl, fls]
  rw [e2, e]; rfl
theorem wp_max2 {i j : Int} {st : Sto} {Q : Wd → Sto → Prop} {E : Exn → Sto → Prop} : (fMax2 [.v (.int i), .v (.int j)] st).wp Q E = Q (.v (.int (if j > i then j else i))) st := rfl
theorem lay_all : ∀ {ds : List PyData}, (∀ d ∈ ds, d.canLay0 = true ∧ d.depth ≤ 8) → PyData.canLayAll0 ds = true ∧ PyData.depthAll ds ≤ 8
  | [], _ => by simp [PyData.canLayAll0, PyData.depthAll]
  | d :: ds, h => by
    have h1 := h d (List.mem_cons_self ..)
    have h2 := lay_all (ds := ds) fun u hu => h u (List.mem_cons_of_mem _ hu)
    simp only [PyData.canLayAll0, PyData.depthAll, h1.1, h2.1, Bool.and_self, true_and]
    omega
theorem ints_py : ∀ gs : List Int, T.pys (gs.map T.int) = some (gs.map PyData.int)
  | [] => rfl
  | g :: r => by simp only [List.map_cons, T.pys, T.py, ints_py r]
theorem ints_lay (gs : List Int) : PyData.canLayAll0 (gs.map .int) = true ∧ PyData.depthAll (gs.map .int) = 0 := by
  induction gs with
  | nil => simp [PyData.canLayAll0, PyData.depthAll]
  | cons g r ih => simp [PyData.canLayAll0, PyData.depthAll, PyData.canLay0, PyData.depth, ih.1, ih.2]
theorem fact_py {f : Fc} (h : FOk f) (n : Int) : ∃ d, T.py (pairT (n, f)) = some d ∧ d.canLay0 = true ∧ d.depth ≤ 8 := by
  cases h with
  | @board g d gs =>
    refine ⟨.tuple [.int n, .tuple [.str "board", .int g, .int d, .tuple (gs.map .int)]], by simp only [pairT, Fc.t, T.py, T.pys, ints_py, Option.map_some], ?_, ?_⟩
    · simp [PyData.canLay0, PyData.canLayAll0, strOk_lit, (ints_lay gs).1]
    · simp [PyData.depth, PyData.depthAll, (ints_lay gs).2]
  | _ =>
    refine ⟨_, rfl, ?_, ?_⟩
    · simp [PyData.canLay0, PyData.canLayAll0, strOk_lit]
    · simp [PyData.depth, PyData.depthAll]
theorem facts_py {top : Int} {fs : List (Int × Fc)} (hf : FsOk top fs) : ∃ d, T.py (.lst (fs.map pairT)) = some d ∧ d.canLay0 = true ∧ d.depth ≤ 64 := by
  have hp : ∀ t ∈ fs.map pairT, ∃ d, T.py t = some d ∧ d.canLay0 = true ∧ d.depth ≤ 8 := fun t ht => by
    obtain ⟨p, hp, rfl⟩ := List.mem_map.mp ht
    exact fact_py (hf.ok p hp) p.1
  have e := T.pys_map (ts := fs.map pairT) fun t ht => by
    obtain ⟨d, h, _⟩ := hp t ht
    rw [h]; rfl
  have l := lay_all (ds := (fs.map pairT).map pyT) fun d hd => by
    obtain ⟨t, ht, rfl⟩ := List.mem_map.mp hd
    obtain ⟨d, h, h1, h2⟩ := hp t ht
    have : pyT t = d := by unfold pyT; rw [h]; rfl
    rw [this]; exact ⟨h1, h2⟩
  refine ⟨.list ((fs.map pairT).map pyT), by simp only [T.py, e, Option.map_some], ?_, ?_⟩
  · simp only [PyData.canLay0]; exact l.1
  · simp only [PyData.depth]
    have := l.2
    omega
theorem ne_same {t : T} {d : PyData} {st : Sto} {Q : Wd → Sto → Prop} {E : Exn → Sto → Prop} (h : T.py t = some d) (h1 : d.canLay0 = true) (h2 : d.depth ≤ 64) : (bEqN true (.v t) (.v t) st).wp Q E = Q (.v (.bl false)) st := by
  have e : bEqN true (.v t) (.v t) st = .ok (.v (.bl false)) st := by
    simp [bEqN, pyW, h, SeqAt.shaped, h1, h2, SeqAt.eqv_refl d h1]
  rw [e]; rfl
theorem int_inj : ∀ {a b : List Int}, a.map T.int = b.map T.int → a = b
  | [], [], _ => rfl
  | [], _ :: _, h => by cases h
  | _ :: _, [], h => by cases h
  | x :: a, y :: b, h => by
    simp only [List.map_cons, List.cons.injEq, T.int.injEq] at h
    rw [h.1, int_inj h.2]
theorem main (ns : List Int) (hn : ns.length ≤ 63) : (m_law [.v (.scr ns)] []).wp (fun w _ => w = .v (.bl true)) (fun _ _ => False) := by
  unfold m_law
  refine wp_run rfl ?_
  simp (maxSteps := 2000000) only [c_law, tb_law, denS, den, Den.of, CE.cnt, CE.isNil, CO.f, BO.f, BI.den, wp_seq, wp_sIf, wp_tAnd, wp_tOr, wp_tNot, wp_tOf, wp_tCmp, wp_eBin, wp_eAnd, wp_eOr, wp_eNot, wp_eNeg, wp_eIte, wp_eSlc, wp_pNone, wp_pSome, wp_bYes, wp_asB, wp_eVar, wp_eT, wp_put, wp_asg, wp_gNam, wp_nil, wp_ret, wp_exp, wp_eApp, wp_lCons, wp_lNil, wp_ok, wp_bad, wp_nx, wp_rt, wp_bk, wp_ct, List.map_cons, List.map_nil, List.cons_append, List.nil_append, List.append_nil, List.replicate_succ, List.replicate_zero, Nat.reduceSub, List.getElem?_cons_zero, List.getElem?_cons_succ, List.set_cons_zero, List.set_cons_succ, Nat.reduceAdd, Nat.reduceLeDiff, allT_v, allT_nil, List.length_cons, List.length_nil, List.length_append, List.length_map, Nat.succ_eq_add_one, ite_true, ite_false, if_true, if_false, reduceIte, Bool.false_eq_true, decide_eq_true_eq, Bool.not_eq_true, Bool.not_eq_false, true_and, and_true, wp_bInt, wp_addI, wp_addT, wp_addL, wp_eqI, wp_eqB, wp_eqS, ixT0, ixL0, ixT1, ixL1, ixT2, ixL2, ixT3, ixL3, ixT4, ixL4, ixT5, ixL5, ixT6, ixL6, ixT7, ixL7, cutF1, cutU1, cutF2, cutU2, cutF3, cutU3, cutF4, cutU4, cutF5, cutU5, cutF6, cutU6, bag_0, bag_1, bag_2, bag_3, bagp_1, bagp_2, bagp_3, wp_slcT, wp_slcL, List.drop_succ_cons, List.drop_zero, List.take_succ_cons, List.take_zero, List.drop_nil, wp_in2, wp_inIT, wp_inIL, wp_app, wp_eBm, isW_last, wp_lstM, BMt.f, BMt.T, ofS_inj, strOk_lit, String.reduceEq, decide_false, decide_true, Bool.not_true, Bool.not_false, Bool.or_false, Bool.false_or, Bool.or_true, Bool.true_or, and_self, wp_eChn, wp_gTp, wp_gsCons, wp_gsNil, wp_isN, wipeE, List.getD_cons_zero, List.getD_cons_succ, Option.map_some, mk_tup, mk_lst, wp_len]
  refine bag_wp fun B => ?_
  refine facts_wp (by decide) (by decide) fun fs top B1 hf hl => ?_
  have hl : fs.length ≤ 30 := hl
  simp (maxSteps := 2000000) only [wp_listL, wp_eCmp, iOf, wp_bind, wIter, denS, den, Den.of, CE.cnt, CE.isNil, CO.f, BO.f, BI.den, wp_seq, wp_sIf, wp_tAnd, wp_tOr, wp_tNot, wp_tOf, wp_tCmp, wp_eBin, wp_eAnd, wp_eOr, wp_eNot, wp_eNeg, wp_eIte, wp_eSlc, wp_pNone, wp_pSome, wp_bYes, wp_asB, wp_eVar, wp_eT, wp_put, wp_asg, wp_gNam, wp_nil, wp_ret, wp_exp, wp_eApp, wp_lCons, wp_lNil, wp_ok, wp_bad, wp_nx, wp_rt, wp_bk, wp_ct, List.map_cons, List.map_nil, List.cons_append, List.nil_append, List.append_nil, List.replicate_succ, List.replicate_zero, Nat.reduceSub, List.getElem?_cons_zero, List.getElem?_cons_succ, List.set_cons_zero, List.set_cons_succ, Nat.reduceAdd, Nat.reduceLeDiff, allT_v, allT_nil, List.length_cons, List.length_nil, List.length_append, List.length_map, Nat.succ_eq_add_one, ite_true, ite_false, if_true, if_false, reduceIte, Bool.false_eq_true, decide_eq_true_eq, Bool.not_eq_true, Bool.not_eq_false, true_and, and_true, wp_bInt, wp_addI, wp_addT, wp_addL, wp_eqI, wp_eqB, wp_eqS, ixT0, ixL0, ixT1, ixL1, ixT2, ixL2, ixT3, ixL3, ixT4, ixL4, ixT5, ixL5, ixT6, ixL6, ixT7, ixL7, cutF1, cutU1, cutF2, cutU2, cutF3, cutU3, cutF4, cutU4, cutF5, cutU5, cutF6, cutU6, bag_0, bag_1, bag_2, bag_3, bagp_1, bagp_2, bagp_3, wp_slcT, wp_slcL, List.drop_succ_cons, List.drop_zero, List.take_succ_cons, List.take_zero, List.drop_nil, wp_in2, wp_inIT, wp_inIL, wp_app, wp_eBm, isW_last, wp_lstM, BMt.f, BMt.T, ofS_inj, strOk_lit, String.reduceEq, decide_false, decide_true, Bool.not_true, Bool.not_false, Bool.or_false, Bool.false_or, Bool.or_true, Bool.true_or, and_self, wp_eChn, wp_gTp, wp_gsCons, wp_gsNil, wp_isN, wipeE, List.getD_cons_zero, List.getD_cons_succ, Option.map_some, mk_tup, mk_lst, wp_len]
  refine wp_cmpL (I := fun ws acc st => st = [B1.ob] ∧ ∃ (zs : List (Int × Fc)) (ds : List Int), (∀ p ∈ zs, p ∈ fs) ∧ ws = (zs.map pairT).map Wd.v ∧ acc = (ds.map T.int).map Wd.v ∧ (∀ x ∈ ds, 0 ≤ x) ∧ ds.length + zs.length ≤ 30) ?_ ?_ _ _ _ ⟨rfl, fs, [], fun _ h => h, rfl, rfl, by simp, by simpa using hl⟩
  · rintro acc st ⟨rfl, zs, ds, hz, e, rfl, hd, hdl⟩
    refine ⟨trivial, ?_⟩
    simp (maxSteps := 2000000) only [frzL_ts, wp_sFor, denS, den, Den.of, CE.cnt, CE.isNil, CO.f, BO.f, BI.den, wp_seq, wp_sIf, wp_tAnd, wp_tOr, wp_tNot, wp_tOf, wp_tCmp, wp_eBin, wp_eAnd, wp_eOr, wp_eNot, wp_eNeg, wp_eIte, wp_eSlc, wp_pNone, wp_pSome, wp_bYes, wp_asB, wp_eVar, wp_eT, wp_put, wp_asg, wp_gNam, wp_nil, wp_ret, wp_exp, wp_eApp, wp_lCons, wp_lNil, wp_ok, wp_bad, wp_nx, wp_rt, wp_bk, wp_ct, List.map_cons, List.map_nil, List.cons_append, List.nil_append, List.append_nil, List.replicate_succ, List.replicate_zero, Nat.reduceSub, List.getElem?_cons_zero, List.getElem?_cons_succ, List.set_cons_zero, List.set_cons_succ, Nat.reduceAdd, Nat.reduceLeDiff, allT_v, allT_nil, List.length_cons, List.length_nil, List.length_append, List.length_map, Nat.succ_eq_add_one, ite_true, ite_false, if_true, if_false, reduceIte, Bool.false_eq_true, decide_eq_true_eq, Bool.not_eq_true, Bool.not_eq_false, true_and, and_true, wp_bInt, wp_addI, wp_addT, wp_addL, wp_eqI, wp_eqB, wp_eqS, ixT0, ixL0, ixT1, ixL1, ixT2, ixL2, ixT3, ixL3, ixT4, ixL4, ixT5, ixL5, ixT6, ixL6, ixT7, ixL7, cutF1, cutU1, cutF2, cutU2, cutF3, cutU3, cutF4, cutU4, cutF5, cutU5, cutF6, cutU6, bag_0, bag_1, bag_2, bag_3, bagp_1, bagp_2, bagp_3, wp_slcT, wp_slcL, List.drop_succ_cons, List.drop_zero, List.take_succ_cons, List.take_zero, List.drop_nil, wp_in2, wp_inIT, wp_inIL, wp_app, wp_eBm, isW_last, wp_lstM, BMt.f, BMt.T, ofS_inj, strOk_lit, String.reduceEq, decide_false, decide_true, Bool.not_true, Bool.not_false, Bool.or_false, Bool.false_or, Bool.or_true, Bool.true_or, and_self, wp_eChn, wp_gTp, wp_gsCons, wp_gsNil, wp_isN, wipeE, List.getD_cons_zero, List.getD_cons_succ, Option.map_some, mk_tup, mk_lst, wp_len]
    refine ⟨small1000L (by omega), ?_⟩
    simp (maxSteps := 2000000) only [wp_bind, denS, den, Den.of, CE.cnt, CE.isNil, CO.f, BO.f, BI.den, wp_seq, wp_sIf, wp_tAnd, wp_tOr, wp_tNot, wp_tOf, wp_tCmp, wp_eBin, wp_eAnd, wp_eOr, wp_eNot, wp_eNeg, wp_eIte, wp_eSlc, wp_pNone, wp_pSome, wp_bYes, wp_asB, wp_eVar, wp_eT, wp_put, wp_asg, wp_gNam, wp_nil, wp_ret, wp_exp, wp_eApp, wp_lCons, wp_lNil, wp_ok, wp_bad, wp_nx, wp_rt, wp_bk, wp_ct, List.map_cons, List.map_nil, List.cons_append, List.nil_append, List.append_nil, List.replicate_succ, List.replicate_zero, Nat.reduceSub, List.getElem?_cons_zero, List.getElem?_cons_succ, List.set_cons_zero, List.set_cons_succ, Nat.reduceAdd, Nat.reduceLeDiff, allT_v, allT_nil, List.length_cons, List.length_nil, List.length_append, List.length_map, Nat.succ_eq_add_one, ite_true, ite_false, if_true, if_false, reduceIte, Bool.false_eq_true, decide_eq_true_eq, Bool.not_eq_true, Bool.not_eq_false, true_and, and_true, wp_bInt, wp_addI, wp_addT, wp_addL, wp_eqI, wp_eqB, wp_eqS, ixT0, ixL0, ixT1, ixL1, ixT2, ixL2, ixT3, ixL3, ixT4, ixL4, ixT5, ixL5, ixT6, ixL6, ixT7, ixL7, cutF1, cutU1, cutF2, cutU2, cutF3, cutU3, cutF4, cutU4, cutF5, cutU5, cutF6, cutU6, bag_0, bag_1, bag_2, bag_3, bagp_1, bagp_2, bagp_3, wp_slcT, wp_slcL, List.drop_succ_cons, List.drop_zero, List.take_succ_cons, List.take_zero, List.drop_nil, wp_in2, wp_inIT, wp_inIL, wp_app, wp_eBm, isW_last, wp_lstM, BMt.f, BMt.T, ofS_inj, strOk_lit, String.reduceEq, decide_false, decide_true, Bool.not_true, Bool.not_false, Bool.or_false, Bool.false_or, Bool.or_true, Bool.true_or, and_self, wp_eChn, wp_gTp, wp_gsCons, wp_gsNil, wp_isN, wipeE, List.getD_cons_zero, List.getD_cons_succ, Option.map_some, mk_tup, mk_lst, wp_len]
    refine wp_rng1 (by decide) ?_
    refine wp_forL (I := fun ws ρ st => ∃ (B2 : Bag) (x6 x7 x8 : Option Wd), st = [B2.ob] ∧ ρ = [some (.v (.scr ns)), some (.ref 0), some (.v (.lst (fs.map pairT))), some (.v (.lst (fs.map pairT))), some (.v (.lst [.str "toll", .str "board", .str "trust"])), some (.v (.lst (.int 0 :: ds.map .int))), x6, x7, x8, none, none]) ?_ ?_ _ _ _ ⟨B1, none, none, none, rfl, rfl⟩
    · rintro ρ st ⟨B2, x6, x7, x8, rfl, rfl⟩
      refine ⟨trivial, ?_⟩
      dsimp only
      refine close_nil (Q := fun w x => w = Wd.v (T.bl true)) ?_
      rfl
    · rintro w ws ρ st ⟨B2, x6, x7, x8, rfl, rfl⟩
      refine ⟨trivial, ?_⟩
      rw [wp_gNam]
      refine wp_mid (R := fun ρ st => ∃ (B3 : Bag) (g : Int), 0 ≤ g ∧ g < 8 ∧ st = [B3.ob] ∧ ρ = [some (.v (.scr ns)), some (.ref 0), some (.v (.lst (fs.map pairT))), some (.v (.lst (fs.map pairT))), some (.v (.lst [.str "toll", .str "board", .str "trust"])), some (.v (.lst (.int 0 :: ds.map .int))), some w, some (.v (.int g)), x8, none, none]) ?_ fun ρ1 st1 ⟨B3, g, g0, g1, e1, e2⟩ => ?_
      · simp (maxSteps := 2000000) only [denS, den, Den.of, CE.cnt, CE.isNil, CO.f, BO.f, BI.den, wp_seq, wp_sIf, wp_tAnd, wp_tOr, wp_tNot, wp_tOf, wp_tCmp, wp_eBin, wp_eAnd, wp_eOr, wp_eNot, wp_eNeg, wp_eIte, wp_eSlc, wp_pNone, wp_pSome, wp_bYes, wp_asB, wp_eVar, wp_eT, wp_put, wp_asg, wp_gNam, wp_nil, wp_ret, wp_exp, wp_eApp, wp_lCons, wp_lNil, wp_ok, wp_bad, wp_nx, wp_rt, wp_bk, wp_ct, List.map_cons, List.map_nil, List.cons_append, List.nil_append, List.append_nil, List.replicate_succ, List.replicate_zero, Nat.reduceSub, List.getElem?_cons_zero, List.getElem?_cons_succ, List.set_cons_zero, List.set_cons_succ, Nat.reduceAdd, Nat.reduceLeDiff, allT_v, allT_nil, List.length_cons, List.length_nil, List.length_append, List.length_map, Nat.succ_eq_add_one, ite_true, ite_false, if_true, if_false, reduceIte, Bool.false_eq_true, decide_eq_true_eq, Bool.not_eq_true, Bool.not_eq_false, true_and, and_true, wp_bInt, wp_addI, wp_addT, wp_addL, wp_eqI, wp_eqB, wp_eqS, ixT0, ixL0, ixT1, ixL1, ixT2, ixL2, ixT3, ixL3, ixT4, ixL4, ixT5, ixL5, ixT6, ixL6, ixT7, ixL7, cutF1, cutU1, cutF2, cutU2, cutF3, cutU3, cutF4, cutU4, cutF5, cutU5, cutF6, cutU6, bag_0, bag_1, bag_2, bag_3, bagp_1, bagp_2, bagp_3, wp_slcT, wp_slcL, List.drop_succ_cons, List.drop_zero, List.take_succ_cons, List.take_zero, List.drop_nil, wp_in2, wp_inIT, wp_inIL, wp_app, wp_eBm, isW_last, wp_lstM, BMt.f, BMt.T, ofS_inj, strOk_lit, String.reduceEq, decide_false, decide_true, Bool.not_true, Bool.not_false, Bool.or_false, Bool.false_or, Bool.or_true, Bool.true_or, and_self, wp_eChn, wp_gTp, wp_gsCons, wp_gsNil, wp_isN, wipeE, List.getD_cons_zero, List.getD_cons_succ, Option.map_some, mk_tup, mk_lst, wp_len]
        exact gate_wp fun g B3 g0 g1 => ⟨B3, g, g0, g1, rfl, rfl⟩
      subst e1 e2
      refine wp_mid (R := fun ρ st => ∃ (B4 : Bag) (d : Int), 0 ≤ d ∧ st = [B4.ob] ∧ ρ = [some (.v (.scr ns)), some (.ref 0), some (.v (.lst (fs.map pairT))), some (.v (.lst (fs.map pairT))), some (.v (.lst [.str "toll", .str "board", .str "trust"])), some (.v (.lst (.int 0 :: ds.map .int))), some w, some (.v (.int g)), some (.v (.int d)), none, none]) ?_ fun ρ1 st1 ⟨B4, d, d0, e1, e2⟩ => ?_
      · simp (maxSteps := 2000000) only [denS, den, Den.of, CE.cnt, CE.isNil, CO.f, BO.f, BI.den, wp_seq, wp_sIf, wp_tAnd, wp_tOr, wp_tNot, wp_tOf, wp_tCmp, wp_eBin, wp_eAnd, wp_eOr, wp_eNot, wp_eNeg, wp_eIte, wp_eSlc, wp_pNone, wp_pSome, wp_bYes, wp_asB, wp_eVar, wp_eT, wp_put, wp_asg, wp_gNam, wp_nil, wp_ret, wp_exp, wp_eApp, wp_lCons, wp_lNil, wp_ok, wp_bad, wp_nx, wp_rt, wp_bk, wp_ct, List.map_cons, List.map_nil, List.cons_append, List.nil_append, List.append_nil, List.replicate_succ, List.replicate_zero, Nat.reduceSub, List.getElem?_cons_zero, List.getElem?_cons_succ, List.set_cons_zero, List.set_cons_succ, Nat.reduceAdd, Nat.reduceLeDiff, allT_v, allT_nil, List.length_cons, List.length_nil, List.length_append, List.length_map, Nat.succ_eq_add_one, ite_true, ite_false, if_true, if_false, reduceIte, Bool.false_eq_true, decide_eq_true_eq, Bool.not_eq_true, Bool.not_eq_false, true_and, and_true, wp_bInt, wp_addI, wp_addT, wp_addL, wp_eqI, wp_eqB, wp_eqS, ixT0, ixL0, ixT1, ixL1, ixT2, ixL2, ixT3, ixL3, ixT4, ixL4, ixT5, ixL5, ixT6, ixL6, ixT7, ixL7, cutF1, cutU1, cutF2, cutU2, cutF3, cutU3, cutF4, cutU4, cutF5, cutU5, cutF6, cutU6, bag_0, bag_1, bag_2, bag_3, bagp_1, bagp_2, bagp_3, wp_slcT, wp_slcL, List.drop_succ_cons, List.drop_zero, List.take_succ_cons, List.take_zero, List.drop_nil, wp_in2, wp_inIT, wp_inIL, wp_app, wp_eBm, isW_last, wp_lstM, BMt.f, BMt.T, ofS_inj, strOk_lit, String.reduceEq, decide_false, decide_true, Bool.not_true, Bool.not_false, Bool.or_false, Bool.false_or, Bool.or_true, Bool.true_or, and_self, wp_eChn, wp_gTp, wp_gsCons, wp_gsNil, wp_isN, wipeE, List.getD_cons_zero, List.getD_cons_succ, Option.map_some, mk_tup, mk_lst, wp_len]
        exact day_wp fun d B4 d0 d1 => ⟨B4, d, d0, rfl, rfl⟩
      subst e1 e2
      refine wp_mid (R := fun ρ st => ∃ (B4 : Bag) (d : Int), 0 ≤ d ∧ st = [B4.ob] ∧ ρ = [some (.v (.scr ns)), some (.ref 0), some (.v (.lst (fs.map pairT))), some (.v (.lst (fs.map pairT))), some (.v (.lst [.str "toll", .str "board", .str "trust"])), some (.v (.lst (.int 0 :: ds.map .int))), some w, some (.v (.int g)), some (.v (.int d)), none, none]) ?_ fun ρ1 st1 ⟨B5, d, d0, e1, e2⟩ => ?_
      · simp (maxSteps := 2000000) only [denS, den, Den.of, CE.cnt, CE.isNil, CO.f, BO.f, BI.den, wp_seq, wp_sIf, wp_tAnd, wp_tOr, wp_tNot, wp_tOf, wp_tCmp, wp_eBin, wp_eAnd, wp_eOr, wp_eNot, wp_eNeg, wp_eIte, wp_eSlc, wp_pNone, wp_pSome, wp_bYes, wp_asB, wp_eVar, wp_eT, wp_put, wp_asg, wp_gNam, wp_nil, wp_ret, wp_exp, wp_eApp, wp_lCons, wp_lNil, wp_ok, wp_bad, wp_nx, wp_rt, wp_bk, wp_ct, List.map_cons, List.map_nil, List.cons_append, List.nil_append, List.append_nil, List.replicate_succ, List.replicate_zero, Nat.reduceSub, List.getElem?_cons_zero, List.getElem?_cons_succ, List.set_cons_zero, List.set_cons_succ, Nat.reduceAdd, Nat.reduceLeDiff, allT_v, allT_nil, List.length_cons, List.length_nil, List.length_append, List.length_map, Nat.succ_eq_add_one, ite_true, ite_false, if_true, if_false, reduceIte, Bool.false_eq_true, decide_eq_true_eq, Bool.not_eq_true, Bool.not_eq_false, true_and, and_true, wp_bInt, wp_addI, wp_addT, wp_addL, wp_eqI, wp_eqB, wp_eqS, ixT0, ixL0, ixT1, ixL1, ixT2, ixL2, ixT3, ixL3, ixT4, ixL4, ixT5, ixL5, ixT6, ixL6, ixT7, ixL7, cutF1, cutU1, cutF2, cutU2, cutF3, cutU3, cutF4, cutU4, cutF5, cutU5, cutF6, cutU6, bag_0, bag_1, bag_2, bag_3, bagp_1, bagp_2, bagp_3, wp_slcT, wp_slcL, List.drop_succ_cons, List.drop_zero, List.take_succ_cons, List.take_zero, List.drop_nil, wp_in2, wp_inIT, wp_inIL, wp_app, wp_eBm, isW_last, wp_lstM, BMt.f, BMt.T, ofS_inj, strOk_lit, String.reduceEq, decide_false, decide_true, Bool.not_true, Bool.not_false, Bool.or_false, Bool.false_or, Bool.or_true, Bool.true_or, and_self, wp_eChn, wp_gTp, wp_gsCons, wp_gsNil, wp_isN, wipeE, List.getD_cons_zero, List.getD_cons_succ, Option.map_some, mk_tup, mk_lst, wp_len]
        refine pull_lit (n := 2) (by decide) (by decide) fun r B5 r0 r1 => ?_
        simp (maxSteps := 2000000) only [denS, den, Den.of, CE.cnt, CE.isNil, CO.f, BO.f, BI.den, wp_seq, wp_sIf, wp_tAnd, wp_tOr, wp_tNot, wp_tOf, wp_tCmp, wp_eBin, wp_eAnd, wp_eOr, wp_eNot, wp_eNeg, wp_eIte, wp_eSlc, wp_pNone, wp_pSome, wp_bYes, wp_asB, wp_eVar, wp_eT, wp_put, wp_asg, wp_gNam, wp_nil, wp_ret, wp_exp, wp_eApp, wp_lCons, wp_lNil, wp_ok, wp_bad, wp_nx, wp_rt, wp_bk, wp_ct, List.map_cons, List.map_nil, List.cons_append, List.nil_append, List.append_nil, List.replicate_succ, List.replicate_zero, Nat.reduceSub, List.getElem?_cons_zero, List.getElem?_cons_succ, List.set_cons_zero, List.set_cons_succ, Nat.reduceAdd, Nat.reduceLeDiff, allT_v, allT_nil, List.length_cons, List.length_nil, List.length_append, List.length_map, Nat.succ_eq_add_one, ite_true, ite_false, if_true, if_false, reduceIte, Bool.false_eq_true, decide_eq_true_eq, Bool.not_eq_true, Bool.not_eq_false, true_and, and_true, wp_bInt, wp_addI, wp_addT, wp_addL, wp_eqI, wp_eqB, wp_eqS, ixT0, ixL0, ixT1, ixL1, ixT2, ixL2, ixT3, ixL3, ixT4, ixL4, ixT5, ixL5, ixT6, ixL6, ixT7, ixL7, cutF1, cutU1, cutF2, cutU2, cutF3, cutU3, cutF4, cutU4, cutF5, cutU5, cutF6, cutU6, bag_0, bag_1, bag_2, bag_3, bagp_1, bagp_2, bagp_3, wp_slcT, wp_slcL, List.drop_succ_cons, List.drop_zero, List.take_succ_cons, List.take_zero, List.drop_nil, wp_in2, wp_inIT, wp_inIL, wp_app, wp_eBm, isW_last, wp_lstM, BMt.f, BMt.T, ofS_inj, strOk_lit, String.reduceEq, decide_false, decide_true, Bool.not_true, Bool.not_false, Bool.or_false, Bool.false_or, Bool.or_true, Bool.true_or, and_self, wp_eChn, wp_gTp, wp_gsCons, wp_gsNil, wp_isN, wipeE, List.getD_cons_zero, List.getD_cons_succ, Option.map_some, mk_tup, mk_lst, wp_len]
        by_cases hr : r = 0
        · rw [if_pos hr]
          refine pull_wp (by omega) (log_small (by omega)) fun j B6 j0 j1 => ?_
          refine idxL_mem j0 (by simpa using j1) fun t ht => ?_
          have ht : ∃ x : Int, t = .int x := by
            rcases List.mem_cons.mp ht with rfl | ht
            · exact ⟨_, rfl⟩
            · obtain ⟨x, _, rfl⟩ := List.mem_map.mp ht
              exact ⟨_, rfl⟩
          obtain ⟨x, rfl⟩ := ht
          refine pull_lit (n := 2) (by decide) (by decide) fun r2 B7 _ _ => ?_
          simp (maxSteps := 2000000) only [wp_max2, denS, den, Den.of, CE.cnt, CE.isNil, CO.f, BO.f, BI.den, wp_seq, wp_sIf, wp_tAnd, wp_tOr, wp_tNot, wp_tOf, wp_tCmp, wp_eBin, wp_eAnd, wp_eOr, wp_eNot, wp_eNeg, wp_eIte, wp_eSlc, wp_pNone, wp_pSome, wp_bYes, wp_asB, wp_eVar, wp_eT, wp_put, wp_asg, wp_gNam, wp_nil, wp_ret, wp_exp, wp_eApp, wp_lCons, wp_lNil, wp_ok, wp_bad, wp_nx, wp_rt, wp_bk, wp_ct, List.map_cons, List.map_nil, List.cons_append, List.nil_append, List.append_nil, List.replicate_succ, List.replicate_zero, Nat.reduceSub, List.getElem?_cons_zero, List.getElem?_cons_succ, List.set_cons_zero, List.set_cons_succ, Nat.reduceAdd, Nat.reduceLeDiff, allT_v, allT_nil, List.length_cons, List.length_nil, List.length_append, List.length_map, Nat.succ_eq_add_one, ite_true, ite_false, if_true, if_false, reduceIte, Bool.false_eq_true, decide_eq_true_eq, Bool.not_eq_true, Bool.not_eq_false, true_and, and_true, wp_bInt, wp_addI, wp_addT, wp_addL, wp_eqI, wp_eqB, wp_eqS, ixT0, ixL0, ixT1, ixL1, ixT2, ixL2, ixT3, ixL3, ixT4, ixL4, ixT5, ixL5, ixT6, ixL6, ixT7, ixL7, cutF1, cutU1, cutF2, cutU2, cutF3, cutU3, cutF4, cutU4, cutF5, cutU5, cutF6, cutU6, bag_0, bag_1, bag_2, bag_3, bagp_1, bagp_2, bagp_3, wp_slcT, wp_slcL, List.drop_succ_cons, List.drop_zero, List.take_succ_cons, List.take_zero, List.drop_nil, wp_in2, wp_inIT, wp_inIL, wp_app, wp_eBm, isW_last, wp_lstM, BMt.f, BMt.T, ofS_inj, strOk_lit, String.reduceEq, decide_false, decide_true, Bool.not_true, Bool.not_false, Bool.or_false, Bool.false_or, Bool.or_true, Bool.true_or, and_self, wp_eChn, wp_gTp, wp_gsCons, wp_gsNil, wp_isN, wipeE, List.getD_cons_zero, List.getD_cons_succ, Option.map_some, mk_tup, mk_lst, wp_len]
          refine ⟨rfl, B7, _, ?_, rfl, rfl⟩
          split <;> omega
        · rw [if_neg hr]
          exact ⟨B5, d, d0, rfl, rfl⟩
      subst e1 e2
      obtain ⟨fd, p1, p2, p3⟩ := facts_py hf
      simp (maxSteps := 2000000) only [ne_same p1 p2 p3, denS, den, Den.of, CE.cnt, CE.isNil, CO.f, BO.f, BI.den, wp_seq, wp_sIf, wp_tAnd, wp_tOr, wp_tNot, wp_tOf, wp_tCmp, wp_eBin, wp_eAnd, wp_eOr, wp_eNot, wp_eNeg, wp_eIte, wp_eSlc, wp_pNone, wp_pSome, wp_bYes, wp_asB, wp_eVar, wp_eT, wp_put, wp_asg, wp_gNam, wp_nil, wp_ret, wp_exp, wp_eApp, wp_lCons, wp_lNil, wp_ok, wp_bad, wp_nx, wp_rt, wp_bk, wp_ct, List.map_cons, List.map_nil, List.cons_append, List.nil_append, List.append_nil, List.replicate_succ, List.replicate_zero, Nat.reduceSub, List.getElem?_cons_zero, List.getElem?_cons_succ, List.set_cons_zero, List.set_cons_succ, Nat.reduceAdd, Nat.reduceLeDiff, allT_v, allT_nil, List.length_cons, List.length_nil, List.length_append, List.length_map, Nat.succ_eq_add_one, ite_true, ite_false, if_true, if_false, reduceIte, Bool.false_eq_true, decide_eq_true_eq, Bool.not_eq_true, Bool.not_eq_false, true_and, and_true, wp_bInt, wp_addI, wp_addT, wp_addL, wp_eqI, wp_eqB, wp_eqS, ixT0, ixL0, ixT1, ixL1, ixT2, ixL2, ixT3, ixL3, ixT4, ixL4, ixT5, ixL5, ixT6, ixL6, ixT7, ixL7, cutF1, cutU1, cutF2, cutU2, cutF3, cutU3, cutF4, cutU4, cutF5, cutU5, cutF6, cutU6, bag_0, bag_1, bag_2, bag_3, bagp_1, bagp_2, bagp_3, wp_slcT, wp_slcL, List.drop_succ_cons, List.drop_zero, List.take_succ_cons, List.take_zero, List.drop_nil, wp_in2, wp_inIT, wp_inIL, wp_app, wp_eBm, isW_last, wp_lstM, BMt.f, BMt.T, ofS_inj, strOk_lit, String.reduceEq, decide_false, decide_true, Bool.not_true, Bool.not_false, Bool.or_false, Bool.false_or, Bool.or_true, Bool.true_or, and_self, wp_eChn, wp_gTp, wp_gsCons, wp_gsNil, wp_isN, wipeE, List.getD_cons_zero, List.getD_cons_succ, Option.map_some, mk_tup, mk_lst, wp_len]
      refine toll_on_wp hf (by omega) fun k1 v1 => ?_
      refine hold_wp hf (strOk_lit _) (rest_toll hf) fun v v2 => ?_
      have := HoldV.uniq hf v1 v2
      subst this
      refine like_int (f := 5) ?_
      simp (maxSteps := 2000000) only [denS, den, Den.of, CE.cnt, CE.isNil, CO.f, BO.f, BI.den, wp_seq, wp_sIf, wp_tAnd, wp_tOr, wp_tNot, wp_tOf, wp_tCmp, wp_eBin, wp_eAnd, wp_eOr, wp_eNot, wp_eNeg, wp_eIte, wp_eSlc, wp_pNone, wp_pSome, wp_bYes, wp_asB, wp_eVar, wp_eT, wp_put, wp_asg, wp_gNam, wp_nil, wp_ret, wp_exp, wp_eApp, wp_lCons, wp_lNil, wp_ok, wp_bad, wp_nx, wp_rt, wp_bk, wp_ct, List.map_cons, List.map_nil, List.cons_append, List.nil_append, List.append_nil, List.replicate_succ, List.replicate_zero, Nat.reduceSub, List.getElem?_cons_zero, List.getElem?_cons_succ, List.set_cons_zero, List.set_cons_succ, Nat.reduceAdd, Nat.reduceLeDiff, allT_v, allT_nil, List.length_cons, List.length_nil, List.length_append, List.length_map, Nat.succ_eq_add_one, ite_true, ite_false, if_true, if_false, reduceIte, Bool.false_eq_true, decide_eq_true_eq, Bool.not_eq_true, Bool.not_eq_false, true_and, and_true, wp_bInt, wp_addI, wp_addT, wp_addL, wp_eqI, wp_eqB, wp_eqS, ixT0, ixL0, ixT1, ixL1, ixT2, ixL2, ixT3, ixL3, ixT4, ixL4, ixT5, ixL5, ixT6, ixL6, ixT7, ixL7, cutF1, cutU1, cutF2, cutU2, cutF3, cutU3, cutF4, cutU4, cutF5, cutU5, cutF6, cutU6, bag_0, bag_1, bag_2, bag_3, bagp_1, bagp_2, bagp_3, wp_slcT, wp_slcL, List.drop_succ_cons, List.drop_zero, List.take_succ_cons, List.take_zero, List.drop_nil, wp_in2, wp_inIT, wp_inIL, wp_app, wp_eBm, isW_last, wp_lstM, BMt.f, BMt.T, ofS_inj, strOk_lit, String.reduceEq, decide_false, decide_true, Bool.not_true, Bool.not_false, Bool.or_false, Bool.false_or, Bool.or_true, Bool.true_or, and_self, wp_eChn, wp_gTp, wp_gsCons, wp_gsNil, wp_isN, wipeE, List.getD_cons_zero, List.getD_cons_succ, Option.map_some, mk_tup, mk_lst, wp_len]
      refine trust_on_wp hf (by omega) fun k2 v3 => ?_
      refine hold_wp hf (strOk_lit _) (rest_trust hf) fun v v4 => ?_
      have := HoldV.uniq hf v3 v4
      subst this
      refine like_int (f := 5) ?_
      simp (maxSteps := 2000000) only [denS, den, Den.of, CE.cnt, CE.isNil, CO.f, BO.f, BI.den, wp_seq, wp_sIf, wp_tAnd, wp_tOr, wp_tNot, wp_tOf, wp_tCmp, wp_eBin, wp_eAnd, wp_eOr, wp_eNot, wp_eNeg, wp_eIte, wp_eSlc, wp_pNone, wp_pSome, wp_bYes, wp_asB, wp_eVar, wp_eT, wp_put, wp_asg, wp_gNam, wp_nil, wp_ret, wp_exp, wp_eApp, wp_lCons, wp_lNil, wp_ok, wp_bad, wp_nx, wp_rt, wp_bk, wp_ct, List.map_cons, List.map_nil, List.cons_append, List.nil_append, List.append_nil, List.replicate_succ, List.replicate_zero, Nat.reduceSub, List.getElem?_cons_zero, List.getElem?_cons_succ, List.set_cons_zero, List.set_cons_succ, Nat.reduceAdd, Nat.reduceLeDiff, allT_v, allT_nil, List.length_cons, List.length_nil, List.length_append, List.length_map, Nat.succ_eq_add_one, ite_true, ite_false, if_true, if_false, reduceIte, Bool.false_eq_true, decide_eq_true_eq, Bool.not_eq_true, Bool.not_eq_false, true_and, and_true, wp_bInt, wp_addI, wp_addT, wp_addL, wp_eqI, wp_eqB, wp_eqS, ixT0, ixL0, ixT1, ixL1, ixT2, ixL2, ixT3, ixL3, ixT4, ixL4, ixT5, ixL5, ixT6, ixL6, ixT7, ixL7, cutF1, cutU1, cutF2, cutU2, cutF3, cutU3, cutF4, cutU4, cutF5, cutU5, cutF6, cutU6, bag_0, bag_1, bag_2, bag_3, bagp_1, bagp_2, bagp_3, wp_slcT, wp_slcL, List.drop_succ_cons, List.drop_zero, List.take_succ_cons, List.take_zero, List.drop_nil, wp_in2, wp_inIT, wp_inIL, wp_app, wp_eBm, isW_last, wp_lstM, BMt.f, BMt.T, ofS_inj, strOk_lit, String.reduceEq, decide_false, decide_true, Bool.not_true, Bool.not_false, Bool.or_false, Bool.false_or, Bool.or_true, Bool.true_or, and_self, wp_eChn, wp_gTp, wp_gsCons, wp_gsNil, wp_isN, wipeE, List.getD_cons_zero, List.getD_cons_succ, Option.map_some, mk_tup, mk_lst, wp_len]
      refine board_on_wp hf (by omega) fun gs l1 m1 v5 => ?_
      refine clears_wp hf fun gs2 l2 m2 v6 => ?_
      have e3 := HoldV.uniq hf v5 v6
      have e4 : gs = gs2 := int_inj (by simpa using e3)
      subst e4
      simp (maxSteps := 2000000) only [tupleL, denS, den, Den.of, CE.cnt, CE.isNil, CO.f, BO.f, BI.den, wp_seq, wp_sIf, wp_tAnd, wp_tOr, wp_tNot, wp_tOf, wp_tCmp, wp_eBin, wp_eAnd, wp_eOr, wp_eNot, wp_eNeg, wp_eIte, wp_eSlc, wp_pNone, wp_pSome, wp_bYes, wp_asB, wp_eVar, wp_eT, wp_put, wp_asg, wp_gNam, wp_nil, wp_ret, wp_exp, wp_eApp, wp_lCons, wp_lNil, wp_ok, wp_bad, wp_nx, wp_rt, wp_bk, wp_ct, List.map_cons, List.map_nil, List.cons_append, List.nil_append, List.append_nil, List.replicate_succ, List.replicate_zero, Nat.reduceSub, List.getElem?_cons_zero, List.getElem?_cons_succ, List.set_cons_zero, List.set_cons_succ, Nat.reduceAdd, Nat.reduceLeDiff, allT_v, allT_nil, List.length_cons, List.length_nil, List.length_append, List.length_map, Nat.succ_eq_add_one, ite_true, ite_false, if_true, if_false, reduceIte, Bool.false_eq_true, decide_eq_true_eq, Bool.not_eq_true, Bool.not_eq_false, true_and, and_true, wp_bInt, wp_addI, wp_addT, wp_addL, wp_eqI, wp_eqB, wp_eqS, ixT0, ixL0, ixT1, ixL1, ixT2, ixL2, ixT3, ixL3, ixT4, ixL4, ixT5, ixL5, ixT6, ixL6, ixT7, ixL7, cutF1, cutU1, cutF2, cutU2, cutF3, cutU3, cutF4, cutU4, cutF5, cutU5, cutF6, cutU6, bag_0, bag_1, bag_2, bag_3, bagp_1, bagp_2, bagp_3, wp_slcT, wp_slcL, List.drop_succ_cons, List.drop_zero, List.take_succ_cons, List.take_zero, List.drop_nil, wp_in2, wp_inIT, wp_inIL, wp_app, wp_eBm, isW_last, wp_lstM, BMt.f, BMt.T, ofS_inj, strOk_lit, String.reduceEq, decide_false, decide_true, Bool.not_true, Bool.not_false, Bool.or_false, Bool.false_or, Bool.or_true, Bool.true_or, and_self, wp_eChn, wp_gTp, wp_gsCons, wp_gsNil, wp_isN, wipeE, List.getD_cons_zero, List.getD_cons_succ, Option.map_some, mk_tup, mk_lst, wp_len]
      rw [sortU_sel m1 g0 g1]
      refine like_tup (f := 4) (by have := selK_len gs g 8; omega) ?_
      simp (maxSteps := 2000000) only [ne_same p1 p2 p3, denS, den, Den.of, CE.cnt, CE.isNil, CO.f, BO.f, BI.den, wp_seq, wp_sIf, wp_tAnd, wp_tOr, wp_tNot, wp_tOf, wp_tCmp, wp_eBin, wp_eAnd, wp_eOr, wp_eNot, wp_eNeg, wp_eIte, wp_eSlc, wp_pNone, wp_pSome, wp_bYes, wp_asB, wp_eVar, wp_eT, wp_put, wp_asg, wp_gNam, wp_nil, wp_ret, wp_exp, wp_eApp, wp_lCons, wp_lNil, wp_ok, wp_bad, wp_nx, wp_rt, wp_bk, wp_ct, List.map_cons, List.map_nil, List.cons_append, List.nil_append, List.append_nil, List.replicate_succ, List.replicate_zero, Nat.reduceSub, List.getElem?_cons_zero, List.getElem?_cons_succ, List.set_cons_zero, List.set_cons_succ, Nat.reduceAdd, Nat.reduceLeDiff, allT_v, allT_nil, List.length_cons, List.length_nil, List.length_append, List.length_map, Nat.succ_eq_add_one, ite_true, ite_false, if_true, if_false, reduceIte, Bool.false_eq_true, decide_eq_true_eq, Bool.not_eq_true, Bool.not_eq_false, true_and, and_true, wp_bInt, wp_addI, wp_addT, wp_addL, wp_eqI, wp_eqB, wp_eqS, ixT0, ixL0, ixT1, ixL1, ixT2, ixL2, ixT3, ixL3, ixT4, ixL4, ixT5, ixL5, ixT6, ixL6, ixT7, ixL7, cutF1, cutU1, cutF2, cutU2, cutF3, cutU3, cutF4, cutU4, cutF5, cutU5, cutF6, cutU6, bag_0, bag_1, bag_2, bag_3, bagp_1, bagp_2, bagp_3, wp_slcT, wp_slcL, List.drop_succ_cons, List.drop_zero, List.take_succ_cons, List.take_zero, List.drop_nil, wp_in2, wp_inIT, wp_inIL, wp_app, wp_eBm, isW_last, wp_lstM, BMt.f, BMt.T, ofS_inj, strOk_lit, String.reduceEq, decide_false, decide_true, Bool.not_true, Bool.not_false, Bool.or_false, Bool.false_or, Bool.or_true, Bool.true_or, and_self, wp_eChn, wp_gTp, wp_gsCons, wp_gsNil, wp_isN, wipeE, List.getD_cons_zero, List.getD_cons_succ, Option.map_some, mk_tup, mk_lst, wp_len]
      exact ⟨B5, _, _, _, rfl, rfl⟩
  · rintro w ws acc st ⟨rfl, zs, ds, hz, e, rfl, hd, hdl⟩
    refine ⟨trivial, ?_⟩
    cases zs with
    | nil => cases e
    | cons p zs =>
      simp only [List.map_cons, List.cons.injEq] at e
      obtain ⟨rfl, rfl⟩ := e
      have b0 := (hf.ok p (hz p (List.mem_cons_self ..))).b0
      simp only [List.length_cons] at hdl
      simp (maxSteps := 2000000) only [pairT, Fc.t, wp_in3, denS, den, Den.of, CE.cnt, CE.isNil, CO.f, BO.f, BI.den, wp_seq, wp_sIf, wp_tAnd, wp_tOr, wp_tNot, wp_tOf, wp_tCmp, wp_eBin, wp_eAnd, wp_eOr, wp_eNot, wp_eNeg, wp_eIte, wp_eSlc, wp_pNone, wp_pSome, wp_bYes, wp_asB, wp_eVar, wp_eT, wp_put, wp_asg, wp_gNam, wp_nil, wp_ret, wp_exp, wp_eApp, wp_lCons, wp_lNil, wp_ok, wp_bad, wp_nx, wp_rt, wp_bk, wp_ct, List.map_cons, List.map_nil, List.cons_append, List.nil_append, List.append_nil, List.replicate_succ, List.replicate_zero, Nat.reduceSub, List.getElem?_cons_zero, List.getElem?_cons_succ, List.set_cons_zero, List.set_cons_succ, Nat.reduceAdd, Nat.reduceLeDiff, allT_v, allT_nil, List.length_cons, List.length_nil, List.length_append, List.length_map, Nat.succ_eq_add_one, ite_true, ite_false, if_true, if_false, reduceIte, Bool.false_eq_true, decide_eq_true_eq, Bool.not_eq_true, Bool.not_eq_false, true_and, and_true, wp_bInt, wp_addI, wp_addT, wp_addL, wp_eqI, wp_eqB, wp_eqS, ixT0, ixL0, ixT1, ixL1, ixT2, ixL2, ixT3, ixL3, ixT4, ixL4, ixT5, ixL5, ixT6, ixL6, ixT7, ixL7, cutF1, cutU1, cutF2, cutU2, cutF3, cutU3, cutF4, cutU4, cutF5, cutU5, cutF6, cutU6, bag_0, bag_1, bag_2, bag_3, bagp_1, bagp_2, bagp_3, wp_slcT, wp_slcL, List.drop_succ_cons, List.drop_zero, List.take_succ_cons, List.take_zero, List.drop_nil, wp_in2, wp_inIT, wp_inIL, wp_app, wp_eBm, isW_last, wp_lstM, BMt.f, BMt.T, ofS_inj, strOk_lit, String.reduceEq, decide_false, decide_true, Bool.not_true, Bool.not_false, Bool.or_false, Bool.false_or, Bool.or_true, Bool.true_or, and_self, wp_eChn, wp_gTp, wp_gsCons, wp_gsNil, wp_isN, wipeE, List.getD_cons_zero, List.getD_cons_succ, Option.map_some, mk_tup, mk_lst, wp_len]
      split
      · refine ⟨zs, ds ++ [p.2.b], fun q hq => hz q (List.mem_cons_of_mem _ hq), rfl, by simp, fun x hx => ?_, by simp; omega⟩
        rcases List.mem_append.mp hx with h | h
        · exact hd x h
        · have := List.mem_singleton.mp h
          rw [this]; exact b0
      · exact ⟨zs, ds, fun q hq => hz q (List.mem_cons_of_mem _ hq), rfl, rfl, hd, by omega⟩
theorem of_wp {m : MF} {ws : List Wd} (h : (m ws []).wp (fun w _ => w = .v (.bl true)) (fun _ _ => False)) : ∃ st, m ws [] = .ok (.v (.bl true)) st := by
  cases e : m ws [] with
  | bad => rw [e] at h; exact h.elim
  | exc x st => rw [e] at h; exact h.elim
  | ok w st =>
    rw [e] at h
    have h : w = .v (.bl true) := h
    exact ⟨st, by rw [h]⟩
end K06
theorem PySem.Challenge.cw_pikeroll_k06_what_holds_on_a_day_holds : PySem.Challenge.rw_pikeroll_k06_what_holds_on_a_day.Holds :=
  K06.holds_of fun ns hn => K06.of_wp (K06.main ns hn)
